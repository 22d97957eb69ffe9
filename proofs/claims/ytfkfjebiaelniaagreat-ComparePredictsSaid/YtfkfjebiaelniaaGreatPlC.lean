/- lemmas: PlL0 PlK0 PlP6 PlDay PlSpread PlOpen PlBnd PlHist PlP4 PlNar PlR1 PlR2 PlR3 PlR4 PlR5 PlR6 PlR7 PlR8 PlR9 PlR10 PlR11 PlR12 PlR13 PlTieM PlRWith PlBrief PlPredicts -/
import Derived.Test.YtfkfjebiaelniaaGreatPlB
import Derived.Test.YtfkfjebiaelniaaGreatMdT
import Derived.Test.YtfkfjebiaelniaaGreatPlA
set_option linter.all false
set_option linter.unusedSectionVars false
set_option linter.unusedVariables false
set_option linter.unusedSimpArgs false
noncomputable section
namespace Go.Proofs.ZzM
open Go Go.Am
def smallP (b : Book) : Bool :=
  !((b.2.2.2.2.1.take 60).any fun c => decide (9 < c.2.2.1.length) || decide (9 < c.2.2.2.1.length)) && (decide (b.2.1.length ≤ 14) && (decide (b.2.2.1.length ≤ 42) && (decide (b.2.2.2.1.length ≤ 14) && (decide (b.2.2.2.2.1.length ≤ 42) && decide (b.2.2.2.2.2.length ≤ 12)))))
theorem small_ok (b : Book) : f_w5_small b = some (smallP b) := by
  unfold f_w5_small m_w5_small
  have last : (ifb (ile (ilen b.2.1) (14 : Int)) (ifb (ile (ilen b.2.2.1) (42 : Int)) (ifb (ile (ilen b.2.2.2.1) (14 : Int)) (ifb (ile (ilen b.2.2.2.2.1) (42 : Int)) (some (ile (ilen b.2.2.2.2.2) (12 : Int))) (some false)) (some false)) (some false)) (some false)) =
      some (decide (b.2.1.length ≤ 14) && (decide (b.2.2.1.length ≤ 42) && (decide (b.2.2.2.1.length ≤ 14) && (decide (b.2.2.2.2.1.length ≤ 42) && decide (b.2.2.2.2.2.length ≤ 12))))) := by
    have e : ∀ (n m : Nat), ile (n : Int) (m : Int) = decide (n ≤ m) := fun n m => by simp [ile]
    rw [ilen_eq, ilen_eq, ilen_eq, ilen_eq, ilen_eq, show (14 : Int) = ((14 : Nat) : Int) from rfl, show (42 : Int) = ((42 : Nat) : Int) from rfl, show (12 : Int) = ((12 : Nat) : Int) from rfl, e, e, e, e, e]
    generalize decide (b.2.1.length ≤ 14) = x1
    generalize decide (b.2.2.1.length ≤ 42) = x2
    generalize decide (b.2.2.2.1.length ≤ 14) = x3
    generalize decide (b.2.2.2.2.1.length ≤ 42) = x4
    cases x1 <;> cases x2 <;> cases x3 <;> cases x4 <;> rfl
  refine Eq.trans (loop_any (b.2.2.2.2.1.take 60) (fun c => decide (9 < c.2.2.1.length) || decide (9 < c.2.2.2.1.length)) (fun _ => some false) (some false) (some (decide (b.2.1.length ≤ 14) && (decide (b.2.2.1.length ≤ 42) && (decide (b.2.2.2.1.length ≤ 14) && (decide (b.2.2.2.2.1.length ≤ 42) && decide (b.2.2.2.2.2.length ≤ 12)))))) (fun _ => rfl) (fun i c hi hc kn => ?_) (fun kn => ?_)) ?_
  · try dsimp only
    unfold m_w5_small_L0
    rw [List.length_take] at hi
    have hc' : b.2.2.2.2.1[i]? = some c := by rw [List.getElem?_take] at hc; split at hc <;> simp_all
    rw [ifb_lt' (show i < b.2.2.2.2.1.length by omega), ifb_t (by simp [ilt]; omega), iget_nat hc', iget_nat hc', ck_ok (by omega) (by omega), ifb_eq, ilen_eq, ilen_eq]
    by_cases h1 : 9 < c.2.2.1.length
    · rw [if_pos (by simp [igt]; omega), if_pos (by simp [h1])]
    · rw [if_neg (by simp [igt]; omega), ifb_eq]
      by_cases h2 : 9 < c.2.2.2.1.length
      · rw [if_pos (by simp [igt]; omega), if_pos (by simp [h2])]
      · rw [if_neg (by simp [igt]; omega), if_neg (by simp [h1, h2])]
  · try dsimp only
    unfold m_w5_small_L0
    rw [last, List.length_take, ifb_eq]
    split
    · rename_i h
      have h' : 60 < b.2.2.2.2.1.length := by rw [ilen_eq] at h; simp [ilt] at h; omega
      rw [ifb_f (by simp [ilt]; omega)]
    · rfl
  · unfold smallP
    cases List.any (List.take 60 b.2.2.2.2.1) (fun c => decide (9 < c.2.2.1.length) || decide (9 < c.2.2.2.1.length)) <;> rfl
theorem small_size {b : Book} (h : smallP b = true) : SizeOk b ∧ b.2.2.2.2.1.length ≤ 42 ∧ ∀ c ∈ b.2.2.2.2.1, c.2.2.1.length ≤ 9 ∧ c.2.2.2.1.length ≤ 9 := by
  simp only [smallP, Bool.and_eq_true, Bool.not_eq_true', decide_eq_true_eq] at h
  obtain ⟨h0, h1, h2, h3, h4, h5⟩ := h
  have hp : ∀ c ∈ b.2.2.2.2.1, c.2.2.1.length ≤ 9 ∧ c.2.2.2.1.length ≤ 9 := by
    intro c hc
    rw [List.take_of_length_le (by omega)] at h0
    have := List.any_eq_false.1 h0 c hc
    simp at this
    omega
  exact ⟨⟨by omega, by omega, by omega, by omega, by omega, fun c hc => by have := hp c hc; omega⟩, h4, hp⟩
theorem FitsP_iff {b : Book} {x : List Int} : FitsP b x = (true, 0) ↔ Good b ∧ lengthsP b x = true ∧ fitsP b x = true := by
  unfold FitsP
  constructor
  · intro h
    split at h
    · cases h
    · rename_i hc
      have hc0 : checkP b = 0 := by simpa using hc
      split at h
      · rename_i hl
        simp only [Prod.mk.injEq, and_true] at h
        exact ⟨(checkP_iff b).1 hc0, hl, h⟩
      · cases h
  · rintro ⟨h1, h2, h3⟩
    rw [if_neg (by simp [(checkP_iff b).2 h1]), if_pos h2, h3]
theorem lengthsP_iff {b : Book} {x : List Int} : lengthsP b x = true ↔ x.length = (nodesP b).length ∧ ∀ n ∈ x, -4503599627370496 ≤ n ∧ n ≤ 4503599627370496 := by
  simp [lengthsP, inP]
theorem fitsL_iff {L : List Lk} {x : List Int} : fitsL L x = true ↔ Pot L (gv x) := by
  simp only [fitsL, List.all_eq_true, decide_eq_true_eq, Pot]
  exact ⟨fun h u v m hl => h (u, v, m) hl, fun h l hl => h l.1 l.2.1 l.2.2 hl⟩
theorem gv_cons (a : Int) (x : List Int) {v : Int} (hv : 0 ≤ v) : gv (a :: x) v = if v = 0 then a else gv x (v - 1) := by
  unfold gv
  by_cases h : v = 0
  · subst h; rfl
  · obtain ⟨n, rfl⟩ := Int.eq_ofNat_of_zero_le hv
    cases n with
    | zero => simp at h
    | succ n =>
      have e : (((n + 1 : Nat) : Int) - 1).toNat = n := by omega
      rw [if_neg h, e]
      simp
theorem gv_zip {f : Int → Int → Int} {x y : List Int} (hl : x.length = y.length) {v : Int} (h0 : 0 ≤ v) (h1 : v < x.length) : gv (List.zipWith f x y) v = f (gv x v) (gv y v) := by
  obtain ⟨n, rfl⟩ := Int.eq_ofNat_of_zero_le h0
  have hx : n < x.length := by omega
  have hy : n < y.length := by omega
  unfold gv
  rw [Int.toNat_natCast, List.getElem?_eq_getElem (show n < (List.zipWith f x y).length by simp; omega), List.getElem?_eq_getElem hx, List.getElem?_eq_getElem hy, List.getElem_zipWith]
  rfl
theorem zip_fits {b : Book} (h : Good b) {f : Int → Int → Int} (hf0 : f 0 0 = 0) (hfb : ∀ a c, -4503599627370496 ≤ a ∧ a ≤ 4503599627370496 → -4503599627370496 ≤ c ∧ c ≤ 4503599627370496 → -4503599627370496 ≤ f a c ∧ f a c ≤ 4503599627370496) (hfp : ∀ a a' c c' m : Int, a' ≤ a + m → c' ≤ c + m → f a' c' ≤ f a c + m)
    {x y : List Int} (hx : lengthsP b x = true) (hy : lengthsP b y = true) (fx : fitsP b x = true) (fy : fitsP b y = true) : FitsP b (List.zipWith f x y) = (true, 0) := by
  rw [FitsP_iff]
  obtain ⟨lx, bx⟩ := lengthsP_iff.1 hx
  obtain ⟨ly, by'⟩ := lengthsP_iff.1 hy
  refine ⟨h, lengthsP_iff.2 ⟨by simp; omega, fun n hn => ?_⟩, ?_⟩
  · obtain ⟨i, hi, rfl⟩ := List.mem_iff_getElem.1 hn
    simp only [List.length_zipWith] at hi
    rw [List.getElem_zipWith]
    exact hfb _ _ (bx _ (List.getElem_mem _)) (by' _ (List.getElem_mem _))
  · have px := fitsL_iff.1 (show fitsL (linksP b) (0 :: x) = true from fx)
    have py := fitsL_iff.1 (show fitsL (linksP b) (0 :: y) = true from fy)
    refine fitsL_iff.2 fun u v m hl => ?_
    have hr := h.sys.inr _ hl
    have key : ∀ v : Int, 0 ≤ v → v < ((nodesP b).length + 1 : Nat) → gv (0 :: List.zipWith f x y) v = f (gv (0 :: x) v) (gv (0 :: y) v) := by
      intro v h0 h1
      rw [gv_cons _ _ h0, gv_cons _ _ h0, gv_cons _ _ h0]
      by_cases hv : v = 0
      · simp [hv, hf0]
      · simp only [hv, if_false]
        exact gv_zip (by omega) (by omega) (by omega)
    rw [key v hr.2.1 hr.2.2, key u hr.1.1 hr.1.2]
    exact hfp _ _ _ _ _ (px u v m hl) (py u v m hl)
def nearF (a c : Int) : Int := a + (if c < a then -1 else if a < c then 1 else 0)
theorem zip_take {f : Int → Int → Int} {x y : List Int} {i : Nat} {a c : Int} (ha : x[i]? = some a) (hc : y[i]? = some c) : List.zipWith f (x.take (i + 1)) (y.take (i + 1)) = List.zipWith f (x.take i) (y.take i) ++ [f a c] := by
  obtain ⟨h1, _⟩ := List.getElem?_eq_some_iff.1 ha
  obtain ⟨h2, _⟩ := List.getElem?_eq_some_iff.1 hc
  rw [take_succ ha, take_succ hc, List.zipWith_append (by rw [List.length_take, List.length_take]; omega)]
  rfl
end Go.Proofs.ZzM
end

noncomputable section
namespace Go.Proofs.ZzM
open Go Go.Am
section
variable {b : Book}
theorem off_all : off b b.2.1.length = (nodesP b).length := by unfold off nodesP; rw [List.take_length]
theorem off_find : ∀ n, n ≤ b.2.1.length → ∀ j, j < off b n → ∃ (i : Nat) (g : Gauge) (k : Nat), b.2.1[i]? = some g ∧ k < (daysP b g).length ∧ j = off b i + k := by
  intro n
  induction n with
  | zero => intro _ j hj; simp [off] at hj
  | succ n ih =>
    intro hn j hj
    have hg : b.2.1[n]? = some b.2.1[n] := List.getElem?_eq_getElem (by omega)
    rw [off_succ hg] at hj
    by_cases h : j < off b n
    · exact ih (by omega) j h
    · exact ⟨n, _, j - off b n, hg, by omega, by omega⟩
theorem node_split {v : Int} (h0 : 1 ≤ v) (h1 : v < ((nodesP b).length + 1 : Nat)) : ∃ (i : Nat) (g : Gauge) (k : Nat), b.2.1[i]? = some g ∧ k < (daysP b g).length ∧ v = (off b i : Int) + k + 1 := by
  obtain ⟨i, g, k, h2, h3, h4⟩ := off_find (b := b) b.2.1.length (Nat.le_refl _) (v - 1).toNat (by rw [off_all]; omega)
  exact ⟨i, g, k, h2, h3, by omega⟩
def GL (b : Book) (L : List Lk) : Prop := ∀ (i : Nat) (g : Gauge), b.2.1[i]? = some g → ∀ l ∈ gaugeLinks b g, l ∈ L
theorem gl_links : GL b (linksP b) := fun i g hg l hl => linksP_mem.2 (.inl ⟨i, g, hg, hl⟩)
theorem tied_to {L : List Lk} (h : Good b) (hL : GL b L) {v : Int} (h0 : 0 ≤ v) (h1 : v < ((nodesP b).length + 1 : Nat)) : ∃ vs d, Wl L (fun u => u = 0) vs v d ∧ d ≤ 4503599627370496 := by
  by_cases hv : v = 0
  · exact ⟨[], 0, .nil hv, by omega⟩
  obtain ⟨i, g, k, hg, hk, rfl⟩ := node_split (by omega) h1
  have hr := h.gaugeR (List.mem_of_getElem? hg)
  have r1 := hr.2.2.2.2.2.1
  have r2 := hr.2.2.2.2.2.2.1
  have key : ∀ k : Nat, k < (daysP b g).length → ∃ vs, Wl L (fun u => u = 0) vs ((off b i : Int) + k + 1) (g.2.2.1 + g.2.2.2.1.2) := by
    intro k
    induction k with
    | zero =>
      intro _
      have hw : Wl L (fun u => u = 0) [0] ((off b i : Int) + 1) (0 + (g.2.2.1 + g.2.2.2.1.2)) := Wl.step (.nil rfl) (hL i g hg _ ((gaugeLinks_mem h hg).2 (.inl rfl)))
      rw [Int.zero_add] at hw
      exact ⟨[0], by simpa using hw⟩
    | succ k ih =>
      intro hk
      obtain ⟨vs, hw⟩ := ih (by omega)
      have hw' := Wl.step hw (hL i g hg _ ((gaugeLinks_mem h hg).2 (.inr (.inr ⟨k, _, _, List.getElem?_eq_getElem (show k < _ by omega), List.getElem?_eq_getElem hk, .inl rfl⟩))))
      rw [Int.add_zero] at hw'
      have e : (off b i : Int) + ((k + 1 : Nat) : Int) + 1 = (off b i : Int) + k + 2 := by push_cast; omega
      exact ⟨_, by rw [e]; exact hw'⟩
  obtain ⟨vs, hw⟩ := key k hk
  exact ⟨vs, _, hw, by omega⟩
theorem tied_from {L : List Lk} (h : Good b) (hL : GL b L) {v : Int} (h0 : 0 ≤ v) (h1 : v < ((nodesP b).length + 1 : Nat)) : ∃ vs d, Wl L (fun u => u = v) vs 0 d ∧ d ≤ 4503599627370496 := by
  by_cases hv : v = 0
  · exact ⟨[], 0, .nil hv.symm, by omega⟩
  obtain ⟨i, g, k, hg, hk, rfl⟩ := node_split (by omega) h1
  have hgm := List.mem_of_getElem? hg
  have hr := h.gaugeR hgm
  have r1 := hr.2.2.2.2.2.1
  have r2 := hr.2.2.2.2.2.2.1
  have hd := days_len h hgm
  have key : ∀ m : Nat, m ≤ k → ∃ vs d, Wl L (fun u => u = (off b i : Int) + k + 1) vs ((off b i : Int) + (k - m : Nat) + 1) d ∧ d ≤ m * (12 * (20001 * 1048576) + 40 * 1048576) := by
    intro m
    induction m with
    | zero => intro _; exact ⟨[], 0, .nil (by simp), by simp⟩
    | succ m ih =>
      intro hm
      obtain ⟨vs, d, hw, hd⟩ := ih (by omega)
      have e1 : ((k - m : Nat) : Int) = ((k - (m + 1) : Nat) : Int) + 1 := by omega
      have hl : (((off b i : Int) + (k - (m + 1) : Nat) + 2, (off b i : Int) + (k - (m + 1) : Nat) + 1, lossP b g ((daysP b g)[k - (m + 1)]'(by omega)) ((daysP b g)[k - (m + 1) + 1]'(by omega))) : Lk) ∈ L :=
        hL i g hg _ ((gaugeLinks_mem h hg).2 (.inr (.inr ⟨k - (m + 1), _, _, List.getElem?_eq_getElem (by omega), List.getElem?_eq_getElem (by omega), .inr rfl⟩)))
      have hb := lossP_bound h hgm (f := (daysP b g)[k - (m + 1)]'(by omega)) (t := (daysP b g)[k - (m + 1) + 1]'(by omega)) (h.day hgm (List.getElem_mem _)).2.1
      have e2 : (off b i : Int) + (k - m : Nat) + 1 = (off b i : Int) + (k - (m + 1) : Nat) + 2 := by omega
      rw [e2] at hw
      exact ⟨_, _, .step hw hl, by push_cast; omega⟩
  obtain ⟨vs, d, hw, hdb⟩ := key k (Nat.le_refl _)
  have e : (off b i : Int) + (k - k : Nat) + 1 = (off b i : Int) + 1 := by omega
  rw [e] at hw
  have hw' := Wl.step hw (hL i g hg _ ((gaugeLinks_mem h hg).2 (.inr (.inl rfl))))
  exact ⟨_, _, hw', by omega⟩
theorem pot_near (h : Good b) {p : Int → Int} (hp : Pot (linksP b) p) {v : Int} (h0 : 0 ≤ v) (h1 : v < ((nodesP b).length + 1 : Nat)) : -4503599627370496 ≤ p v - p 0 ∧ p v - p 0 ≤ 4503599627370496 := by
  obtain ⟨vs, d, hw, hd⟩ := tied_to h gl_links h0 h1
  obtain ⟨ws, e, hx, he⟩ := tied_from h gl_links h0 h1
  obtain ⟨s, rfl, hs⟩ := hw.pot hp
  obtain ⟨t, rfl, ht⟩ := hx.pot hp
  omega
end
structure TiedL (L : List Lk) (N : Nat) : Prop where
  to : ∀ v : Int, 0 ≤ v → v < N → ∃ vs d, Wl L (fun u => u = 0) vs v d ∧ d ≤ 4503599627370496
  from' : ∀ v : Int, 0 ≤ v → v < N → ∃ vs d, Wl L (fun u => u = v) vs 0 d ∧ d ≤ 4503599627370496
theorem Good.tied {b : Book} (h : Good b) : TiedL (linksP b) ((nodesP b).length + 1) := ⟨fun v h0 h1 => tied_to h gl_links h0 h1, fun v h0 h1 => tied_from h gl_links h0 h1⟩
theorem Good.tiedL {b : Book} {L : List Lk} (h : Good b) (hL : GL b L) : TiedL L ((nodesP b).length + 1) := ⟨fun v h0 h1 => tied_to h hL h0 h1, fun v h0 h1 => tied_from h hL h0 h1⟩
section
variable {L : List Lk} {N : Nat}
theorem one_wl {L : List Lk} {s : Int} {vs : List Int} {v d : Int} : Wl L (fun v => oneS s v = true) vs v d ↔ Wl L (fun u => u = s) vs v d :=
  ⟨fun h => h.mono fun u hu => by simpa [oneS] using hu, fun h => h.mono fun u hu => by simpa [oneS] using hu⟩
def leastP (L : List Lk) (N : Nat) : List Int := (List.range N).map fun (n : Nat) => -(gv (boundsP L N n) 0)
theorem boundsP_len (s : Int) : (boundsP L N s).length = N := by unfold boundsP; rw [passes_length, start_length]
theorem leastP_len : (leastP L N).length = N := by simp [leastP]
theorem leastP_gv {v : Int} (h0 : 0 ≤ v) (h1 : v < N) : gv (leastP L N) v = -(gv (boundsP L N v) 0) := by
  unfold gv leastP
  rw [List.getElem?_map, List.getElem?_range (by omega)]
  simp only [Option.map_some, Option.getD_some, Int.toNat_of_nonneg h0]
  rfl
theorem bounds0_ne (h : SysOk L N) (ht : TiedL L N) (ho : openP L N = true) {v : Int} (h0 : 0 ≤ v) (h1 : v < N) : gv (boundsP L N 0) v ≤ 4503599627370496 := by
  have h2 := h.n60
  have h3 := h.n1
  obtain ⟨p, hp⟩ := (openP_iff h.links (by omega)).1 ho
  obtain ⟨vs, d, hw, hd⟩ := ht.to v h0 h1
  have := (bounds_dist h.links (by omega) hp (s := 0) ⟨by omega, by omega⟩).low v vs d (one_wl.2 hw)
  omega
theorem boundsV_ne (h : SysOk L N) (ht : TiedL L N) (ho : openP L N = true) {v : Int} (h0 : 0 ≤ v) (h1 : v < N) : gv (boundsP L N v) 0 ≤ 4503599627370496 := by
  have h2 := h.n60
  have h3 := h.n1
  obtain ⟨p, hp⟩ := (openP_iff h.links (by omega)).1 ho
  obtain ⟨vs, d, hw, hd⟩ := ht.from' v h0 h1
  have := (bounds_dist h.links (by omega) hp (s := v) ⟨h0, h1⟩).low 0 vs d (one_wl.2 hw)
  omega
theorem bounds_self (h : SysOk L N) (ho : openP L N = true) {v : Int} (h0 : 0 ≤ v) (h1 : v < N) : gv (boundsP L N v) v = 0 := by
  have h2 := h.n60
  obtain ⟨p, hp⟩ := (openP_iff h.links (by omega)).1 ho
  have hd := bounds_dist h.links (by omega) hp (s := v) ⟨h0, h1⟩
  have h3 := hd.low v [] 0 (.nil (by simp [oneS]))
  obtain ⟨vs, hw⟩ := hd.att v h0 h1 (by unfold Free; omega)
  obtain ⟨s, hs, hx⟩ := (one_wl.1 hw).pot hp
  subst hs
  omega
theorem bounds0_pot (h : SysOk L N) (ht : TiedL L N) (ho : openP L N = true) : Pot L (gv (boundsP L N 0)) := by
  have h2 := h.n60
  have h3 := h.n1
  obtain ⟨p, hp⟩ := (openP_iff h.links (by omega)).1 ho
  intro u v m hl
  have hr := h.inr _ hl
  have := bounds0_ne h ht ho hr.1.1 hr.1.2
  exact (bounds_dist h.links (by omega) hp (s := 0) ⟨by omega, by omega⟩).pot h.inr hl (by simp only at this; unfold Free; omega)
theorem Wl.cons {u v m : Int} (hl : (u, v, m) ∈ L) {vs : List Int} {w d : Int} (hw : Wl L (fun x => x = v) vs w d) : ∃ vs', Wl L (fun x => x = u) vs' w (m + d) := by
  induction hw with
  | nil h =>
    subst h
    have := Wl.step (S := fun x => x = u) (.nil rfl) hl
    rw [Int.zero_add] at this
    exact ⟨_, by rw [Int.add_zero]; exact this⟩
  | @step vs x y n d hw hx ih =>
    obtain ⟨vs', h'⟩ := ih
    have := Wl.step h' hx
    rw [Int.add_assoc] at this
    exact ⟨_, this⟩
theorem least_pot (h : SysOk L N) (ht : TiedL L N) (ho : openP L N = true) : Pot L (gv (leastP L N)) := by
  have h2 := h.n60
  obtain ⟨p, hp⟩ := (openP_iff h.links (by omega)).1 ho
  intro u v m hl
  have hr := h.inr _ hl
  rw [leastP_gv hr.2.1 hr.2.2, leastP_gv hr.1.1 hr.1.2]
  have hf := boundsV_ne h ht ho hr.2.1 hr.2.2
  have h3 := h.n1
  obtain ⟨vs, hw⟩ := (bounds_dist h.links (by omega) hp (s := v) ⟨hr.2.1, hr.2.2⟩).att 0 (by omega) (by omega) (by simp only at hf; unfold Free; omega)
  obtain ⟨vs', hw'⟩ := Wl.cons hl (one_wl.1 hw)
  have := (bounds_dist h.links (by omega) hp (s := u) ⟨hr.1.1, hr.1.2⟩).low 0 vs' _ (one_wl.2 hw')
  simp only
  omega
theorem least_zero (h : SysOk L N) (ho : openP L N = true) : gv (leastP L N) 0 = 0 := by
  have h3 := h.n1
  rw [leastP_gv (by omega) (by omega), bounds_self h ho (by omega) (by omega)]
  rfl
end
end Go.Proofs.ZzM
end

noncomputable section
namespace Go.Proofs.ZzM
open Go Go.Am
def usedP (b : Book) (id day : Int) : Bool := b.2.2.1.any fun u => u.1 == id && u.2 == day
def dayLoss (b : Book) (g : Gauge) (d : Int) : Int := match awayP b g.1 d with | some l => l.2.2 | none => if usedP b g.1 d then g.2.2.2.2.2 else 0
theorem loan_term (l : Loan) (id : Int) {f t : Int} (hft : f ≤ t) : (if l.1 = id ∧ 0 < loanDays l f (t + 1) then loanDays l f (t + 1) * l.2.2 else 0) = (if l.1 = id ∧ 0 < loanDays l f t then loanDays l f t * l.2.2 else 0) + (if l.1 = id ∧ l.2.1.1 ≤ t ∧ t ≤ l.2.1.2 then l.2.2 else 0) := by
  by_cases hid : l.1 = id
  · by_cases h1 : l.2.1.1 ≤ t ∧ t ≤ l.2.1.2
    · have e : loanDays l f (t + 1) = loanDays l f t + 1 := by unfold loanDays; omega
      have p : 0 ≤ loanDays l f t := by unfold loanDays; omega
      rw [e, if_pos ⟨hid, by omega⟩, if_pos (show l.1 = id ∧ l.2.1.1 ≤ t ∧ t ≤ l.2.1.2 from ⟨hid, h1⟩), Int.add_mul, Int.one_mul]
      by_cases hp : 0 < loanDays l f t
      · rw [if_pos ⟨hid, hp⟩]
      · rw [if_neg (fun h => hp h.2)]
        have : loanDays l f t = 0 := by omega
        rw [this]
        omega
    · rw [if_neg (show ¬ (l.1 = id ∧ l.2.1.1 ≤ t ∧ t ≤ l.2.1.2) from fun h => h1 h.2), Int.add_zero]
      by_cases hlo : l.2.1.1 ≤ t
      · have e : loanDays l f (t + 1) = loanDays l f t := by unfold loanDays; omega
        rw [e]
      · have p1 : ¬ 0 < loanDays l f (t + 1) := by unfold loanDays; omega
        have p2 : ¬ 0 < loanDays l f t := by unfold loanDays; omega
        rw [if_neg (fun h => p1 h.2), if_neg (fun h => p2 h.2)]
  · rw [if_neg (fun h => hid h.1), if_neg (fun h => hid h.1), if_neg (fun h => hid h.1)]
    rfl
theorem loans_step (id : Int) {f t : Int} (hft : f ≤ t) : ∀ {x : List Loan}, x.Pairwise (fun a c => ¬ (a.1 = c.1 ∧ a.2.1.1 ≤ c.2.1.2 ∧ c.2.1.1 ≤ a.2.1.2)) →
    loanLoss id f (t + 1) x = loanLoss id f t x + (match x.find? (fun l => l.1 == id && inP t l.2.1.1 l.2.1.2) with | some l => l.2.2 | none => 0)
  | [], _ => rfl
  | l :: r, hp => by
    rw [List.pairwise_cons] at hp
    have ih := loans_step id hft hp.2
    simp only [loanLoss]
    rw [ih, loan_term l id hft, List.find?_cons]
    by_cases hm : l.1 = id ∧ l.2.1.1 ≤ t ∧ t ≤ l.2.1.2
    · have e : (l.1 == id && inP t l.2.1.1 l.2.1.2) = true := by simp [inP, hm.1, hm.2.1, hm.2.2]
      have hn : r.find? (fun l => l.1 == id && inP t l.2.1.1 l.2.1.2) = none := by
        rw [List.find?_eq_none]
        intro c hc hcm
        simp only [inP, Bool.and_eq_true, beq_iff_eq, decide_eq_true_eq] at hcm
        exact hp.1 c hc ⟨by rw [hm.1, hcm.1], by omega, by omega⟩
      rw [if_pos hm, e, hn]
      simp only
      omega
    · have e : (l.1 == id && inP t l.2.1.1 l.2.1.2) = false := by
        rw [Bool.eq_false_iff]
        intro h
        simp only [inP, Bool.and_eq_true, beq_iff_eq, decide_eq_true_eq] at h
        exact hm h
      rw [if_neg hm, e]
      simp only
      omega
section
variable {b : Book}
theorem Good.apart (h : Good b) : b.2.2.2.1.Pairwise (fun a c => ¬ (a.1 = c.1 ∧ a.2.1.1 ≤ c.2.1.2 ∧ c.2.1.1 ≤ a.2.1.2)) := by
  rw [List.pairwise_iff_getElem]
  intro i j hi hj hij ⟨h1, h2, h3⟩
  have hz := h.loans j _ (List.getElem?_eq_getElem hj)
  unfold loanE at hz
  have hany : (b.2.2.2.1.take j).any (fun x => x.1 == b.2.2.2.1[j].1 && (decide (x.2.1.1 ≤ b.2.2.2.1[j].2.1.2) && decide (b.2.2.2.1[j].2.1.1 ≤ x.2.1.2))) = true := by
    rw [List.any_eq_true]
    exact ⟨b.2.2.2.1[i], List.mem_iff_getElem.2 ⟨i, by rw [List.length_take]; omega, by rw [List.getElem_take]⟩, by simp [h1, h2, h3]⟩
  rw [hany] at hz
  (repeat' split at hz) <;> first | omega | simp_all
theorem Good.notUsed (h : Good b) {id d : Int} {l : Loan} (hl : awayP b id d = some l) : usedP b id d = false := by
  have hm := List.mem_of_find?_eq_some hl
  have hp := List.find?_some hl
  simp only [inP, Bool.and_eq_true, beq_iff_eq, decide_eq_true_eq] at hp
  obtain ⟨j, hj, rfl⟩ := List.mem_iff_getElem.1 hm
  have hz := h.loans j _ (List.getElem?_eq_getElem hj)
  rw [Bool.eq_false_iff]
  intro hu
  obtain ⟨u, hu, hue⟩ := List.any_eq_true.1 hu
  simp only [Bool.and_eq_true, beq_iff_eq] at hue
  have hany : b.2.2.1.any (fun u => u.1 == b.2.2.2.1[j].1 && inP u.2 b.2.2.2.1[j].2.1.1 b.2.2.2.1[j].2.1.2) = true := by
    rw [List.any_eq_true]
    exact ⟨u, hu, by simp only [inP, Bool.and_eq_true, beq_iff_eq, decide_eq_true_eq]; exact ⟨by rw [hue.1, hp.1], by omega, by omega⟩⟩
  unfold loanE at hz
  rw [hany] at hz
  (repeat' split at hz) <;> first | omega | simp_all
theorem useDays_step {id f t : Int} (hft : f ≤ t) : setI (useDays b id f (t + 1)) = setI (useDays b id f t) ++ if usedP b id t then [t] else [] := by
  have hm : ∀ t x, x ∈ useDays b id f t ↔ usedP b id x = true ∧ f ≤ x ∧ x < t := by
    intro t x
    unfold useDays usedP
    simp only [List.mem_map, List.mem_filter, List.any_eq_true, inP, Bool.and_eq_true, beq_iff_eq, decide_eq_true_eq]
    constructor
    · rintro ⟨u, ⟨h1, h2, h3, h4⟩, rfl⟩
      exact ⟨⟨u, h1, h2, rfl⟩, h3, by omega⟩
    · rintro ⟨⟨u, h1, h2, rfl⟩, h3, h4⟩
      exact ⟨u, ⟨h1, h2, h3, by omega⟩, rfl⟩
  refine asc_ext (setI_lt _) ?_ fun x => ?_
  · rw [List.pairwise_append]
    refine ⟨setI_lt _, by split <;> simp, fun a ha c hc => ?_⟩
    rw [setI_mem, hm] at ha
    split at hc
    · rw [List.mem_singleton] at hc; omega
    · cases hc
  · rw [setI_mem, hm, List.mem_append, setI_mem, hm]
    by_cases hu : usedP b id t = true
    · rw [if_pos hu, List.mem_singleton]
      constructor
      · rintro ⟨h1, h2, h3⟩
        by_cases he : x = t
        · exact .inr he
        · exact .inl ⟨h1, h2, by omega⟩
      · rintro (⟨h1, h2, h3⟩ | rfl)
        · exact ⟨h1, h2, by omega⟩
        · exact ⟨hu, hft, by omega⟩
    · rw [if_neg hu]
      constructor
      · rintro ⟨h1, h2, h3⟩
        refine .inl ⟨h1, h2, ?_⟩
        by_cases he : x = t
        · rw [he] at h1; exact absurd h1 hu
        · omega
      · rintro (⟨h1, h2, h3⟩ | h)
        · exact ⟨h1, h2, by omega⟩
        · cases h
theorem loss_step (h : Good b) (g : Gauge) {f t : Int} (hft : f ≤ t) : lossP b g f (t + 1) = lossP b g f t + dayLoss b g t := by
  unfold lossP dayLoss
  rw [loans_step g.1 hft h.apart, useDays_step hft]
  show loanLoss g.1 f t b.2.2.2.1 + (match awayP b g.1 t with | some l => l.2.2 | none => 0) + _ = _
  cases ha : awayP b g.1 t with
  | some l =>
    rw [h.notUsed ha]
    simp only [Bool.false_eq_true, if_false, List.append_nil]
    omega
  | none =>
    simp only
    cases usedP b g.1 t with
    | true => simp only [if_true, List.length_append, List.length_singleton, Int.natCast_add, Int.add_mul]; omega
    | false => simp only [Bool.false_eq_true, if_false, List.append_nil]; omega
theorem loss_none (g : Gauge) {f t : Int} (hft : t ≤ f) : lossP b g f t = 0 := by
  unfold lossP
  have h1 : ∀ x : List Loan, loanLoss g.1 f t x = 0 := by
    intro x
    induction x with
    | nil => rfl
    | cons l r ih =>
      simp only [loanLoss]
      rw [ih, if_neg (by unfold loanDays; omega)]
      rfl
  have h2 : useDays b g.1 f t = [] := by
    unfold useDays
    rw [List.filter_eq_nil_iff.2 fun u hu hc => by
      simp only [inP, Bool.and_eq_true, beq_iff_eq, decide_eq_true_eq] at hc
      omega]
    rfl
  rw [h1, h2]
  have h3 : setI ([] : List Int) = [] := rfl
  rw [h3]
  simp
theorem dayLoss_bound (h : Good b) {g : Gauge} (hg : g ∈ b.2.1) (d : Int) : 0 ≤ dayLoss b g d ∧ dayLoss b g d ≤ 1048576 := by
  have hr := (h.gaugeR hg).2.2.2.2.2.2.2
  unfold dayLoss
  cases ha : awayP b g.1 d with
  | some l => exact (loanE_zero h (List.mem_of_find?_eq_some ha)).2
  | none => simp only; split <;> omega
end
end Go.Proofs.ZzM
end

noncomputable section
namespace Go.Proofs.ZzM
open Go Go.Am
section
variable {b : Book}
theorem loss_add (h : Good b) (g : Gauge) {f t u : Int} (h1 : f ≤ t) (h2 : t ≤ u) : lossP b g f u = lossP b g f t + lossP b g t u := by
  obtain ⟨n, rfl⟩ : ∃ n : Nat, u = t + n := ⟨(u - t).toNat, by omega⟩
  clear h2
  induction n with
  | zero => simp [loss_none]
  | succ n ih =>
    have e : t + ((n + 1 : Nat) : Int) = (t + n) + 1 := by omega
    rw [e, loss_step h g (show f ≤ t + (n : Int) by omega), loss_step h g (show t ≤ t + (n : Int) by omega), ih]
    omega
theorem loss_nonneg (h : Good b) {g : Gauge} (hg : g ∈ b.2.1) {f t : Int} (hf : 0 ≤ f) : 0 ≤ lossP b g f t := (lossP_bound h hg hf).1
def nodeP (b : Book) (id d : Int) : Int := match nodeIdx (nodesP b) id d with | some j => (j : Int) + 1 | none => 0
theorem nodeP_at (h : Good b) {i : Nat} {g : Gauge} (hg : b.2.1[i]? = some g) {k : Nat} {d : Int} (hk : (daysP b g)[k]? = some d) : nodeP b g.1 d = (off b i : Int) + k + 1 := by
  unfold nodeP
  rw [node_at h hg hk]
  simp only
  omega
structure GaugeFits (b : Book) (p : Int → Int) (g : Gauge) : Prop where
  hi : p (nodeP b g.1 g.2.1) ≤ p 0 + (g.2.2.1 + g.2.2.2.1.2)
  lo : p 0 + (g.2.2.1 + g.2.2.2.1.1) ≤ p (nodeP b g.1 g.2.1)
  down : ∀ d e, d ∈ daysP b g → e ∈ daysP b g → d ≤ e → p (nodeP b g.1 e) ≤ p (nodeP b g.1 d)
  loss : ∀ d e, d ∈ daysP b g → e ∈ daysP b g → d ≤ e → p (nodeP b g.1 d) ≤ p (nodeP b g.1 e) + lossP b g d e
theorem gaugeFits_iff (h : Good b) {i : Nat} {g : Gauge} (hg : b.2.1[i]? = some g) {p : Int → Int} : (∀ l ∈ gaugeLinks b g, p l.2.1 ≤ p l.1 + l.2.2) ↔ GaugeFits b p g := by
  have hgm := List.mem_of_getElem? hg
  obtain ⟨tl, htl⟩ := days_head h hgm
  have h0 : nodeP b g.1 g.2.1 = (off b i : Int) + 1 := by
    have := nodeP_at h hg (k := 0) (d := g.2.1) (by rw [htl]; rfl)
    rw [this]
    omega
  constructor
  · intro hl
    have e1 := hl _ ((gaugeLinks_mem h hg).2 (.inl rfl))
    have e2 := hl _ ((gaugeLinks_mem h hg).2 (.inr (.inl rfl)))
    simp only at e1 e2
    have step : ∀ (k : Nat) (d e : Int), (daysP b g)[k]? = some d → (daysP b g)[k + 1]? = some e → p (nodeP b g.1 e) ≤ p (nodeP b g.1 d) ∧ p (nodeP b g.1 d) ≤ p (nodeP b g.1 e) + lossP b g d e := by
      intro k d e hd he
      have a1 := hl _ ((gaugeLinks_mem h hg).2 (.inr (.inr ⟨k, d, e, hd, he, .inl rfl⟩)))
      have a2 := hl _ ((gaugeLinks_mem h hg).2 (.inr (.inr ⟨k, d, e, hd, he, .inr rfl⟩)))
      simp only at a1 a2
      rw [nodeP_at h hg hd, nodeP_at h hg he]
      have e3 : (off b i : Int) + ((k + 1 : Nat) : Int) + 1 = (off b i : Int) + k + 2 := by omega
      rw [e3]
      exact ⟨by omega, a2⟩
    have pair : ∀ (n k : Nat) (d e : Int), (daysP b g)[k]? = some d → (daysP b g)[k + n]? = some e → p (nodeP b g.1 e) ≤ p (nodeP b g.1 d) ∧ p (nodeP b g.1 d) ≤ p (nodeP b g.1 e) + lossP b g d e := by
      intro n
      induction n with
      | zero =>
        intro k d e hd he
        rw [Nat.add_zero, hd] at he
        cases he
        rw [loss_none g (Int.le_refl _)]
        omega
      | succ n ih =>
        intro k d e hd he
        have hlt := (List.getElem?_eq_some_iff.1 he).1
        have hm : (daysP b g)[k + n]? = some ((daysP b g)[k + n]'(by omega)) := List.getElem?_eq_getElem (by omega)
        obtain ⟨a1, a2⟩ := ih k d _ hd hm
        obtain ⟨a3, a4⟩ := step (k + n) _ e hm he
        have o1 : d ≤ (daysP b g)[k + n]'(by omega) := by
          obtain ⟨hkl, hkd⟩ := List.getElem?_eq_some_iff.1 hd
          rcases Nat.eq_zero_or_pos n with rfl | hn
          · rw [← hkd]; exact Int.le_of_eq (by congr 1)
          · have := (List.pairwise_iff_getElem.1 (days_lt b g)) k (k + n) hkl (by omega) (by omega)
            rw [hkd] at this; omega
        have o2 : (daysP b g)[k + n]'(by omega) ≤ e := by
          obtain ⟨hel, hee⟩ := List.getElem?_eq_some_iff.1 he
          have := (List.pairwise_iff_getElem.1 (days_lt b g)) (k + n) (k + (n + 1)) (by omega) hel (by omega)
          rw [hee] at this; omega
        have := loss_add h g o1 o2
        omega
    have any : ∀ d e, d ∈ daysP b g → e ∈ daysP b g → d ≤ e → p (nodeP b g.1 e) ≤ p (nodeP b g.1 d) ∧ p (nodeP b g.1 d) ≤ p (nodeP b g.1 e) + lossP b g d e := by
      intro d e hd he hde
      obtain ⟨k, hk, rfl⟩ := List.mem_iff_getElem.1 hd
      obtain ⟨m, hm, rfl⟩ := List.mem_iff_getElem.1 he
      have hkm : k ≤ m := by
        rcases Nat.lt_or_ge m k with hlt | hge
        · have := (List.pairwise_iff_getElem.1 (days_lt b g)) m k hm hk hlt; omega
        · exact hge
      exact pair (m - k) k _ _ (List.getElem?_eq_getElem hk) (by rw [show k + (m - k) = m by omega]; exact List.getElem?_eq_getElem hm)
    exact ⟨by rw [h0]; omega, by rw [h0]; omega, fun d e hd he hde => (any d e hd he hde).1, fun d e hd he hde => (any d e hd he hde).2⟩
  · intro hf l hl
    rcases (gaugeLinks_mem h hg).1 hl with rfl | rfl | ⟨k, d, e, hd, he, rfl | rfl⟩
    · have := hf.hi; rw [h0] at this; simp only; omega
    · have := hf.lo; rw [h0] at this; simp only; omega
    · have hde : d ≤ e := by
        obtain ⟨a1, a2⟩ := List.getElem?_eq_some_iff.1 hd
        obtain ⟨a3, a4⟩ := List.getElem?_eq_some_iff.1 he
        have := (List.pairwise_iff_getElem.1 (days_lt b g)) k (k + 1) a1 a3 (by omega)
        rw [a2, a4] at this; omega
      have := hf.down d e (List.mem_of_getElem? hd) (List.mem_of_getElem? he) hde
      rw [nodeP_at h hg hd, nodeP_at h hg he] at this
      have e3 : (off b i : Int) + ((k + 1 : Nat) : Int) + 1 = (off b i : Int) + k + 2 := by omega
      rw [e3] at this
      simp only
      omega
    · have hde : d ≤ e := by
        obtain ⟨a1, a2⟩ := List.getElem?_eq_some_iff.1 hd
        obtain ⟨a3, a4⟩ := List.getElem?_eq_some_iff.1 he
        have := (List.pairwise_iff_getElem.1 (days_lt b g)) k (k + 1) a1 a3 (by omega)
        rw [a2, a4] at this; omega
      have := hf.loss d e (List.mem_of_getElem? hd) (List.mem_of_getElem? he) hde
      rw [nodeP_at h hg hd, nodeP_at h hg he] at this
      have e3 : (off b i : Int) + ((k + 1 : Nat) : Int) + 1 = (off b i : Int) + k + 2 := by omega
      rw [e3] at this
      simp only
      exact this
theorem pot_iff (h : Good b) {p : Int → Int} : Pot (linksP b) p ↔ (∀ g ∈ b.2.1, GaugeFits b p g) ∧ ∀ c ∈ b.2.2.2.2.1, p (cx b c) ≤ p (cy b c) + (saysP b c).2 ∧ p (cy b c) + (saysP b c).1 ≤ p (cx b c) := by
  constructor
  · intro hp
    refine ⟨fun g hg => ?_, fun c hc => ?_⟩
    · obtain ⟨i, hi, rfl⟩ := List.mem_iff_getElem.1 hg
      exact (gaugeFits_iff h (List.getElem?_eq_getElem hi)).1 fun l hl => hp l.1 l.2.1 l.2.2 (linksP_mem.2 (.inl ⟨i, _, List.getElem?_eq_getElem hi, hl⟩))
    · have a1 := hp _ _ _ (linksP_mem.2 (.inr ⟨c, hc, .inl rfl⟩))
      have a2 := hp _ _ _ (linksP_mem.2 (.inr ⟨c, hc, .inr rfl⟩))
      omega
  · rintro ⟨hg, hc⟩ u v m hl
    rcases linksP_mem.1 hl with ⟨i, g, hig, hl⟩ | ⟨c, hcm, hl⟩
    · exact (gaugeFits_iff h hig).2 (hg g (List.mem_of_getElem? hig)) (u, v, m) hl
    · obtain ⟨a1, a2⟩ := hc c hcm
      rcases hl with hl | hl
      · obtain ⟨rfl, rfl, rfl⟩ : u = cy b c ∧ v = cx b c ∧ m = (saysP b c).2 := by simpa using hl
        exact a1
      · obtain ⟨rfl, rfl, rfl⟩ : u = cx b c ∧ v = cy b c ∧ m = -(saysP b c).1 := by simpa using hl
        omega
end
end Go.Proofs.ZzM
end

noncomputable section
namespace Go.Proofs.ZzM
open Go Go.Am
def maxL : List Int → Int
  | [] => 0
  | [a] => a
  | a :: b :: t => max a (maxL (b :: t))
theorem maxL_spec : ∀ {l : List Int}, l ≠ [] → (∀ a ∈ l, a ≤ maxL l) ∧ maxL l ∈ l
  | [], h => absurd rfl h
  | [a], _ => ⟨fun x hx => by rw [List.mem_singleton] at hx; rw [hx]; exact Int.le_refl _, by simp [maxL]⟩
  | a :: b :: t, _ => by
    obtain ⟨h1, h2⟩ := maxL_spec (l := b :: t) (by simp)
    have e : maxL (a :: b :: t) = max a (maxL (b :: t)) := rfl
    rw [e]
    constructor
    · intro x hx
      rcases List.mem_cons.1 hx with rfl | hx
      · omega
      · have := h1 x hx; omega
    · rcases Int.le_total a (maxL (b :: t)) with h | h
      · rw [Int.max_eq_right h]; exact List.mem_cons_of_mem _ h2
      · rw [Int.max_eq_left h]; exact List.mem_cons_self
section
variable {b : Book}
def pull (b : Book) (f : Int → Int → Int) (z : Int) (v : Int) : Int := if v = 0 then z else match (nodesP b)[(v - 1).toNat]? with | some n => f n.1 n.2 | none => 0
theorem pull_zero (f : Int → Int → Int) (z : Int) : pull b f z 0 = z := by unfold pull; rw [if_pos rfl]
theorem pull_node (h : Good b) (f : Int → Int → Int) (z : Int) {g : Gauge} (hg : g ∈ b.2.1) {d : Int} (hd : d ∈ daysP b g) : pull b f z (nodeP b g.1 d) = f g.1 d := by
  obtain ⟨i, hi, rfl⟩ := List.mem_iff_getElem.1 hg
  obtain ⟨k, hk, rfl⟩ := List.mem_iff_getElem.1 hd
  have hgi := List.getElem?_eq_getElem hi
  have hdk := List.getElem?_eq_getElem hk
  rw [nodeP_at h hgi hdk]
  unfold pull
  have e : ((off b i : Int) + k + 1 - 1).toNat = off b i + k := by omega
  rw [if_neg (by omega), e, node_get hgi hdk]
def cNode (b : Book) (l : List Int) (d : Int) : Int := match l with | [] => 0 | x :: _ => nodeP b x d
theorem atP_node (l : List Int) (d : Int) : atP (nodesP b) l d = cNode b l d := by
  unfold atP cNode nodeP
  cases l <;> rfl
theorem cx_node (c : Cmp) : cx b c = cNode b (leftP c.2.2.1 c.2.2.2.1) c.2.1 := atP_node _ _
theorem cy_node (c : Cmp) : cy b c = cNode b (leftP c.2.2.2.1 c.2.2.1) c.2.1 := atP_node _ _
theorem left_day (h : Good b) {c : Cmp} (hc : c ∈ b.2.2.2.2.1) {x : Int} (hx : x ∈ leftP c.2.2.1 c.2.2.2.1 ∨ x ∈ leftP c.2.2.2.1 c.2.2.1) : ∃ g ∈ b.2.1, g.1 = x ∧ c.2.1 ∈ daysP b g := by
  have hx' : (x ∈ c.2.2.1 ∧ x ∉ c.2.2.2.1) ∨ (x ∈ c.2.2.2.1 ∧ x ∉ c.2.2.1) := by
    rcases hx with hx | hx
    · exact .inl (leftP_mem.1 hx)
    · exact .inr (leftP_mem.1 hx)
  have hm : x ∈ c.2.2.1 ++ c.2.2.2.1 := by rw [List.mem_append]; exact hx'.imp (·.1) (·.1)
  obtain ⟨⟨g, hg, _⟩, _⟩ := h.pile hc hm
  obtain ⟨hgm, hid⟩ := gaugeOf_some hg
  refine ⟨g, hgm, hid, daysP_mem.2 (.inr (.inl ⟨c, hc, ?_, rfl⟩))⟩
  rw [hid]
  intro he
  rw [Bool.eq_iff_iff, List.contains_iff_mem, List.contains_iff_mem] at he
  rcases hx' with ⟨a, e⟩ | ⟨a, e⟩
  · exact e (he.1 a)
  · exact e (he.2 a)
def fill (b : Book) (p : Int → Int) (g : Gauge) (d : Int) : Int := maxL ((daysP b g).map fun e => if d ≤ e then p (nodeP b g.1 e) else p (nodeP b g.1 e) - lossP b g e d)
theorem fill_spec {p : Int → Int} {g : Gauge} (d : Int) : (∀ e ∈ daysP b g, (if d ≤ e then p (nodeP b g.1 e) else p (nodeP b g.1 e) - lossP b g e d) ≤ fill b p g d) ∧ ∃ e ∈ daysP b g, fill b p g d = if d ≤ e then p (nodeP b g.1 e) else p (nodeP b g.1 e) - lossP b g e d := by
  have hne : ((daysP b g).map fun e => if d ≤ e then p (nodeP b g.1 e) else p (nodeP b g.1 e) - lossP b g e d) ≠ [] := by
    intro h
    have := List.map_eq_nil_iff.1 h
    have h2 := daysP_ne (b := b) g
    rw [this] at h2
    cases h2
  obtain ⟨h1, h2⟩ := maxL_spec hne
  refine ⟨fun e he => h1 _ (List.mem_map.2 ⟨e, he, rfl⟩), ?_⟩
  obtain ⟨e, he, hx⟩ := List.mem_map.1 h2
  exact ⟨e, he, hx.symm⟩
theorem fill_day (h : Good b) {p : Int → Int} {g : Gauge} (hg : g ∈ b.2.1) (hf : GaugeFits b p g) {d : Int} (hd : d ∈ daysP b g) : fill b p g d = p (nodeP b g.1 d) := by
  obtain ⟨h1, e, he, h2⟩ := fill_spec (b := b) (p := p) (g := g) d
  have h3 := h1 d hd
  rw [if_pos (Int.le_refl _)] at h3
  have h4 : fill b p g d ≤ p (nodeP b g.1 d) := by
    rw [h2]
    split
    · rename_i hde
      exact hf.down d e hd he hde
    · rename_i hde
      have := hf.loss e d he hd (by omega)
      omega
  omega
theorem fill_fits (h : Good b) {p : Int → Int} {g : Gauge} (hg : g ∈ b.2.1) (hf : GaugeFits b p g) {d e : Int} (h0 : g.2.1 ≤ d) (hde : d ≤ e) : fill b p g e ≤ fill b p g d ∧ fill b p g d ≤ fill b p g e + lossP b g d e := by
  obtain ⟨a1, x, hx, a2⟩ := fill_spec (b := b) (p := p) (g := g) d
  obtain ⟨b1, y, hy, b2⟩ := fill_spec (b := b) (p := p) (g := g) e
  have hm := (h.gaugeR hg).2.2.2.2.1
  have hl := loss_nonneg h hg (f := d) (t := e) (by omega)
  have dx := h.day hg hx
  have dy := h.day hg hy
  constructor
  · have q := a1 y hy
    rw [b2]
    by_cases c1 : e ≤ y
    · rw [if_pos c1]
      rw [if_pos (by omega)] at q
      exact q
    · rw [if_neg c1]
      by_cases c2 : d ≤ y
      · rw [if_pos c2] at q
        have := loss_nonneg h hg (f := y) (t := e) dy.2.1
        omega
      · rw [if_neg c2] at q
        have := loss_add h g (f := y) (t := d) (u := e) (by omega) hde
        omega
  · have q := b1 x hx
    rw [a2]
    by_cases c1 : d ≤ x
    · rw [if_pos c1]
      by_cases c2 : e ≤ x
      · rw [if_pos c2] at q
        omega
      · rw [if_neg c2] at q
        have := loss_add h g (f := d) (t := x) (u := e) c1 (by omega)
        have := loss_nonneg h hg (f := d) (t := x) (by omega)
        omega
    · rw [if_neg c1]
      rw [if_neg (by omega)] at q
      have := loss_add h g (f := x) (t := d) (u := e) (by omega) hde
      omega
end
end Go.Proofs.ZzM
end

noncomputable section
namespace Go.Proofs.ZzM
open Go Go.Am
section
variable {b : Book} {c : Cmp}
theorem head_eq : headLinks (more b c) = (more b c).2.1.flatMap (gaugeLinks (more b c)) ++ b.2.2.2.2.1.flatMap (compareLinks (more b c)) := by
  unfold headLinks
  have e : linksP (more b c) = ((more b c).2.1.flatMap (gaugeLinks (more b c)) ++ b.2.2.2.2.1.flatMap (compareLinks (more b c))) ++ compareLinks (more b c) c := by
    unfold linksP
    rw [show (more b c).2.2.2.2.1 = b.2.2.2.2.1 ++ [c] from rfl, List.flatMap_append, List.append_assoc]
    simp
  rw [e, List.length_append, show (compareLinks (more b c) c).length = 2 from rfl, Nat.add_sub_cancel, List.take_left]
theorem head_pot (h' : Good (more b c)) {p : Int → Int} : Pot (headLinks (more b c)) p ↔ (∀ g ∈ b.2.1, GaugeFits (more b c) p g) ∧ ∀ d ∈ b.2.2.2.2.1, p (cx (more b c) d) ≤ p (cy (more b c) d) + (saysP b d).2 ∧ p (cy (more b c) d) + (saysP b d).1 ≤ p (cx (more b c) d) := by
  rw [head_eq]
  constructor
  · intro hp
    refine ⟨fun g hg => ?_, fun d hd => ?_⟩
    · obtain ⟨i, hi, rfl⟩ := List.mem_iff_getElem.1 hg
      exact (gaugeFits_iff h' (i := i) (List.getElem?_eq_getElem hi)).1 fun l hl => hp l.1 l.2.1 l.2.2 (List.mem_append.2 (.inl (List.mem_flatMap.2 ⟨_, List.getElem_mem hi, hl⟩)))
    · have a1 := hp (cy (more b c) d) (cx (more b c) d) (saysP (more b c) d).2 (List.mem_append.2 (.inr (List.mem_flatMap.2 ⟨d, hd, by simp [compareLinks]⟩)))
      have a2 := hp (cx (more b c) d) (cy (more b c) d) (-(saysP (more b c) d).1) (List.mem_append.2 (.inr (List.mem_flatMap.2 ⟨d, hd, by simp [compareLinks]⟩)))
      have e : saysP (more b c) d = saysP b d := rfl
      rw [e] at a1 a2
      omega
  · rintro ⟨hg, hc⟩ u v m hl
    rcases List.mem_append.1 hl with hl | hl
    · obtain ⟨g, hgm, hl⟩ := List.mem_flatMap.1 hl
      obtain ⟨i, hi, rfl⟩ := List.mem_iff_getElem.1 hgm
      exact (gaugeFits_iff h' (i := i) (List.getElem?_eq_getElem hi)).2 (hg _ hgm) (u, v, m) hl
    · obtain ⟨d, hd, hl⟩ := List.mem_flatMap.1 hl
      obtain ⟨a1, a2⟩ := hc d hd
      have e : saysP (more b c) d = saysP b d := rfl
      simp only [compareLinks, List.mem_cons, List.not_mem_nil, or_false, e] at hl
      rcases hl with hl | hl
      · obtain ⟨rfl, rfl, rfl⟩ : u = cy (more b c) d ∧ v = cx (more b c) d ∧ m = (saysP b d).2 := by simpa using hl
        exact a1
      · obtain ⟨rfl, rfl, rfl⟩ : u = cx (more b c) d ∧ v = cy (more b c) d ∧ m = -(saysP b d).1 := by simpa using hl
        omega
theorem days_more {g : Gauge} {d : Int} (hd : d ∈ daysP b g) : d ∈ daysP (more b c) g := by
  rcases daysP_mem.1 hd with e | ⟨x, hx, h1, h2⟩ | hn
  · exact daysP_mem.2 (.inl e)
  · exact daysP_mem.2 (.inr (.inl ⟨x, List.mem_append.2 (.inl hx), h1, h2⟩))
  · exact daysP_mem.2 (.inr (.inr hn))
theorem loss_more (g : Gauge) (f t : Int) : lossP (more b c) g f t = lossP b g f t := rfl
theorem cNode_pull {b' : Book} (h' : Good b') {l : List Int} {day : Int} (f : Int → Int → Int) (z : Int) (hl : ∀ x ∈ l, ∃ g ∈ b'.2.1, g.1 = x ∧ day ∈ daysP b' g) : pull b' f z (cNode b' l day) = match l with | [] => z | x :: _ => f x day := by
  unfold cNode
  cases l with
  | nil => exact pull_zero f z
  | cons x t =>
    obtain ⟨g, hg, rfl, hd⟩ := hl x (by simp)
    exact pull_node h' f z hg hd
theorem open_more (h : Good b) (h' : Good (more b c)) : (∃ p, Pot (linksP b) p) ↔ ∃ p, Pot (headLinks (more b c)) p := by
  constructor
  · rintro ⟨p, hp⟩
    obtain ⟨hg, hc⟩ := (pot_iff h).1 hp
    let f : Int → Int → Int := fun id d => match gaugeOf b id with | some g => fill b p g d | none => 0
    have hfv : ∀ g ∈ b.2.1, ∀ d, f g.1 d = fill b p g d := fun g hgm d => by
      show (match gaugeOf b g.1 with | some g => fill b p g d | none => 0) = _
      rw [gaugeOf_mem h.ids hgm]
    have hq : ∀ g ∈ b.2.1, ∀ d ∈ daysP (more b c) g, pull (more b c) f (p 0) (nodeP (more b c) g.1 d) = fill b p g d := fun g hgm d hd => by
      rw [pull_node h' f (p 0) hgm hd, hfv g hgm d]
    refine ⟨pull (more b c) f (p 0), (head_pot h').2 ⟨fun g hgm => ?_, fun d hd => ?_⟩⟩
    · have gf := hg g hgm
      have hmade : g.2.1 ∈ daysP b g := daysP_ne g
      have e0 := hq g hgm g.2.1 (daysP_ne g)
      rw [fill_day h hgm gf hmade] at e0
      refine ⟨?_, ?_, fun x y hx hy hxy => ?_, fun x y hx hy hxy => ?_⟩
      · rw [e0, pull_zero]; exact gf.hi
      · rw [e0, pull_zero]; exact gf.lo
      · rw [hq g hgm x hx, hq g hgm y hy]
        exact (fill_fits h hgm gf (h'.day hgm hx).1 hxy).1
      · rw [hq g hgm x hx, hq g hgm y hy, loss_more]
        exact (fill_fits h hgm gf (h'.day hgm hx).1 hxy).2
    · have key : ∀ l : List Int, (∀ x ∈ l, ∃ g ∈ b.2.1, g.1 = x ∧ d.2.1 ∈ daysP b g) → pull (more b c) f (p 0) (cNode (more b c) l d.2.1) = p (cNode b l d.2.1) := by
        intro l hl
        rw [cNode_pull h' f (p 0) (fun x hx => by obtain ⟨g, q1, q2, q3⟩ := hl x hx; exact ⟨g, q1, q2, days_more q3⟩)]
        cases l with
        | nil => rfl
        | cons x t =>
          obtain ⟨g, q1, rfl, q3⟩ := hl x (by simp)
          show f g.1 d.2.1 = p (nodeP b g.1 d.2.1)
          rw [hfv g q1, fill_day h q1 (hg g q1) q3]
      rw [cx_node, cy_node, key _ (fun x hx => left_day h hd (.inl hx)), key _ (fun x hx => left_day h hd (.inr hx)), ← cx_node, ← cy_node]
      exact hc d hd
  · rintro ⟨p, hp⟩
    obtain ⟨hg, hc⟩ := (head_pot h').1 hp
    let f : Int → Int → Int := fun id d => p (nodeP (more b c) id d)
    have hq : ∀ g ∈ b.2.1, ∀ d ∈ daysP b g, pull b f (p 0) (nodeP b g.1 d) = p (nodeP (more b c) g.1 d) := fun g hgm d hd => pull_node h f (p 0) hgm hd
    refine ⟨pull b f (p 0), (pot_iff h).2 ⟨fun g hgm => ?_, fun d hd => ?_⟩⟩
    · have gf := hg g hgm
      have e0 := hq g hgm g.2.1 (daysP_ne g)
      refine ⟨?_, ?_, fun x y hx hy hxy => ?_, fun x y hx hy hxy => ?_⟩
      · rw [e0, pull_zero]; exact gf.hi
      · rw [e0, pull_zero]; exact gf.lo
      · rw [hq g hgm x hx, hq g hgm y hy]
        exact gf.down x y (days_more hx) (days_more hy) hxy
      · rw [hq g hgm x hx, hq g hgm y hy]
        exact gf.loss x y (days_more hx) (days_more hy) hxy
    · have key : ∀ l : List Int, (∀ x ∈ l, ∃ g ∈ b.2.1, g.1 = x ∧ d.2.1 ∈ daysP b g) → pull b f (p 0) (cNode b l d.2.1) = p (cNode (more b c) l d.2.1) := by
        intro l hl
        rw [cNode_pull h f (p 0) hl]
        cases l <;> rfl
      rw [cx_node, cy_node, key _ (fun x hx => left_day h hd (.inl hx)), key _ (fun x hx => left_day h hd (.inr hx)), ← cx_node, ← cy_node]
      exact hc d hd
end
end Go.Proofs.ZzM
end

noncomputable section
namespace Go.Proofs.ZzM
open Go Go.Am
section
variable {L : List Lk} {N : Nat}
theorem Wl.app {u v : Int} {vs : List Int} {d : Int} (h1 : Wl L (fun x => x = u) vs v d) {ws : List Int} {w e : Int} (h2 : Wl L (fun x => x = v) ws w e) : ∃ xs, Wl L (fun x => x = u) xs w (d + e) := by
  induction h2 with
  | nil h => subst h; exact ⟨vs, by rw [Int.add_zero]; exact h1⟩
  | step hw hx ih =>
    obtain ⟨xs, hi⟩ := ih
    have := Wl.step hi hx
    rw [Int.add_assoc] at this
    exact ⟨_, this⟩
def dst (L : List Lk) (N : Nat) (s t : Int) : Int := gv (boundsP L N s) t
theorem dst_le (h : SysOk L N) (ht : TiedL L N) (ho : openP L N = true) {s t : Int} (hs : 0 ≤ s ∧ s < N) (hv : 0 ≤ t ∧ t < N) : dst L N s t ≤ 9007199254740992 := by
  have h2 := h.n60
  obtain ⟨p, hp⟩ := (openP_iff h.links (by omega)).1 ho
  obtain ⟨vs, d, hw, hd⟩ := ht.from' s hs.1 hs.2
  obtain ⟨ws, e, hx, he⟩ := ht.to t hv.1 hv.2
  obtain ⟨xs, hy⟩ := Wl.app hw hx
  have := (bounds_dist h.links (by omega) hp hs).low t xs _ (one_wl.2 hy)
  unfold dst
  omega
theorem dst_ne (h : SysOk L N) (ht : TiedL L N) (ho : openP L N = true) {s t : Int} (hs : 0 ≤ s ∧ s < N) (hv : 0 ≤ t ∧ t < N) : dst L N s t ≠ Free := by
  have := dst_le h ht ho hs hv
  unfold Free
  omega
theorem dst_pot (h : SysOk L N) (ht : TiedL L N) (ho : openP L N = true) {s : Int} (hs : 0 ≤ s ∧ s < N) : Pot L (dst L N s) := by
  have h2 := h.n60
  obtain ⟨p, hp⟩ := (openP_iff h.links (by omega)).1 ho
  intro u v m hl
  have hr := h.inr _ hl
  exact (bounds_dist h.links (by omega) hp hs).pot h.inr hl (dst_ne h ht ho hs hr.1)
theorem dst_self (h : SysOk L N) (ho : openP L N = true) {s : Int} (hs : 0 ≤ s ∧ s < N) : dst L N s s = 0 := bounds_self h ho hs.1 hs.2
theorem dst_max (h : SysOk L N) (ht : TiedL L N) (ho : openP L N = true) {s t : Int} (hs : 0 ≤ s ∧ s < N) (hv : 0 ≤ t ∧ t < N) {p : Int → Int} (hp : Pot L p) : p t - p s ≤ dst L N s t := by
  have h2 := h.n60
  obtain ⟨vs, hw⟩ := (bounds_dist h.links (by omega) hp hs).att t hv.1 hv.2 (dst_ne h ht ho hs hv)
  obtain ⟨u, hu, hx⟩ := (one_wl.1 hw).pot hp
  subst hu
  exact hx
theorem dst_all (h : SysOk L N) (ht : TiedL L N) (ho : openP L N = true) {x y : Int} (hx : 0 ≤ x ∧ x < N) (hy : 0 ≤ y ∧ y < N) {t : Int} (h1 : -(dst L N x y) ≤ t) (h2 : t ≤ dst L N y x) : ∃ p, Pot L p ∧ p x - p y = t := by
  refine ⟨fun v => min (dst L N y v) (dst L N x v + t), fun u v m hl => ?_, ?_⟩
  · have a1 := dst_pot h ht ho hy u v m hl
    have a2 := dst_pot h ht ho hx u v m hl
    show min _ _ ≤ min _ _ + m
    omega
  · have e1 := dst_self h ho hx
    have e2 := dst_self h ho hy
    show min (dst L N y x) (dst L N x x + t) - min (dst L N y y) (dst L N x y + t) = t
    omega
theorem dst_order (h : SysOk L N) (ht : TiedL L N) (ho : openP L N = true) {x y : Int} (hx : 0 ≤ x ∧ x < N) (hy : 0 ≤ y ∧ y < N) : -(dst L N x y) ≤ dst L N y x := by
  have h2 := h.n60
  obtain ⟨p, hp⟩ := (openP_iff h.links (by omega)).1 ho
  have a1 := dst_max h ht ho hx hy hp
  have a2 := dst_max h ht ho hy hx hp
  omega
theorem dst_bd (h : SysOk L N) (ht : TiedL L N) (ho : openP L N = true) {s t : Int} (hs : 0 ≤ s ∧ s < N) (hv : 0 ≤ t ∧ t < N) : -9007199254740992 ≤ dst L N s t ∧ dst L N s t ≤ 9007199254740992 := by
  have a1 := dst_le h ht ho hs hv
  have a2 := dst_le h ht ho hv hs
  have a3 := dst_order h ht ho hv hs
  omega
theorem BoundP_dst (h : SysOk L N) (ht : TiedL L N) {s t : Int} (hs : 0 ≤ s ∧ s < N) (hv : 0 ≤ t ∧ t < N) : BoundP L N s t = if openP L N then (dst L N s t, 0) else (0, 9) := by
  unfold BoundP
  by_cases ho : openP L N = true
  · have hne := dst_ne h ht ho hs hv
    unfold dst at hne ⊢
    rw [if_neg (by simp [ho]), if_neg hne, if_pos ho]
  · rw [if_pos (by simpa using ho), if_neg ho]
end
section
variable {b : Book} {c : Cmp}
theorem head_gl (h' : Good (more b c)) : GL (more b c) (headLinks (more b c)) := by
  intro i g hg l hl
  rw [head_eq]
  exact List.mem_append.2 (.inl (List.mem_flatMap.2 ⟨g, List.mem_of_getElem? hg, hl⟩))
theorem head_tied (h' : Good (more b c)) : TiedL (headLinks (more b c)) ((nodesP (more b c)).length + 1) := h'.tiedL (head_gl h')
theorem head_sys (h' : Good (more b c)) : SysOk (headLinks (more b c)) ((nodesP (more b c)).length + 1) :=
  h'.sys.sub (fun l hl => List.mem_of_mem_take hl) (by unfold headLinks; rw [List.length_take]; omega)
theorem head_open (h : Good b) (h' : Good (more b c)) : openP (headLinks (more b c)) ((nodesP (more b c)).length + 1) = openP (linksP b) ((nodesP b).length + 1) := by
  have n1 := h.sys.n60
  have n2 := (head_sys h').n60
  rw [Bool.eq_iff_iff, openP_iff (head_sys h').links (by omega), openP_iff h.sys.links (by omega)]
  exact (open_more h h').symm
theorem more_mem : c ∈ (more b c).2.2.2.2.1 := by simp [more]
theorem cx_rng (h' : Good (more b c)) : 0 ≤ cx (more b c) c ∧ cx (more b c) c < ((nodesP (more b c)).length + 1 : Nat) := (cx_left h' more_mem).rng
theorem cy_rng (h' : Good (more b c)) : 0 ≤ cy (more b c) c ∧ cy (more b c) c < ((nodesP (more b c)).length + 1 : Nat) := (cy_left h' more_mem).rng
def dLo (b : Book) (c : Cmp) : Int := -(dst (headLinks (more b c)) ((nodesP (more b c)).length + 1) (cx (more b c) c) (cy (more b c) c))
def dHi (b : Book) (c : Cmp) : Int := dst (headLinks (more b c)) ((nodesP (more b c)).length + 1) (cy (more b c) c) (cx (more b c) c)
theorem PredictP_eq (h : Good b) (h' : Good (more b (zeroDiff c))) : PredictP b c = if openP (linksP b) ((nodesP b).length + 1) then shownP b (zeroDiff c) (dLo b (zeroDiff c), dHi b (zeroDiff c)) else ((0, 0), 9) := by
  have e : WithP b (zeroDiff c) = (more b (zeroDiff c), 0) := by
    unfold WithP
    rw [if_neg (by simp [(checkP_iff b).2 h]), if_neg (by simp [(checkP_iff _).2 h'])]
  unfold PredictP
  rw [e, BoundP_dst (head_sys h') (head_tied h') (cy_rng h') (cx_rng h'), BoundP_dst (head_sys h') (head_tied h') (cx_rng h') (cy_rng h'), head_open h h']
  by_cases ho : openP (linksP b) ((nodesP b).length + 1) = true
  · rw [if_pos ho, if_pos ho, if_pos ho]
    rfl
  · rw [if_neg ho, if_neg ho, if_neg ho]
    rfl
theorem PredictP_good (hp : (PredictP b c).2 = 0) : Good b ∧ Good (more b (zeroDiff c)) := by
  have hw : (WithP b (zeroDiff c)).2 = 0 := by
    unfold PredictP at hp
    by_cases hw : (WithP b (zeroDiff c)).2 = 0
    · exact hw
    · rw [if_pos hw] at hp; exact hp
  unfold WithP at hw
  by_cases hb : checkP b = 0
  · rw [if_neg (by simp [hb])] at hw
    by_cases hm : checkP (more b (zeroDiff c)) = 0
    · exact ⟨(checkP_iff b).1 hb, (checkP_iff _).1 hm⟩
    · rw [if_pos hm] at hw; exact absurd hw hm
  · rw [if_pos hb] at hw; exact absurd hw hb
theorem shownP_zero {s : Int × Int} (h : (shownP b c s).2 = 0) : lowP b c ≤ highP b c ∧ shownP b c s = ((s.1 + lowP b c, s.2 + highP b c), 0) := by
  unfold shownP at h ⊢
  split at h
  · simp at h
  · rename_i hl
    rw [if_neg hl]
    exact ⟨by omega, rfl⟩
end
end Go.Proofs.ZzM
end

noncomputable section
namespace Go.Proofs.ZzM
open Go Go.Am
def sideP (f : Int → Int → Int) (z : Int) (l : List Int) (d : Int) : Int := match l with | [] => z | x :: _ => f x d
def diffP (f : Int → Int → Int) (z : Int) (c : Cmp) : Int := sideP f z (leftP c.2.2.1 c.2.2.2.1) c.2.1 - sideP f z (leftP c.2.2.2.1 c.2.2.1) c.2.1
structure GHist (b : Book) (f : Int → Int → Int) (z : Int) (g : Gauge) : Prop where
  hi : f g.1 g.2.1 ≤ z + (g.2.2.1 + g.2.2.2.1.2)
  lo : z + (g.2.2.1 + g.2.2.2.1.1) ≤ f g.1 g.2.1
  down : ∀ d e, g.2.1 ≤ d → d ≤ e → f g.1 e ≤ f g.1 d
  loss : ∀ d e, g.2.1 ≤ d → d ≤ e → f g.1 d ≤ f g.1 e + lossP b g d e
structure Hist (b : Book) (f : Int → Int → Int) (z : Int) : Prop where
  gauge : ∀ g ∈ b.2.1, GHist b f z g
  cmp : ∀ c ∈ b.2.2.2.2.1, (saysP b c).1 ≤ diffP f z c ∧ diffP f z c ≤ (saysP b c).2
theorem fill_hist {b : Book} (h : Good b) {p : Int → Int} (hg : ∀ g ∈ b.2.1, GaugeFits b p g) : ∃ f : Int → Int → Int, (∀ g ∈ b.2.1, GHist b f (p 0) g) ∧ ∀ g ∈ b.2.1, ∀ d ∈ daysP b g, f g.1 d = p (nodeP b g.1 d) := by
  let f : Int → Int → Int := fun id d => match gaugeOf b id with | some g => fill b p g d | none => 0
  have hfv : ∀ g ∈ b.2.1, ∀ d, f g.1 d = fill b p g d := fun g hgm d => by
    show (match gaugeOf b g.1 with | some g => fill b p g d | none => 0) = _
    rw [gaugeOf_mem h.ids hgm]
  refine ⟨f, fun g hgm => ?_, fun g hgm d hd => by rw [hfv g hgm]; exact fill_day h hgm (hg g hgm) hd⟩
  have gf := hg g hgm
  have e0 : f g.1 g.2.1 = p (nodeP b g.1 g.2.1) := by rw [hfv g hgm]; exact fill_day h hgm gf (daysP_ne g)
  refine ⟨by rw [e0]; exact gf.hi, by rw [e0]; exact gf.lo, fun d e h0 hde => ?_, fun d e h0 hde => ?_⟩
  · rw [hfv g hgm, hfv g hgm]
    exact (fill_fits h hgm gf h0 hde).1
  · rw [hfv g hgm, hfv g hgm]
    exact (fill_fits h hgm gf h0 hde).2
theorem side_node {b : Book} {f : Int → Int → Int} {p : Int → Int} (hm : ∀ g ∈ b.2.1, ∀ d ∈ daysP b g, f g.1 d = p (nodeP b g.1 d)) {l : List Int} {day : Int} (hl : ∀ x ∈ l, ∃ g ∈ b.2.1, g.1 = x ∧ day ∈ daysP b g) : p (cNode b l day) = sideP f (p 0) l day := by
  cases l with
  | nil => rfl
  | cons x t =>
    obtain ⟨g, q1, rfl, q3⟩ := hl x (by simp)
    exact (hm g q1 day q3).symm
theorem diff_node {b : Book} {f : Int → Int → Int} {p : Int → Int} (hm : ∀ g ∈ b.2.1, ∀ d ∈ daysP b g, f g.1 d = p (nodeP b g.1 d)) {c : Cmp}
    (hl : ∀ x, x ∈ leftP c.2.2.1 c.2.2.2.1 ∨ x ∈ leftP c.2.2.2.1 c.2.2.1 → ∃ g ∈ b.2.1, g.1 = x ∧ c.2.1 ∈ daysP b g) : p (cx b c) - p (cy b c) = diffP f (p 0) c := by
  unfold diffP
  rw [cx_node, cy_node, side_node hm (fun x hx => hl x (.inl hx)), side_node hm (fun x hx => hl x (.inr hx))]
theorem pull_cNode {b : Book} (h : Good b) (f : Int → Int → Int) (z : Int) {l : List Int} {day : Int} (hl : ∀ x ∈ l, ∃ g ∈ b.2.1, g.1 = x ∧ day ∈ daysP b g) : pull b f z (cNode b l day) = sideP f z l day := by
  rw [cNode_pull h f z hl]
  unfold sideP
  cases l <;> rfl
theorem pull_side {b : Book} (h : Good b) {f : Int → Int → Int} {z : Int} {c : Cmp} (hl : ∀ x, x ∈ leftP c.2.2.1 c.2.2.2.1 ∨ x ∈ leftP c.2.2.2.1 c.2.2.1 → ∃ g ∈ b.2.1, g.1 = x ∧ c.2.1 ∈ daysP b g) : pull b f z (cx b c) - pull b f z (cy b c) = diffP f z c := by
  unfold diffP
  rw [cx_node, cy_node, pull_cNode h f z (fun x hx => hl x (.inl hx)), pull_cNode h f z (fun x hx => hl x (.inr hx))]
theorem pull_gauge {b : Book} (h : Good b) {f : Int → Int → Int} {z : Int} {g : Gauge} (hg : g ∈ b.2.1) (hh : GHist b f z g) : GaugeFits b (pull b f z) g := by
  have q : ∀ d ∈ daysP b g, pull b f z (nodeP b g.1 d) = f g.1 d := fun d hd => pull_node h f z hg hd
  have e0 := q g.2.1 (daysP_ne g)
  refine ⟨?_, ?_, fun d e hd he hde => ?_, fun d e hd he hde => ?_⟩
  · rw [e0, pull_zero]; exact hh.hi
  · rw [e0, pull_zero]; exact hh.lo
  · rw [q d hd, q e he]; exact hh.down d e (h.day hg hd).1 hde
  · rw [q d hd, q e he]; exact hh.loss d e (h.day hg hd).1 hde
section
variable {b : Book} {c : Cmp}
theorem pot_hist (h : Good b) {p : Int → Int} (hp : Pot (linksP b) p) : ∃ f, Hist b f (p 0) ∧ ∀ g ∈ b.2.1, ∀ d ∈ daysP b g, f g.1 d = p (nodeP b g.1 d) := by
  obtain ⟨hg, hc⟩ := (pot_iff h).1 hp
  obtain ⟨f, hf, hm⟩ := fill_hist h hg
  refine ⟨f, ⟨hf, fun c hcm => ?_⟩, hm⟩
  have := diff_node hm (c := c) (fun x hx => left_day h hcm hx)
  have := hc c hcm
  omega
theorem hist_pot (h : Good b) {f : Int → Int → Int} {z : Int} (hh : Hist b f z) : Pot (linksP b) (pull b f z) := by
  refine (pot_iff h).2 ⟨fun g hg => pull_gauge h hg (hh.gauge g hg), fun c hc => ?_⟩
  have := pull_side (f := f) (z := z) h (c := c) (fun x hx => left_day h hc hx)
  have := hh.cmp c hc
  omega
theorem day_more (h : Good b) {d : Cmp} (hd : d ∈ b.2.2.2.2.1) : ∀ x, x ∈ leftP d.2.2.1 d.2.2.2.1 ∨ x ∈ leftP d.2.2.2.1 d.2.2.1 → ∃ g ∈ (more b c).2.1, g.1 = x ∧ d.2.1 ∈ daysP (more b c) g := by
  intro x hx
  obtain ⟨g, q1, q2, q3⟩ := left_day h hd hx
  exact ⟨g, q1, q2, days_more q3⟩
theorem head_hist (h : Good b) (h' : Good (more b c)) {p : Int → Int} (hp : Pot (headLinks (more b c)) p) : ∃ f, Hist b f (p 0) ∧ p (cx (more b c) c) - p (cy (more b c) c) = diffP f (p 0) c := by
  obtain ⟨hg, hc⟩ := (head_pot h').1 hp
  obtain ⟨f, hf, hm⟩ := fill_hist h' hg
  refine ⟨f, ⟨fun g hgm => ?_, fun d hd => ?_⟩, diff_node hm fun x hx => left_day h' more_mem hx⟩
  · have := hf g hgm
    exact ⟨this.hi, this.lo, this.down, this.loss⟩
  · have := diff_node hm (c := d) (day_more h hd)
    have := hc d hd
    omega
theorem hist_head (h : Good b) (h' : Good (more b c)) {f : Int → Int → Int} {z : Int} (hh : Hist b f z) : Pot (headLinks (more b c)) (pull (more b c) f z) ∧ pull (more b c) f z (cx (more b c) c) - pull (more b c) f z (cy (more b c) c) = diffP f z c := by
  refine ⟨(head_pot h').2 ⟨fun g hg => pull_gauge h' hg ?_, fun d hd => ?_⟩, pull_side h' fun x hx => left_day h' more_mem hx⟩
  · have := hh.gauge g hg
    exact ⟨this.hi, this.lo, this.down, this.loss⟩
  · have := pull_side (f := f) (z := z) h' (c := d) (day_more h hd)
    have := hh.cmp d hd
    omega
theorem open_hist (h : Good b) : openP (linksP b) ((nodesP b).length + 1) = true ↔ ∃ f z, Hist b f z := by
  have := h.sys.n60
  rw [openP_iff h.sys.links (by omega)]
  constructor
  · rintro ⟨p, hp⟩
    obtain ⟨f, hf, _⟩ := pot_hist h hp
    exact ⟨f, _, hf⟩
  · rintro ⟨f, z, hh⟩
    exact ⟨_, hist_pot h hh⟩
theorem d_max (h : Good b) (h' : Good (more b c)) {f : Int → Int → Int} {z : Int} (hh : Hist b f z) : dLo b c ≤ diffP f z c ∧ diffP f z c ≤ dHi b c := by
  have ho : openP (headLinks (more b c)) ((nodesP (more b c)).length + 1) = true := by rw [head_open h h']; exact (open_hist h).2 ⟨f, z, hh⟩
  obtain ⟨hp, hd⟩ := hist_head h h' hh
  have a1 := dst_max (head_sys h') (head_tied h') ho (cx_rng h') (cy_rng h') hp
  have a2 := dst_max (head_sys h') (head_tied h') ho (cy_rng h') (cx_rng h') hp
  unfold dLo dHi
  omega
theorem d_all (h : Good b) (h' : Good (more b c)) (ho : openP (linksP b) ((nodesP b).length + 1) = true) {t : Int} (h1 : dLo b c ≤ t) (h2 : t ≤ dHi b c) : ∃ f z, Hist b f z ∧ diffP f z c = t := by
  rw [← head_open h h'] at ho
  obtain ⟨p, hp, hd⟩ := dst_all (head_sys h') (head_tied h') ho (cx_rng h') (cy_rng h') h1 h2
  obtain ⟨f, hf, he⟩ := head_hist h h' hp
  exact ⟨f, _, hf, by rw [← he]; exact hd⟩
theorem d_order (h : Good b) (h' : Good (more b c)) (ho : openP (linksP b) ((nodesP b).length + 1) = true) : dLo b c ≤ dHi b c := by
  rw [← head_open h h'] at ho
  exact dst_order (head_sys h') (head_tied h') ho (cx_rng h') (cy_rng h')
theorem says_low (b : Book) (c : Cmp) : (saysP b c).1 = c.2.2.2.2.1 - highP b c ∧ (saysP b c).2 = c.2.2.2.2.1 - lowP b c := by
  unfold saysP highP lowP
  constructor
  · simp only; omega
  · simp only; omega
theorem hist_more {d : Cmp} {f : Int → Int → Int} {z : Int} : Hist (more b d) f z ↔ Hist b f z ∧ (saysP b d).1 ≤ diffP f z d ∧ diffP f z d ≤ (saysP b d).2 := by
  constructor
  · intro h
    exact ⟨⟨fun g hg => by have := h.gauge g hg; exact ⟨this.hi, this.lo, this.down, this.loss⟩, fun c hc => h.cmp c (List.mem_append.2 (.inl hc))⟩, h.cmp d more_mem⟩
  · rintro ⟨h, hd⟩
    refine ⟨fun g hg => by have := h.gauge g hg; exact ⟨this.hi, this.lo, this.down, this.loss⟩, fun c hc => ?_⟩
    rcases List.mem_append.1 (show c ∈ b.2.2.2.2.1 ++ [d] from hc) with hc | hc
    · exact h.cmp c hc
    · rw [List.mem_singleton] at hc
      subst hc
      exact hd
structure Pred (b : Book) (c : Cmp) (s : Int × Int) : Prop where
  good : Good b
  good2 : Good (more b (zeroDiff c))
  order : lowP b c ≤ highP b c
  has : ∃ f z, Hist b f z
  ends : s.1 - lowP b c ≤ s.2 - highP b c
  bd : -9007199254740992 ≤ s.1 - lowP b c ∧ s.2 - highP b c ≤ 9007199254740992
  all : ∀ f z, Hist b f z → s.1 - lowP b c ≤ diffP f z c ∧ diffP f z c ≤ s.2 - highP b c
  each : ∀ t, s.1 - lowP b c ≤ t → t ≤ s.2 - highP b c → ∃ f z, Hist b f z ∧ diffP f z c = t
theorem predict_pred (hp : (PredictP b c).2 = 0) : Pred b c (PredictP b c).1 := by
  obtain ⟨h, h'⟩ := PredictP_good hp
  rw [PredictP_eq h h'] at hp ⊢
  by_cases ho : openP (linksP b) ((nodesP b).length + 1) = true
  · rw [if_pos ho] at hp ⊢
    obtain ⟨h1, h2⟩ := shownP_zero hp
    rw [h2]
    have e1 : lowP b (zeroDiff c) = lowP b c := rfl
    have e2 : highP b (zeroDiff c) = highP b c := rfl
    rw [e1, e2] at *
    have s1 : dLo b (zeroDiff c) + lowP b c - lowP b c = dLo b (zeroDiff c) := by omega
    have s2 : dHi b (zeroDiff c) + highP b c - highP b c = dHi b (zeroDiff c) := by omega
    refine ⟨h, h', h1, (open_hist h).1 ho, ?_, ?_, fun f z hh => ?_, fun t t1 t2 => ?_⟩
    · simp only
      rw [s1, s2]
      exact d_order h h' ho
    · simp only
      rw [s1, s2]
      rw [← head_open h h'] at ho
      have a1 := dst_bd (head_sys h') (head_tied h') ho (cx_rng h') (cy_rng h')
      have a2 := dst_bd (head_sys h') (head_tied h') ho (cy_rng h') (cx_rng h')
      unfold dLo dHi
      omega
    · simp only
      rw [s1, s2]
      exact d_max (c := zeroDiff c) h h' hh
    · simp only at t1 t2
      rw [s1] at t1
      rw [s2] at t2
      exact d_all (c := zeroDiff c) h h' ho t1 t2
  · rw [if_neg ho] at hp
    simp at hp
end
end Go.Proofs.ZzM
end

noncomputable section
namespace Go.Proofs.ZzM
open Go Go.Am
theorem cmp_mul {k : Int × Int} (hk : 0 < k.2) (m n : Int) : 0 < cmpP (mulP k m) (mulP k n) ↔ k.1 * n < k.1 * m := by
  obtain ⟨g, g0, _, g1, g2⟩ := red_spec (n := k.1 * m) hk
  obtain ⟨h, h0, _, h1, h2⟩ := red_spec (n := k.1 * n) hk
  have key : (mulP k n).1 * (mulP k m).2 < (mulP k m).1 * (mulP k n).2 ↔ k.1 * n < k.1 * m := by
    have e1 : (mulP k n).1 * (mulP k m).2 * ((g : Int) * h) = k.1 * n * k.2 := by
      show (redP (k.1 * n) k.2).1 * (redP (k.1 * m) k.2).2 * ((g : Int) * h) = k.1 * n * k.2
      calc _ = ((redP (k.1 * n) k.2).1 * h) * ((redP (k.1 * m) k.2).2 * g) := by ac_rfl
        _ = _ := by rw [← h1, ← g2]
    have e2 : (mulP k m).1 * (mulP k n).2 * ((g : Int) * h) = k.1 * m * k.2 := by
      show (redP (k.1 * m) k.2).1 * (redP (k.1 * n) k.2).2 * ((g : Int) * h) = k.1 * m * k.2
      calc _ = ((redP (k.1 * m) k.2).1 * g) * ((redP (k.1 * n) k.2).2 * h) := by ac_rfl
        _ = _ := by rw [← g1, ← h2]
    have pg : 0 < (g : Int) * h := Int.mul_pos (by omega) (by omega)
    constructor
    · intro hl
      have := Int.mul_lt_mul_of_pos_right hl pg
      rw [e1, e2] at this
      exact Int.lt_of_mul_lt_mul_right this (by omega)
    · intro hl
      have := Int.mul_lt_mul_of_pos_right hl hk
      rw [← e1, ← e2] at this
      exact Int.lt_of_mul_lt_mul_right this (by omega)
  rw [← key]
  unfold cmpP
  by_cases he : mulP k m = mulP k n
  · rw [if_pos he, he]
    omega
  · rw [if_neg he]
    split
    · omega
    · split <;> omega
theorem over_scale {k : Int × Int} (hk : 0 < k.2) {heat : Int × Int} (hh : heat.1 ≤ heat.2) : overP k heat = if k.1 < 0 then (mulP k heat.2, mulP k heat.1) else (mulP k heat.1, mulP k heat.2) := by
  unfold overP
  by_cases hn : k.1 < 0
  · rw [if_pos hn]
    by_cases he : heat.1 = heat.2
    · rw [he]
      split <;> rfl
    · rw [if_pos ((cmp_mul hk _ _).2 (Int.mul_lt_mul_of_neg_left (by omega) hn))]
  · rw [if_neg hn, if_neg (fun h => by
      have h1 := (cmp_mul hk _ _).1 h
      have h2 := Int.mul_le_mul_of_nonneg_left hh (show 0 ≤ k.1 by omega)
      omega)]
end Go.Proofs.ZzM
end

noncomputable section
namespace Go.Proofs.ZzM
open Go Go.Am
section
variable {b x : Book}
theorem gauge_same (h : Good b) {g g' : Gauge} (hg : g ∈ b.2.1) (hg' : g' ∈ b.2.1) (e : g.1 = g'.1) : g = g' := by
  have h1 := gaugeOf_mem h.ids hg
  have h2 := gaugeOf_mem h.ids hg'
  rw [e, h2] at h1
  exact (Option.some.inj h1).symm
theorem mem_nodes (h : Good b) {g : Gauge} (hg : g ∈ b.2.1) {d : Int} : (g.1, d) ∈ nodesP b ↔ d ∈ daysP b g := by
  unfold nodesP
  rw [List.mem_flatMap]
  constructor
  · rintro ⟨g', hg', hm⟩
    obtain ⟨d', hd', e⟩ := List.mem_map.1 hm
    simp only [Prod.mk.injEq] at e
    obtain ⟨e1, rfl⟩ := e
    rw [gauge_same h hg hg' e1.symm]
    exact hd'
  · intro hd
    exact ⟨g, hg, List.mem_map.2 ⟨d, hd, rfl⟩⟩
theorem nodeP_same (hn : nodesP x = nodesP b) (id d : Int) : nodeP x id d = nodeP b id d := by unfold nodeP; rw [hn]
theorem cNode_same (hn : nodesP x = nodesP b) (l : List Int) (d : Int) : cNode x l d = cNode b l d := by
  unfold cNode
  cases l with
  | nil => rfl
  | cons a t => exact nodeP_same hn a d
theorem nar_pot (hb : Good b) (hx : Good x) (hn : nodesP x = nodesP b)
    (hg : ∀ g ∈ b.2.1, ∃ g' ∈ x.2.1, g'.1 = g.1 ∧ g'.2.1 = g.2.1 ∧ g'.2.2.1 + g'.2.2.2.1.2 ≤ g.2.2.1 + g.2.2.2.1.2 ∧ g.2.2.1 + g.2.2.2.1.1 ≤ g'.2.2.1 + g'.2.2.2.1.1 ∧ ∀ d e, 0 ≤ d → d ≤ e → lossP x g' d e ≤ lossP b g d e)
    (hc : ∀ c ∈ b.2.2.2.2.1, ∃ c' ∈ x.2.2.2.2.1, leftP c'.2.2.1 c'.2.2.2.1 = leftP c.2.2.1 c.2.2.2.1 ∧ leftP c'.2.2.2.1 c'.2.2.1 = leftP c.2.2.2.1 c.2.2.1 ∧ c'.2.1 = c.2.1 ∧ (saysP b c).1 ≤ (saysP x c').1 ∧ (saysP x c').2 ≤ (saysP b c).2)
    {p : Int → Int} (hp : Pot (linksP x) p) : Pot (linksP b) p := by
  obtain ⟨pg, pc⟩ := (pot_iff hx).1 hp
  refine (pot_iff hb).2 ⟨fun g hgm => ?_, fun c hcm => ?_⟩
  · obtain ⟨g', hg', e1, e2, e3, e4, e5⟩ := hg g hgm
    have gf := pg g' hg'
    have hd : ∀ d, d ∈ daysP b g ↔ d ∈ daysP x g' := by
      intro d
      rw [← mem_nodes hb hgm, ← mem_nodes hx hg', hn, e1]
    have f1 := gf.hi; have f2 := gf.lo; have f3 := gf.down; have f4 := gf.loss
    rw [nodeP_same hn, e1, e2] at f1 f2
    refine ⟨by omega, by omega, fun d e q1 q2 q3 => ?_, fun d e q1 q2 q3 => ?_⟩
    · have := f3 d e ((hd d).1 q1) ((hd e).1 q2) q3
      rw [nodeP_same hn, nodeP_same hn, e1] at this
      exact this
    · have := f4 d e ((hd d).1 q1) ((hd e).1 q2) q3
      rw [nodeP_same hn, nodeP_same hn, e1] at this
      have l := e5 d e (hb.day hgm q1).2.1 q3
      omega
  · obtain ⟨c', hc', e1, e2, e3, e4, e5⟩ := hc c hcm
    have := pc c' hc'
    rw [cx_node, cy_node, e1, e2, e3, cNode_same hn, cNode_same hn, ← cx_node, ← cy_node] at this
    omega
theorem nodes_days (hg : x.2.1 = b.2.1) (hd : ∀ g ∈ b.2.1, daysP x g = daysP b g) : nodesP x = nodesP b := by
  unfold nodesP
  rw [hg]
  have : ∀ l : List Gauge, (∀ g ∈ l, g ∈ b.2.1) → (l.flatMap fun g => (daysP x g).map fun d => ((g.1, d) : Int × Int)) = l.flatMap fun g => (daysP b g).map fun d => ((g.1, d) : Int × Int) := by
    intro l
    induction l with
    | nil => intro _; rfl
    | cons g t ih =>
      intro hl
      rw [List.flatMap_cons, List.flatMap_cons, hd g (hl g (by simp)), ih fun g hg => hl g (by simp [hg])]
  exact this _ fun g hg => hg
end
section
variable {b : Book} {c d : Cmp}
theorem nodes_twice (e1 : d.2.1 = c.2.1) (e2 : d.2.2.1 = c.2.2.1) (e3 : d.2.2.2.1 = c.2.2.2.1) : nodesP (more (more b c) d) = nodesP (more b c) := by
  refine nodes_days rfl fun g hg => asc_ext (days_lt _ _) (days_lt _ _) fun y => ?_
  rw [daysP_mem, daysP_mem]
  refine or_congr Iff.rfl (or_congr ?_ Iff.rfl)
  constructor
  · rintro ⟨q, hq, h1, h2⟩
    rcases List.mem_append.1 (show q ∈ (more b c).2.2.2.2.1 ++ [d] from hq) with hq | hq
    · exact ⟨q, hq, h1, h2⟩
    · rw [List.mem_singleton] at hq
      subst hq
      exact ⟨c, more_mem, by rw [← e2, ← e3]; exact h1, by rw [← e1]; exact h2⟩
  · rintro ⟨q, hq, h1, h2⟩
    exact ⟨q, List.mem_append.2 (.inl hq), h1, h2⟩
theorem loss_refl {b : Book} {g : Gauge} : ∀ d e : Int, 0 ≤ d → d ≤ e → lossP b g d e ≤ lossP b g d e := fun _ _ _ _ => Int.le_refl _
theorem more_pot (h : Good b) (h' : Good (more b c)) (hn : nodesP (more b c) = nodesP b) {p : Int → Int} (hp : Pot (linksP (more b c)) p) : Pot (linksP b) p :=
  nar_pot h h' hn (fun g hg => ⟨g, hg, rfl, rfl, Int.le_refl _, Int.le_refl _, fun _ _ _ _ => Int.le_refl _⟩) (fun q hq => ⟨q, List.mem_append.2 (.inl hq), rfl, rfl, rfl, Int.le_refl _, Int.le_refl _⟩) hp
theorem twice_pot (h : Good (more b c)) (h' : Good (more (more b c) d)) (e1 : d.2 = c.2) {p : Int → Int} : Pot (linksP (more (more b c) d)) p ↔ Pot (linksP (more b c)) p := by
  have hn : nodesP (more (more b c) d) = nodesP (more b c) := nodes_twice (by rw [e1]) (by rw [e1]) (by rw [e1])
  constructor
  · exact more_pot h h' hn
  · refine nar_pot h' h hn.symm (fun g hg => ⟨g, hg, rfl, rfl, Int.le_refl _, Int.le_refl _, fun _ _ _ _ => Int.le_refl _⟩) (fun q hq => ?_)
    rcases List.mem_append.1 (show q ∈ (more b c).2.2.2.2.1 ++ [d] from hq) with hq | hq
    · exact ⟨q, hq, rfl, rfl, rfl, Int.le_refl _, Int.le_refl _⟩
    · rw [List.mem_singleton] at hq
      subst hq
      obtain ⟨i, q⟩ := q
      obtain ⟨j, c⟩ := c
      simp only at e1
      subst e1
      exact ⟨_, more_mem, rfl, rfl, rfl, Int.le_refl _, Int.le_refl _⟩
theorem more_fits (h : Good b) (h' : Good (more b c)) (hn : nodesP (more b c) = nodesP b) {p : Int → Int} : Pot (linksP (more b c)) p ↔ Pot (linksP b) p ∧ (saysP b c).1 ≤ p (cx b c) - p (cy b c) ∧ p (cx b c) - p (cy b c) ≤ (saysP b c).2 := by
  have ex : cx (more b c) c = cx b c := by rw [cx_node, cx_node, cNode_same hn]
  have ey : cy (more b c) c = cy b c := by rw [cy_node, cy_node, cNode_same hn]
  constructor
  · intro hp
    have := ((pot_iff h').1 hp).2 c more_mem
    rw [ex, ey] at this
    have e : saysP (more b c) c = saysP b c := rfl
    rw [e] at this
    exact ⟨more_pot h h' hn hp, by omega, by omega⟩
  · rintro ⟨hp, h1, h2⟩
    obtain ⟨pg, pc⟩ := (pot_iff h).1 hp
    refine (pot_iff h').2 ⟨fun g hg => ?_, fun q hq => ?_⟩
    · have gf := pg g hg
      have hd : ∀ y, y ∈ daysP (more b c) g ↔ y ∈ daysP b g := by
        intro y
        rw [← mem_nodes h hg, ← mem_nodes h' hg, hn]
      refine ⟨by rw [nodeP_same hn]; exact gf.hi, by rw [nodeP_same hn]; exact gf.lo, fun y z q1 q2 q3 => ?_, fun y z q1 q2 q3 => ?_⟩
      · rw [nodeP_same hn, nodeP_same hn]; exact gf.down y z ((hd y).1 q1) ((hd z).1 q2) q3
      · rw [nodeP_same hn, nodeP_same hn]; exact gf.loss y z ((hd y).1 q1) ((hd z).1 q2) q3
    · rcases List.mem_append.1 (show q ∈ b.2.2.2.2.1 ++ [c] from hq) with hq | hq
      · have := pc q hq
        rw [cx_node, cy_node, cNode_same hn, cNode_same hn, ← cx_node, ← cy_node]
        exact this
      · rw [List.mem_singleton] at hq
        subst hq
        rw [ex, ey]
        have e : saysP (more b q) q = saysP b q := rfl
        rw [e]
        omega
end
def Pt {α : Type} (R : α → α → Prop) (l m : List α) : Prop := m.length = l.length ∧ ∀ (i : Nat) (a c : α), l[i]? = some a → m[i]? = some c → R a c
theorem pt_refl {α : Type} {R : α → α → Prop} (h : ∀ a, R a a) (l : List α) : Pt R l l := ⟨rfl, fun i a c h1 h2 => by rw [h1] at h2; cases h2; exact h a⟩
theorem pt_set {α : Type} {R : α → α → Prop} (h : ∀ a, R a a) {l : List α} {i : Nat} {a c : α} (ha : l[i]? = some a) (hr : R a c) : Pt R l (l.set i c) := by
  refine ⟨List.length_set, fun j x y h1 h2 => ?_⟩
  rw [List.getElem?_set] at h2
  by_cases e : i = j
  · subst e
    rw [if_pos rfl, if_pos (List.getElem?_eq_some_iff.1 ha).1] at h2
    rw [ha] at h1
    cases h1; cases h2
    exact hr
  · rw [if_neg e, h1] at h2
    cases h2
    exact h x
theorem pt_get {α : Type} {R : α → α → Prop} {l m : List α} (h : Pt R l m) {a : α} (ha : a ∈ l) : ∃ c ∈ m, R a c := by
  obtain ⟨i, hi, rfl⟩ := List.mem_iff_getElem.1 ha
  have hm : i < m.length := by rw [h.1]; exact hi
  exact ⟨m[i], List.getElem_mem _, h.2 i _ _ (List.getElem?_eq_getElem hi) (List.getElem?_eq_getElem hm)⟩
theorem pt_back {α : Type} {R : α → α → Prop} {l m : List α} (h : Pt R l m) {c : α} (hc : c ∈ m) : ∃ a ∈ l, R a c := by
  obtain ⟨i, hi, rfl⟩ := List.mem_iff_getElem.1 hc
  have hm : i < l.length := by rw [← h.1]; exact hi
  exact ⟨l[i], List.getElem_mem _, h.2 i _ _ (List.getElem?_eq_getElem hm) (List.getElem?_eq_getElem hi)⟩
def NarG (g g' : Gauge) : Prop := g'.1 = g.1 ∧ g'.2.1 = g.2.1 ∧ g'.2.2.1 = g.2.2.1 ∧ g.2.2.2.1.1 ≤ g'.2.2.2.1.1 ∧ g'.2.2.2.1.2 ≤ g.2.2.2.1.2 ∧ g'.2.2.2.2.1 = g.2.2.2.2.1 ∧ g'.2.2.2.2.2 ≤ g.2.2.2.2.2
def NarL (l l' : Loan) : Prop := l'.1 = l.1 ∧ l'.2.1 = l.2.1 ∧ l'.2.2 ≤ l.2.2
def NarC (c c' : Cmp) : Prop := c'.2.1 = c.2.1 ∧ c'.2.2.1 = c.2.2.1 ∧ c'.2.2.2.1 = c.2.2.2.1 ∧ c'.2.2.2.2.1 = c.2.2.2.2.1 ∧ c'.2.2.2.2.2.1 ≤ c.2.2.2.2.2.1 ∧ c.2.2.2.2.2.2.1 ≤ c'.2.2.2.2.2.2.1 ∧ c'.2.2.2.2.2.2.2 ≤ c.2.2.2.2.2.2.2
structure Nar (b x : Book) : Prop where
  film : b.1.1 ≤ x.1.1 ∧ x.1.2 ≤ b.1.2
  gauges : Pt NarG b.2.1 x.2.1
  uses : x.2.2.1 = b.2.2.1
  loans : Pt NarL b.2.2.2.1 x.2.2.2.1
  compares : Pt NarC b.2.2.2.2.1 x.2.2.2.2.1
  looks : x.2.2.2.2.2 = b.2.2.2.2.2
theorem NarG.refl (g : Gauge) : NarG g g := ⟨rfl, rfl, rfl, Int.le_refl _, Int.le_refl _, rfl, Int.le_refl _⟩
theorem NarL.refl (l : Loan) : NarL l l := ⟨rfl, rfl, Int.le_refl _⟩
theorem NarC.refl (c : Cmp) : NarC c c := ⟨rfl, rfl, rfl, rfl, Int.le_refl _, Int.le_refl _, Int.le_refl _⟩
theorem Nar.refl (b : Book) : Nar b b := ⟨⟨Int.le_refl _, Int.le_refl _⟩, pt_refl NarG.refl _, rfl, pt_refl NarL.refl _, pt_refl NarC.refl _, rfl⟩
theorem mul_floor {k : Int × Int} (hk : 0 < k.2) (n : Int) : (mulP k n).1 / (mulP k n).2 = k.1 * n / k.2 ∧ -(mulP k n).1 / (mulP k n).2 = -(k.1 * n) / k.2 := by
  obtain ⟨g, g0, _, g1, g2⟩ := red_spec (n := k.1 * n) hk
  have hg : (0 : Int) < g := by omega
  have key : ∀ q d : Int, k.1 * n = q * g → k.2 = d * g → q / d = k.1 * n / k.2 ∧ -q / d = -(k.1 * n) / k.2 := by
    intro q d h1 h2
    rw [h1, h2]
    refine ⟨(Int.mul_ediv_mul_of_pos_left _ _ hg).symm, ?_⟩
    rw [← Int.neg_mul]
    exact (Int.mul_ediv_mul_of_pos_left _ _ hg).symm
  exact key _ _ g1 g2
theorem over_narrow {k : Int × Int} (hk : 0 < k.2) {h h' : Int × Int} (h0 : h.1 ≤ h.2) (h0' : h'.1 ≤ h'.2) (h1 : h.1 ≤ h'.1) (h2 : h'.2 ≤ h.2) :
    ceilP (overP k h).1 ≤ ceilP (overP k h').1 ∧ (overP k h').2.1 / (overP k h').2.2 ≤ (overP k h).2.1 / (overP k h).2.2 := by
  have mono : ∀ {m n : Int}, k.1 * m ≤ k.1 * n → (mulP k m).1 / (mulP k m).2 ≤ (mulP k n).1 / (mulP k n).2 ∧ ceilP (mulP k m) ≤ ceilP (mulP k n) := by
    intro m n hmn
    unfold ceilP
    rw [(mul_floor hk m).1, (mul_floor hk m).2, (mul_floor hk n).1, (mul_floor hk n).2]
    have a1 := Int.ediv_le_ediv hk hmn
    have a2 := Int.ediv_le_ediv hk (show -(k.1 * n) ≤ -(k.1 * m) by omega)
    omega
  rw [over_scale hk h0, over_scale hk h0']
  by_cases hn : k.1 < 0
  · rw [if_pos hn, if_pos hn]
    exact ⟨(mono (Int.mul_le_mul_of_nonpos_left (by omega) h2)).2, (mono (Int.mul_le_mul_of_nonpos_left (by omega) h1)).1⟩
  · rw [if_neg hn, if_neg hn]
    exact ⟨(mono (Int.mul_le_mul_of_nonneg_left h1 (by omega))).2, (mono (Int.mul_le_mul_of_nonneg_left h2 (by omega))).1⟩
section
variable {b x : Book}
theorem nar_days (hn : Nar b x) {g g' : Gauge} (h : NarG g g') : daysP x g' = daysP b g := by
  refine asc_ext (days_lt _ _) (days_lt _ _) fun y => ?_
  rw [daysP_mem, daysP_mem, h.1, h.2.1, hn.looks]
  refine or_congr Iff.rfl (or_congr ?_ Iff.rfl)
  constructor
  · rintro ⟨q, hq, h1, h2⟩
    obtain ⟨c, hc, r⟩ := pt_back hn.compares hq
    exact ⟨c, hc, by rw [← r.2.1, ← r.2.2.1]; exact h1, by rw [← r.1]; exact h2⟩
  · rintro ⟨q, hq, h1, h2⟩
    obtain ⟨c, hc, r⟩ := pt_get hn.compares hq
    exact ⟨c, hc, by rw [r.2.1, r.2.2.1]; exact h1, by rw [r.1]; exact h2⟩
theorem nar_nodes (hn : Nar b x) : nodesP x = nodesP b := by
  unfold nodesP
  have : ∀ l m : List Gauge, Pt NarG l m → (m.flatMap fun g => (daysP x g).map fun d => ((g.1, d) : Int × Int)) = l.flatMap fun g => (daysP b g).map fun d => ((g.1, d) : Int × Int) := by
    intro l
    induction l with
    | nil =>
      intro m hm
      have : m = [] := List.length_eq_zero_iff.1 hm.1
      subst this; rfl
    | cons g t ih =>
      intro m hm
      cases m with
      | nil => have := hm.1; simp at this
      | cons g' t' =>
        have r := hm.2 0 g g' rfl rfl
        rw [List.flatMap_cons, List.flatMap_cons, nar_days hn r, r.1, ih t' ⟨by have := hm.1; simpa using this, fun i a c h1 h2 => hm.2 (i + 1) a c (by simpa using h1) (by simpa using h2)⟩]
  exact this _ _ hn.gauges
theorem nar_loss (hn : Nar b x) {g g' : Gauge} (h : NarG g g') (f t : Int) : lossP x g' f t ≤ lossP b g f t := by
  unfold lossP
  have hu : useDays x g'.1 f t = useDays b g.1 f t := by unfold useDays; rw [hn.uses, h.1]
  rw [hu, h.1]
  have hl : ∀ l m : List Loan, Pt NarL l m → loanLoss g.1 f t m ≤ loanLoss g.1 f t l := by
    intro l
    induction l with
    | nil =>
      intro m hm
      have : m = [] := List.length_eq_zero_iff.1 hm.1
      subst this; exact Int.le_refl _
    | cons a s ih =>
      intro m hm
      cases m with
      | nil => have := hm.1; simp at this
      | cons a' s' =>
        have r := hm.2 0 a a' rfl rfl
        have i := ih s' ⟨by have := hm.1; simpa using this, fun i a c h1 h2 => hm.2 (i + 1) a c (by simpa using h1) (by simpa using h2)⟩
        simp only [loanLoss]
        have e : loanDays a' f t = loanDays a f t := by unfold loanDays; rw [r.2.1]
        rw [e, r.1]
        split
        · rename_i hc
          have := Int.mul_le_mul_of_nonneg_left r.2.2 (show 0 ≤ loanDays a f t by omega)
          omega
        · omega
  have h1 := hl _ _ hn.loans
  have h2 := Int.mul_le_mul_of_nonneg_left h.2.2.2.2.2.2 (show (0 : Int) ≤ ((setI (useDays b g.1 f t)).length : Int) by omega)
  omega
theorem nar_rate (hn : Nar b x) (hb : Good b) (hx : Good x) (l : List Int) : rateP (shelf x) l = rateP (shelf b) l := by
  unfold rateP
  cases l with
  | nil => rfl
  | cons a t =>
    simp only
    rw [mget_shelf hx.ids, mget_shelf hb.ids]
    cases h1 : gaugeOf b a with
    | none =>
      cases h2 : gaugeOf x a with
      | none => rfl
      | some g' =>
        obtain ⟨q1, q2⟩ := gaugeOf_some h2
        obtain ⟨g, hg, r⟩ := pt_back hn.gauges q1
        have := gaugeOf_mem hb.ids hg
        rw [← r.1, q2, h1] at this
        cases this
    | some g =>
      obtain ⟨q1, q2⟩ := gaugeOf_some h1
      obtain ⟨g', hg, r⟩ := pt_get hn.gauges q1
      have := gaugeOf_mem hx.ids hg
      rw [r.1, q2] at this
      rw [this]
      exact r.2.2.2.2.2.1
theorem nar_says (hn : Nar b x) (hb : Good b) (hx : Good x) {c c' : Cmp} (hc : c ∈ b.2.2.2.2.1) (hc' : c' ∈ x.2.2.2.2.1) (r : NarC c c') : (saysP b c).1 ≤ (saysP x c').1 ∧ (saysP x c').2 ≤ (saysP b c).2 := by
  obtain ⟨e1, e2, e3, e4, e5, e6, e7⟩ := r
  have n1 := (numsP_iff c).1 (hb.nums hc)
  have n2 := (numsP_iff c').1 (hx.nums hc')
  have s1 := n1.2.2.2.2.1
  have s2 := n2.2.2.2.2.1
  simp only [spanP, Bool.and_eq_true, decide_eq_true_eq] at s1 s2
  have hk : 0 < (rateK (shelf b) c).2 := (sub_rat (hb.rates hc).1 (hb.rates hc).2).pos
  have ek : rateK (shelf x) c' = rateK (shelf b) c := by unfold rateK; rw [nar_rate hn hb hx, nar_rate hn hb hx, e2, e3]
  obtain ⟨g1, g2⟩ := over_narrow hk s1.2.1 s2.2.1 e6 e7
  rw [← ek] at g2
  have g2' : (growthP x c').2.1 / (growthP x c').2.2 ≤ (growthP b c).2.1 / (growthP b c).2.2 := by unfold growthP; rw [← ek]; exact g2
  have g1' : ceilP (growthP b c).1 ≤ ceilP (growthP x c').1 := by unfold growthP; rw [ek]; exact g1
  have f1 : (filmsP b c).1 ≤ (filmsP x c').1 ∧ (filmsP x c').2 ≤ (filmsP b c).2 := by
    unfold filmsP
    rw [e2, e3]
    have p : ∀ (n : Nat) {y z : Int}, y ≤ z → (n : Int) * y ≤ (n : Int) * z := fun n y z h => Int.mul_le_mul_of_nonneg_left h (by omega)
    have q1 := p (c.2.2.1.length - 1) hn.film.1
    have q2 := p (c.2.2.1.length - 1) hn.film.2
    have q3 := p (c.2.2.2.1.length - 1) hn.film.1
    have q4 := p (c.2.2.2.1.length - 1) hn.film.2
    simp only
    omega
  unfold saysP
  rw [e4]
  simp only
  omega
theorem nar_fits (hn : Nar b x) (hb : Good b) (hx : Good x) {p : Int → Int} (hp : Pot (linksP x) p) : Pot (linksP b) p := by
  refine nar_pot hb hx (nar_nodes hn) (fun g hg => ?_) (fun c hc => ?_) hp
  · obtain ⟨g', hg', r⟩ := pt_get hn.gauges hg
    exact ⟨g', hg', r.1, r.2.1, by have := r.2.2.1; have := r.2.2.2.2.1; omega, by have := r.2.2.1; have := r.2.2.2.1; omega, fun d e _ _ => nar_loss hn r d e⟩
  · obtain ⟨c', hc', r⟩ := pt_get hn.compares hc
    have := nar_says hn hb hx hc hc' r
    exact ⟨c', hc', by rw [r.2.1, r.2.2.1], by rw [r.2.1, r.2.2.1], r.1, this.1, this.2⟩
end
end Go.Proofs.ZzM
end

noncomputable section
namespace Go.Proofs.ZzM
open Go Go.Am
theorem RIn_ok (n lo hi : Int) : f_r5_In n lo hi = some (inP n lo hi) := by
  unfold f_r5_In m_r5_In inP ige ile
  cases h : decide (lo ≤ n) <;> simp_all
theorem RDay_ok (n : Int) : f_r5_Day n = some (dayP n) := by
  unfold f_r5_Day m_r5_Day
  rw [RIn_ok]; rfl
theorem Rspanned_ok (s : Int × Int) (lo hi : Int) : f_r5_spanned s lo hi = some (spanP s lo hi) := by
  unfold f_r5_spanned m_r5_spanned spanP ile
  cases decide (lo ≤ s.1) <;> cases decide (s.1 ≤ s.2) <;> rfl
theorem RHas_ok {l : List Int} (hn : l.length ≤ 1000000) (x : Int) : f_r5_Has l x = some (l.contains x) := by
  unfold f_r5_Has m_r5_Has
  refine Eq.trans (loop_any l (fun a => a == x) (fun _ => some true) (some true) (some false) (fun _ => rfl) (fun i a hi ha kn => ?_) (fun kn => ?_)) ?_
  · try dsimp only
    unfold m_r5_Has_L0
    rw [ifb_lt' hi, iget_nat ha, ck_succ hi (by omega), ifb_eq]
  · try dsimp only
    unfold m_r5_Has_L0
    rw [ifb_ge]
  · have : l.any (fun a => a == x) = l.contains x := by
      rw [Bool.eq_iff_iff, List.any_eq_true, List.contains_iff_mem]
      constructor
      · rintro ⟨a, ha, e⟩; rw [← eq_of_beq e]; exact ha
      · intro h; exact ⟨x, h, by simp⟩
    rw [this]
    cases l.contains x <;> rfl
theorem leftP_take {a b : List Int} {i : Nat} {x : Int} (h : a[i]? = some x) : leftP (a.take (i + 1)) b = leftP (a.take i) b ++ if b.contains x then [] else [x] := by
  rw [take_succ h, leftP, leftP, List.filter_append]
  congr 1
  cases hx : b.contains x <;> simp only [List.filter_cons, hx, Bool.not_true, Bool.not_false, Bool.false_eq_true, if_false, if_true, List.filter_nil]
theorem RLeft_ok {a b : List Int} (ha : a.length ≤ 1000000) (hb : b.length ≤ 1000000) : f_r5_Left a b = some (leftP a b) := by
  unfold f_r5_Left m_r5_Left
  refine loop_acc a (fun i => leftP (a.take i) b) _ rfl (fun i x hi hx kn => ?_) (fun kn => ?_)
  · try dsimp only
    unfold m_r5_Left_L0
    have hl : (leftP (a.take i) b).length ≤ 1000000 := by
      have := leftP_len (a.take i) b
      rw [List.length_take] at this
      omega
    rw [ifb_lt' hi, iget_nat hx, RHas_ok hb, bindF_some, leftP_take hx]
    cases b.contains x with
    | true => rw [ifb_f (by rfl), ck_succ hi (by omega)]; simp
    | false => rw [ifb_t (by rfl), iget_nat hx, okLen_of (by simp only [List.length_singleton]; omega), Am.iff_true, ck_succ hi (by omega)]; simp
  · try dsimp only
    unfold m_r5_Left_L0
    rw [ifb_ge, List.take_length]
def oneP (a b : List Int) : Int := (leftP a b).head?.getD 0
theorem Rone_ok {a b : List Int} (ha : a.length ≤ 1000000) (hb : b.length ≤ 1000000) : f_r5_one a b = some (oneP a b) := by
  unfold f_r5_one m_r5_one oneP
  rw [RLeft_ok ha hb, bindF_some, ilen_eq]
  cases h : leftP a b with
  | nil => rfl
  | cons x t =>
    rw [ifb_f (by simp [ieq]; omega)]
    exact iget_nat (i := 0) rfl _
theorem RFind_ok {b : Book} (hn : b.2.1.length ≤ 1000000) (id : Int) : f_r5_Find b id = some (match b.2.1.findIdx? (fun g => g.1 == id) with | some j => (j : Int) | none => -1) := by
  unfold f_r5_Find m_r5_Find
  refine Eq.trans (loop_find b.2.1 (fun g => g.1 == id) (fun z => some z) (some (-1)) (fun i a hi ha kn => ?_) (fun kn => ?_)) ?_
  · try dsimp only
    unfold m_r5_Find_L0
    rw [ifb_lt' hi, iget_nat ha, ck_succ hi (by omega), ifb_eq]
  · try dsimp only
    unfold m_r5_Find_L0
    rw [ifb_ge]
  · cases List.findIdx? (fun g : Gauge => g.1 == id) b.2.1 <;> rfl
theorem find_gauge {b : Book} {id : Int} : (∃ j g, b.2.1.findIdx? (fun g => g.1 == id) = some j ∧ b.2.1[j]? = some g ∧ gaugeOf b id = some g) ∨ (b.2.1.findIdx? (fun g => g.1 == id) = none ∧ gaugeOf b id = none) := by
  unfold gaugeOf
  rw [find_idx]
  cases h : b.2.1.findIdx? (fun g => g.1 == id) with
  | none => exact .inr ⟨rfl, rfl⟩
  | some j =>
    obtain ⟨hj, _, _⟩ := List.findIdx?_eq_some_iff_getElem.1 h
    exact .inl ⟨j, _, rfl, List.getElem?_eq_getElem hj, List.getElem?_eq_getElem hj⟩
def sinceP (b : Book) (id day : Int) : Int := match gaugeOf b id with | some g => if day < g.2.1 then 4 else 0 | none => 5
theorem RSince_ok {b : Book} (hn : b.2.1.length ≤ 1000000) (id day : Int) : f_r5_Since b id day = some (sinceP b id day) := by
  unfold f_r5_Since m_r5_Since sinceP
  rw [RFind_ok hn, bindF_some]
  rcases find_gauge (b := b) (id := id) with ⟨j, g, h1, h2, h3⟩ | ⟨h1, h2⟩
  · rw [h1, h3]
    try dsimp only
    rw [ifb_f (by simp [ilt]), iget_nat h2, ifb_eq]
    by_cases hd : day < g.2.1
    · rw [if_pos (by simpa [ilt] using hd), if_pos hd]
    · rw [if_neg (by simpa [ilt] using hd), if_neg hd]
  · rw [h1, h2]
    rfl
theorem sinceP_made {b : Book} (hi : b.2.1.Pairwise fun a b => a.1 < b.1) (id day : Int) : sinceP b id day = madeE (shelf b) id day := by
  unfold sinceP madeE
  rw [mget_shelf hi]
  cases gaugeOf b id <;> rfl
theorem RLent_ok {b : Book} (hn : b.2.2.2.1.length ≤ 1000000) (id day : Int) : f_r5_Lent b id day = some (match awayP b id day with | some l => (l, true) | none => ((0, (0, 0), 0), false)) := by
  unfold f_r5_Lent m_r5_Lent
  refine loop_accE b.2.2.2.1 (fun _ => ((0 : Int), (0 : Int), (0 : Int), (0 : Int))) _ (fun i => ∀ l ∈ b.2.2.2.1.take i, (l.1 == id && inP day l.2.1.1 l.2.1.2) = false) rfl (by simp) (fun i a hi ha hP kn => ?_) (fun hP kn => ?_)
  · try dsimp only
    unfold m_r5_Lent_L0
    rw [ifb_lt' hi, iget_nat ha]
    by_cases hm : (a.1 == id && inP day a.2.1.1 a.2.1.2) = true
    · refine .inl ?_
      have hm2 := hm
      simp only [inP, Bool.and_eq_true, beq_iff_eq, decide_eq_true_eq] at hm2
      rw [ifb_t (by simp [ieq, hm2.1]), ifb_t (by simp [ile, hm2.2.1]), ifb_t (by simp [ile, hm2.2.2])]
      have hf : awayP b id day = some a := by
        unfold awayP
        obtain ⟨hi', rfl⟩ := List.getElem?_eq_some_iff.1 ha
        rw [List.find?_eq_some_iff_getElem]
        refine ⟨hm, i, hi', rfl, fun j hj => ?_⟩
        have := hP b.2.2.2.1[j] (List.mem_iff_getElem.2 ⟨j, by rw [List.length_take]; omega, by rw [List.getElem_take]⟩)
        simp [this]
      rw [hf]
    · refine .inr ⟨fun l hl => ?_, ?_⟩
      · rw [take_succ ha, List.mem_append, List.mem_singleton] at hl
        rcases hl with hl | rfl
        · exact hP l hl
        · simpa using hm
      · have hm2 := hm
        simp only [inP, Bool.and_eq_true, beq_iff_eq, decide_eq_true_eq] at hm2
        by_cases h1 : a.1 = id
        · by_cases h2 : a.2.1.1 ≤ day
          · rw [ifb_t (by simp [ieq, h1]), ifb_t (by simp [ile, h2]), ifb_f (by simp [ile]; exact Int.lt_of_not_ge fun h3 => hm2 ⟨h1, h2, h3⟩), ck_succ hi (by omega)]
          · rw [ifb_t (by simp [ieq, h1]), ifb_f (by simp [ile]; omega), ck_succ hi (by omega)]
        · rw [ifb_f (by simp [ieq, h1]), ck_succ hi (by omega)]
  · try dsimp only
    unfold m_r5_Lent_L0
    rw [ifb_ge]
    have : awayP b id day = none := by
      unfold awayP
      rw [List.find?_eq_none]
      intro l hl
      have := hP l (by rw [List.take_length]; exact hl)
      simp [this]
    rw [this]
theorem RUsed_ok {b : Book} (hn : b.2.2.1.length ≤ 1000000) (id day : Int) : f_r5_Used b id day = some (usedP b id day) := by
  unfold f_r5_Used m_r5_Used
  refine Eq.trans (loop_any b.2.2.1 (fun u => u.1 == id && u.2 == day) (fun _ => some true) (some true) (some false) (fun _ => rfl) (fun i a hi ha kn => ?_) (fun kn => ?_)) ?_
  · try dsimp only
    unfold m_r5_Used_L0
    rw [ifb_lt' hi, iget_nat ha, iget_nat ha, ck_succ hi (by omega)]
    cases h1 : (a.1 == id) with
    | false => have : ieq a.1 id = false := h1; simp [this]
    | true =>
      have : ieq a.1 id = true := h1
      rw [this]
      cases h2 : (a.2 == day) with
      | false => have : ieq a.2 day = false := h2; simp [this]
      | true => have : ieq a.2 day = true := h2; simp [this]
  · try dsimp only
    unfold m_r5_Used_L0
    rw [ifb_ge]
  · unfold usedP
    cases b.2.2.1.any _ <;> rfl
theorem RGcd_ok (a b : Nat) : f_r1_Gcd a b = some ((Nat.gcd a b : Nat) : Int) := by
  unfold f_r1_Gcd m_r1_Gcd
  refine loop_inv (fun x : Int × Int => ∃ c d : Nat, x = ((c : Int), (d : Int)) ∧ Nat.gcd c d = Nat.gcd a b) (fun x => x.2.toNat) ?_ ⟨a, b, rfl, rfl⟩
  rintro x ⟨c, d, rfl, hg⟩
  cases d with
  | zero =>
    refine .inl fun kn => ?_
    rw [Nat.gcd_zero_right] at hg
    unfold m_r1_Gcd_L0
    simp [hg, ine]
  | succ d =>
    refine .inr ⟨(((d + 1 : Nat) : Int), ((c % (d + 1) : Nat) : Int)), ⟨d + 1, c % (d + 1), rfl, ?_⟩, ?_, fun kn => ?_⟩
    · rw [← hg, Nat.gcd_comm c (d + 1), Nat.gcd_rec (d + 1) c, Nat.gcd_comm]
    · have := Nat.mod_lt c (Nat.succ_pos d)
      simp only [Int.toNat_natCast]
      omega
    · unfold m_r1_Gcd_L0
      have h1 : ine ((d + 1 : Nat) : Int) 0 = true := by simp [ine]; omega
      have h2 : dieq ((d + 1 : Nat) : Int) 0 = false := by simp [dieq]; omega
      simp only [h1, ifb_t ifb_f h2]
      congr 1
theorem RAbs_ok {n : Int} (h : -9223372036854775807 ≤ n ∧ n ≤ 9223372036854775807) : f_r1_Abs n = some (n.natAbs : Int) := by
  unfold f_r1_Abs m_r1_Abs
  by_cases hn : n < 0
  · rw [ifb_t (by simpa [ilt] using hn), ck_ok (by omega) (by omega)]
    congr 1
    omega
  · rw [ifb_f (by simpa [ilt] using hn)]
    congr 1
    omega
theorem RValid_ok (r : Int × Int) : f_r1_Valid r = some (ratP r) := by
  unfold f_r1_Valid m_r1_Valid ratP
  by_cases h1 : 1 ≤ r.2
  · rw [ifb_f (by simp [ilt]; omega)]
    by_cases h2 : r.2 ≤ 2147483647
    · rw [ifb_f (by simp [igt]; omega)]
      by_cases h3 : r.1 < -2147483647
      · rw [ifb_t (by simp [ilt]; omega)]
        have : ¬ ((r.1.natAbs : Int) ≤ 2147483647) := by omega
        simp [this]
      · rw [ifb_f (by simp [ilt]; omega)]
        by_cases h4 : 2147483647 < r.1
        · rw [ifb_t (by simp [igt]; omega)]
          have : ¬ ((r.1.natAbs : Int) ≤ 2147483647) := by omega
          simp [this]
        · rw [ifb_f (by simp [igt]; omega), RAbs_ok ⟨by omega, by omega⟩, bindF_some]
          have h5 : r.2 = ((r.2.natAbs : Nat) : Int) := by omega
          have h6 : ((r.1.natAbs : Int) ≤ 2147483647) := by omega
          rw [h5, RGcd_ok, bindF_some, ← h5]
          congr 1
          rw [Bool.eq_iff_iff]
          simp only [ieq, beq_iff_eq, h1, h2, h6, decide_true, Bool.true_and, decide_eq_true_eq]
          omega
    · rw [ifb_t (by simp [igt]; omega)]
      simp [h2]
  · rw [ifb_t (by simp [ilt]; omega)]
    simp [h1]
theorem Rgauge_ok (g : Gauge) : f_r5_gauge g = some (gaugeP g) := by
  unfold f_r5_gauge m_r5_gauge gaugeP
  rw [RValid_ok, RIn_ok, RIn_ok, RDay_ok, RIn_ok, Rspanned_ok, RIn_ok]
  simp only [bindF_some]
  have e : igt g.2.2.2.2.1.2 100 = !decide (g.2.2.2.2.1.2 ≤ 100) := by
    rw [Bool.eq_iff_iff]; simp [igt]
  rw [e]
  cases ratP g.2.2.2.2.1 <;> cases inP g.2.2.2.2.1.1 (-1000) 1000 <;> cases decide (g.2.2.2.2.1.2 ≤ 100) <;> cases inP g.1 1 1099511627776 <;> cases dayP g.2.1 <;> cases inP g.2.2.1 1 1125899906842624 <;> cases spanP g.2.2.2.1 (-1073741824) 1073741824 <;> rfl
end Go.Proofs.ZzM
end

noncomputable section
namespace Go.Proofs.ZzM
open Go Go.Am
theorem pileE_false {l : List Int} : ∀ (m : List Int) (j : Nat) (x : Bool), firstO (pileE l) j m = some x → x = false := by
  intro m
  induction m with
  | nil => intro j x h; cases h
  | cons a m ih =>
    intro j x h
    unfold firstO at h
    cases hp : pileE l j a with
    | none => rw [hp] at h; exact ih _ _ h
    | some y =>
      rw [hp] at h
      cases h
      unfold pileE at hp
      split at hp
      · cases hp; rfl
      · split at hp
        · cases hp; rfl
        · cases hp
theorem RPile_ok {l : List Int} (hn : l.length ≤ 1000000) : f_r5_Pile l = some (pileP l) := by
  unfold f_r5_Pile m_r5_Pile
  refine Eq.trans (loop_first l (pileE l) some (some (decide (l.length ≤ 6))) (fun i a hi ha kn => ?_) (fun kn => ?_)) ?_
  · try dsimp only
    unfold m_r5_Pile_L0
    rw [ifb_lt' hi, iget_nat ha, RIn_ok, bindF_some]
    unfold pileE
    cases inP a 1 1099511627776 with
    | false => rfl
    | true =>
      simp only [Bool.not_true, ifb_false, Bool.false_eq_true, if_false]
      rcases Nat.eq_zero_or_pos i with h0 | h0
      · subst h0
        have : igt ((0 : Nat) : Int) 0 = false := by simp [igt]
        rw [ifb_f this, ck_succ hi (by omega)]
        simp [backE]
      · obtain ⟨q, hq⟩ := prev_some hi h0
        have h1 : igt (i : Int) 0 = true := by simp [igt]; omega
        rw [ifb_t h1, iget_nat ha, ck_pred h0 (by omega), iget_pred h0 hq]
        simp only [backE, h0, decide_true, Bool.true_and, hq, Option.any_some]
        unfold ile
        cases h2 : decide (a ≤ q) with
        | true => rfl
        | false =>
          rw [ifb_false, ck_succ hi (by omega)]
          rfl
  · try dsimp only
    unfold m_r5_Pile_L0
    rw [ifb_ge, ilen_eq]
    simp [ile]
    omega
  · unfold pileP
    cases h : firstO (pileE l) 0 l with
    | none => rfl
    | some x => rw [pileE_false _ _ _ h]
theorem Rplain_ok {c : Cmp} (hA : c.2.2.1.length ≤ 1000000) (hB : c.2.2.2.1.length ≤ 1000000) : f_r5_plain c = some (numsP c) := by
  unfold f_r5_plain m_r5_plain numsP
  rw [RPile_ok hA, RPile_ok hB, RIn_ok, RDay_ok, RIn_ok, RIn_ok, Rspanned_ok]
  simp only [bindF_some]
  cases pileP c.2.2.1 <;> cases pileP c.2.2.2.1 <;> cases inP c.1 1 1099511627776 <;> cases dayP c.2.1 <;> cases inP c.2.2.2.2.1 (-1125899906842624) 1125899906842624 <;> cases inP c.2.2.2.2.2.1 0 1073741824 <;> cases spanP c.2.2.2.2.2.2 (-10000) 10000 <;> rfl
def useP (b : Book) (u : Int × Int) : Int := if !dayP u.2 then 1 else sinceP b u.1 u.2
theorem useP_E {b : Book} (hi : b.2.1.Pairwise fun a b => a.1 < b.1) (u : Int × Int) : useP b u = useE (shelf b) u.1 u.2 := by
  unfold useP useE
  rw [sinceP_made hi]
def errO (e : Int) : Option Int := if e = 0 then none else some e
theorem first_errs {α : Type} (E : Nat → α → Int) : ∀ (k : Nat) (l : List α), firstO (fun i a => errO (E i a)) k l = (l.mapIdx fun i a => E (i + k) a).find? (fun e => e != 0)
  | _, [] => rfl
  | k, a :: t => by
    unfold firstO
    rw [first_errs E (k + 1) t, List.mapIdx_cons, List.find?_cons]
    unfold errO
    by_cases h : E k a = 0
    · simp only [h, if_true, Nat.zero_add]
      have : ((0 : Int) != 0) = false := rfl
      rw [this]
      have e : (fun (i : Nat) (a : α) => E (i + (k + 1)) a) = fun i a => E (i + 1 + k) a := by
        funext i a
        congr 1
        omega
      rw [e]
    · simp only [h, if_false, Nat.zero_add]
      have : (E k a != 0) = true := by simpa using h
      rw [this]
theorem first_errs0 {α : Type} (E : Nat → α → Int) (l : List α) : firstO (fun i a => errO (E i a)) 0 l = (l.mapIdx E).find? (fun e => e != 0) := first_errs E 0 l
theorem first_errs' {α : Type} (E : α → Int) (l : List α) : firstO (fun _ a => errO (E a)) 0 l = (l.map E).find? (fun e => e != 0) := by
  rw [first_errs (fun _ a => E a) 0 l]
  congr 1
  exact List.ext_getElem (by simp) fun i h1 h2 => by simp
theorem Ruses_ok {b : Book} (hs : SizeOk b) : f_r5_uses b = some (((b.2.2.1.map (useP b)).find? (fun e => e != 0)).getD 0) := by
  have h1 := hs.gauges
  have h2 := hs.uses
  unfold f_r5_uses m_r5_uses
  refine Eq.trans (loop_first b.2.2.1 (fun _ u => errO (useP b u)) some (some 0) (fun i a hi ha kn => ?_) (fun kn => ?_)) ?_
  · try dsimp only
    unfold m_r5_uses_L0
    rw [ifb_lt' hi, iget_nat ha, RDay_ok, bindF_some]
    unfold useP errO
    cases dayP a.2 with
    | false => rfl
    | true =>
      rw [ifb_f (by rfl), iget_nat ha, iget_nat ha, RSince_ok (b := ((b.1.1, b.1.2), b.2.1, b.2.2.1, b.2.2.2.1, b.2.2.2.2.1, b.2.2.2.2.2)) (by simp only; omega), bindF_some, ck_succ hi (by omega)]
      have e : sinceP ((b.1.1, b.1.2), b.2.1, b.2.2.1, b.2.2.2.1, b.2.2.2.2.1, b.2.2.2.2.2) a.1 a.2 = sinceP b a.1 a.2 := rfl
      rw [e]
      by_cases hz : sinceP b a.1 a.2 = 0
      · rw [ifb_f (by simp [ine, hz])]; simp [hz]
      · rw [ifb_t (by simp [ine, hz])]; simp [hz]
  · try dsimp only
    unfold m_r5_uses_L0
    rw [ifb_ge]
  · rw [first_errs']
    cases List.find? (fun e => e != 0) (b.2.2.1.map (useP b)) <;> rfl
def loanQ (b : Book) (i : Nat) (l : Loan) : Int :=
  if !spanP l.2.1 0 20000 then 1 else if !inP l.2.2 0 1048576 then 1 else if sinceP b l.1 l.2.1.1 != 0 then sinceP b l.1 l.2.1.1 else
  if (b.2.2.2.1.take i).any (fun x => x.1 == l.1 && (decide (x.2.1.1 ≤ l.2.1.2) && decide (l.2.1.1 ≤ x.2.1.2))) then 9 else
  if b.2.2.1.any (fun u => u.1 == l.1 && inP u.2 l.2.1.1 l.2.1.2) then 9 else 0
theorem loanQ_E {b : Book} (hi : b.2.1.Pairwise fun a b => a.1 < b.1) (i : Nat) (l : Loan) : loanQ b i l = loanE b (shelf b) i l := by
  unfold loanQ loanE
  rw [sinceP_made hi]
theorem Rloans_ok {b : Book} (hs : SizeOk b) : f_r5_loans b = some (((b.2.2.2.1.mapIdx (loanQ b)).find? (fun e => e != 0)).getD 0) := by
  have h1 := hs.gauges
  have h2 := hs.uses
  have h3 := hs.loans
  unfold f_r5_loans m_r5_loans
  refine Eq.trans (loop_first b.2.2.2.1 (fun i l => errO (loanQ b i l)) some (some 0) (fun i l hi hl kn => ?_) (fun kn => ?_)) ?_
  · try dsimp only
    unfold m_r5_loans_L0
    rw [ifb_lt' hi, iget_nat hl, Rspanned_ok, bindF_some]
    unfold loanQ errO
    cases spanP l.2.1 0 20000 with
    | false => rfl
    | true =>
    rw [ifb_f (by rfl), RIn_ok, bindF_some]
    cases inP l.2.2 0 1048576 with
    | false => rfl
    | true =>
    rw [ifb_f (by rfl), RSince_ok (b := ((b.1.1, b.1.2), b.2.1, b.2.2.1, b.2.2.2.1, b.2.2.2.2.1, b.2.2.2.2.2)) (by simp only; omega), bindF_some]
    have e : sinceP ((b.1.1, b.1.2), b.2.1, b.2.2.1, b.2.2.2.1, b.2.2.2.2.1, b.2.2.2.2.2) l.1 l.2.1.1 = sinceP b l.1 l.2.1.1 := rfl
    rw [e]
    by_cases hz : sinceP b l.1 l.2.1.1 = 0
    · rw [ifb_f (by simp [ine, hz])]
      have hl9 : (b.2.2.2.1.take i).length = i := by rw [List.length_take]; omega
      have inner : loopT (fun (v21 : Int) kk23 => m_r5_loans_L2 b.2.2.1 l.1 l.2.1.1 l.2.1.2 v21 (fun u22 => kk23 u22) (fun z18 => (some z18 : Option Int)) (fun _ => ck ((i : Int) + (1 : Int)) fun n20 => kn n20)) (0 : Int) = if b.2.2.1.any (fun u => u.1 == l.1 && inP u.2 l.2.1.1 l.2.1.2) then some 9 else kn ((i : Int) + 1) := by
        refine loop_any b.2.2.1 _ (fun _ => some 9) (some 9) (kn ((i : Int) + 1)) (fun _ => rfl) (fun j a hj ha kn' => ?_) (fun kn' => ?_)
        · try dsimp only
          unfold m_r5_loans_L2
          rw [ifb_lt' hj, iget_nat ha, iget_nat ha, RIn_ok, bindF_some, ck_succ hj (by omega)]
          cases hq : (a.1 == l.1) with
          | false => have : ieq a.1 l.1 = false := hq; simp [this]
          | true =>
            have : ieq a.1 l.1 = true := hq
            rw [this]
            cases inP a.2 l.2.1.1 l.2.1.2 <;> simp
        · try dsimp only
          unfold m_r5_loans_L2
          rw [ifb_ge]
          dsimp only
          rw [ck_succ hi (by omega)]
      try dsimp only
      rw [inner]
      refine Eq.trans (loop_any (b.2.2.2.1.take i) (fun x => x.1 == l.1 && (decide (x.2.1.1 ≤ l.2.1.2) && decide (l.2.1.1 ≤ x.2.1.2))) (fun _ => some 9) (some 9) (if b.2.2.1.any (fun u => u.1 == l.1 && inP u.2 l.2.1.1 l.2.1.2) then some 9 else kn ((i : Int) + 1)) (fun _ => rfl) (fun j a hj ha kn' => ?_) (fun kn' => ?_)) ?_
      · try dsimp only
        unfold m_r5_loans_L1
        rw [hl9] at hj
        have ha' : b.2.2.2.1[j]? = some a := by rwa [List.getElem?_take_of_lt hj] at ha
        rw [ifb_t (show ilt (j : Int) (i : Int) = true by simp [ilt]; omega), iget_nat ha', iget_nat ha', iget_nat ha', ck_succ hj (by omega)]
        cases hq : (a.1 == l.1) with
        | false => have : ieq a.1 l.1 = false := hq; simp [this]
        | true =>
          have : ieq a.1 l.1 = true := hq
          rw [this]
          cases h5 : decide (a.2.1.1 ≤ l.2.1.2) <;> cases h6 : decide (l.2.1.1 ≤ a.2.1.2) <;> simp [ile, h5, h6, ifb_eq] <;> simp_all
      · try dsimp only
        unfold m_r5_loans_L1
        rw [hl9, ifb_f (show ilt (i : Int) (i : Int) = false by simp [ilt])]
      · simp only [hz]
        cases List.any (b.2.2.2.1.take i) _ <;> cases b.2.2.1.any _ <;> rfl
    · rw [ifb_t (by simp [ine, hz])]; simp [hz]
  · try dsimp only
    unfold m_r5_loans_L0
    rw [ifb_ge]
  · rw [first_errs0 (loanQ b)]
    cases (b.2.2.2.1.mapIdx (loanQ b)).find? (fun e => e != 0) <;> rfl
def pilesQ (b : Book) (c : Cmp) : Int :=
  if (c.2.2.1 ++ c.2.2.2.1).any (fun id => sinceP b id c.2.1 == 5) then 5 else
  if (c.2.2.1 ++ c.2.2.2.1).any (fun id => sinceP b id c.2.1 != 0) then 4 else
  if (c.2.2.1 ++ c.2.2.2.1).any (fun id => (awayP b id c.2.1).isSome) then 9 else
  if 1 < (leftP c.2.2.1 c.2.2.2.1).length then 1 else if 1 < (leftP c.2.2.2.1 c.2.2.1).length then 1 else
  if (leftP c.2.2.1 c.2.2.2.1).length + (leftP c.2.2.2.1 c.2.2.1).length = 0 then 1 else 0
theorem pilesQ_E {b : Book} (hi : b.2.1.Pairwise fun a b => a.1 < b.1) (c : Cmp) : pilesQ b c = pilesE b (shelf b) c := by
  unfold pilesQ pilesE
  simp only [sinceP_made hi]
  by_cases h5 : (c.2.2.1 ++ c.2.2.2.1).any (fun id => madeE (shelf b) id c.2.1 == 5) = true
  · rw [if_pos h5, if_pos h5]
  · rw [if_neg h5, if_neg h5]
    have e : (c.2.2.1 ++ c.2.2.2.1).any (fun id => madeE (shelf b) id c.2.1 != 0) = (c.2.2.1 ++ c.2.2.2.1).any (fun id => madeE (shelf b) id c.2.1 == 4) := by
      rw [Bool.eq_iff_iff, List.any_eq_true, List.any_eq_true]
      constructor
      · rintro ⟨x, hx, h⟩
        refine ⟨x, hx, ?_⟩
        rcases madeE_cases (shelf b) x c.2.1 with h1 | h1 | h1
        · rw [h1] at h; cases h
        · rw [h1]; rfl
        · exact absurd (List.any_eq_true.2 ⟨x, hx, by rw [h1]; rfl⟩) h5
      · rintro ⟨x, hx, h⟩
        refine ⟨x, hx, ?_⟩
        rw [eq_of_beq h]; rfl
    rw [e]
theorem sinceP_five {b : Book} {id d : Int} : (sinceP b id d == 5) = (b.2.1.findIdx? (fun g => g.1 == id)).isNone := by
  unfold sinceP
  rcases find_gauge (b := b) (id := id) with ⟨j, g, h1, h2, h3⟩ | ⟨h1, h2⟩
  · rw [h1, h3]
    try dsimp only
    split <;> rfl
  · rw [h1, h2]; rfl
set_option maxHeartbeats 1000000 in
theorem Rcompared_ok {b : Book} (hs : SizeOk b) {c : Cmp} (hA : c.2.2.1.length ≤ 1000) (hB : c.2.2.2.1.length ≤ 1000) : f_r5_compared b c = some (pilesQ b c) := by
  have h1 := hs.gauges
  have h3 := hs.loans
  unfold f_r5_compared m_r5_compared pilesQ
  rw [okLen_of (by omega), Am.iff_true, List.nil_append, okLen_of (by omega), Am.iff_true]
  have hl : (c.2.2.1 ++ c.2.2.2.1).length ≤ 2000 := by rw [List.length_append]; omega
  generalize hP : c.2.2.1 ++ c.2.2.2.1 = P at hl
  have hol : ∀ {i : Nat}, i < P.length → ((ile (0 : Int) (i : Int)) && (ilt (i : Int) (olen P))) = true := fun {i} hi => by simp [ile, ilt, olen]; omega
  have third : loopT (fun (v19 : Int) kk21 => m_r5_compared_L2 b.1.1 b.1.2 b.2.1 b.2.2.1 b.2.2.2.1 b.2.2.2.2.1 b.2.2.2.2.2 c.2.1 P v19 (fun u20 => kk21 u20) (fun z14 => some z14) (fun _ => bindF (f_r5_Left c.2.2.1 c.2.2.2.1) fun r16 => bindF (f_r5_Left c.2.2.2.1 c.2.2.1) fun r17 => ifb (igt (ilen r16) (1 : Int)) (some (1 : Int)) (ifb (igt (ilen r17) (1 : Int)) (some (1 : Int)) (ck ((ilen r16) + (ilen r17)) fun n18 => ifb (ieq n18 (0 : Int)) (some (1 : Int)) (some (0 : Int)))))) (0 : Int) =
      some (if P.any (fun id => (awayP b id c.2.1).isSome) then 9 else if 1 < (leftP c.2.2.1 c.2.2.2.1).length then 1 else if 1 < (leftP c.2.2.2.1 c.2.2.1).length then 1 else if (leftP c.2.2.1 c.2.2.2.1).length + (leftP c.2.2.2.1 c.2.2.1).length = 0 then 1 else 0) := by
    refine Eq.trans (loop_any P (fun id => (awayP b id c.2.1).isSome) (fun _ => some 9) (some 9) (some (if 1 < (leftP c.2.2.1 c.2.2.2.1).length then 1 else if 1 < (leftP c.2.2.2.1 c.2.2.1).length then 1 else if (leftP c.2.2.1 c.2.2.2.1).length + (leftP c.2.2.2.1 c.2.2.1).length = 0 then 1 else 0)) (fun _ => rfl) (fun i a hi ha kn => ?_) (fun kn => ?_)) ?_
    · try dsimp only
      unfold m_r5_compared_L2
      rw [ifb_lt' hi, iff_of (hol hi), nget_toNat ha, RLent_ok (b := ((b.1.1, b.1.2), b.2.1, b.2.2.1, b.2.2.2.1, b.2.2.2.2.1, b.2.2.2.2.2)) (by simp only; omega), bindF_some, ck_succ hi (by omega)]
      have e : awayP ((b.1.1, b.1.2), b.2.1, b.2.2.1, b.2.2.2.1, b.2.2.2.2.1, b.2.2.2.2.2) a c.2.1 = awayP b a c.2.1 := rfl
      rw [e]
      cases awayP b a c.2.1 <;> rfl
    · try dsimp only
      unfold m_r5_compared_L2
      rw [ifb_ge]
      dsimp only
      have l1 := leftP_len c.2.2.1 c.2.2.2.1
      have l2 := leftP_len c.2.2.2.1 c.2.2.1
      rw [RLeft_ok (by omega) (by omega), bindF_some, RLeft_ok (by omega) (by omega), bindF_some]
      simp only [ilen_eq]
      by_cases q1 : 1 < (leftP c.2.2.1 c.2.2.2.1).length
      · rw [ifb_t (by simp [igt]; omega), if_pos q1]
      · rw [ifb_f (by simp [igt]; omega), if_neg q1]
        by_cases q2 : 1 < (leftP c.2.2.2.1 c.2.2.1).length
        · rw [ifb_t (by simp [igt]; omega), if_pos q2]
        · rw [ifb_f (by simp [igt]; omega), if_neg q2, ck_ok (by omega) (by omega)]
          by_cases q3 : (leftP c.2.2.1 c.2.2.2.1).length + (leftP c.2.2.2.1 c.2.2.1).length = 0
          · rw [ifb_t (by simp [ieq]; omega), if_pos q3]
          · rw [ifb_f (by simp [ieq]; omega), if_neg q3]
    · cases P.any _ <;> rfl
  have second : loopT (fun (v22 : Int) kk24 => m_r5_compared_L1 b.1.1 b.1.2 b.2.1 b.2.2.1 b.2.2.2.1 b.2.2.2.2.1 b.2.2.2.2.2 c.2.1 P v22 (fun u23 => kk24 u23) (fun z9 => some z9) (fun _ => loopT (fun (v19 : Int) kk21 => m_r5_compared_L2 b.1.1 b.1.2 b.2.1 b.2.2.1 b.2.2.2.1 b.2.2.2.2.1 b.2.2.2.2.2 c.2.1 P v19 (fun u20 => kk21 u20) (fun z14 => some z14) (fun _ => bindF (f_r5_Left c.2.2.1 c.2.2.2.1) fun r16 => bindF (f_r5_Left c.2.2.2.1 c.2.2.1) fun r17 => ifb (igt (ilen r16) (1 : Int)) (some (1 : Int)) (ifb (igt (ilen r17) (1 : Int)) (some (1 : Int)) (ck ((ilen r16) + (ilen r17)) fun n18 => ifb (ieq n18 (0 : Int)) (some (1 : Int)) (some (0 : Int)))))) (0 : Int))) (0 : Int) =
      some (if P.any (fun id => sinceP b id c.2.1 != 0) then 4 else if P.any (fun id => (awayP b id c.2.1).isSome) then 9 else if 1 < (leftP c.2.2.1 c.2.2.2.1).length then 1 else if 1 < (leftP c.2.2.2.1 c.2.2.1).length then 1 else if (leftP c.2.2.1 c.2.2.2.1).length + (leftP c.2.2.2.1 c.2.2.1).length = 0 then 1 else 0) := by
    rw [third]
    refine Eq.trans (loop_any P (fun id => sinceP b id c.2.1 != 0) (fun _ => some 4) (some 4) (some (if P.any (fun id => (awayP b id c.2.1).isSome) then 9 else if 1 < (leftP c.2.2.1 c.2.2.2.1).length then 1 else if 1 < (leftP c.2.2.2.1 c.2.2.1).length then 1 else if (leftP c.2.2.1 c.2.2.2.1).length + (leftP c.2.2.2.1 c.2.2.1).length = 0 then 1 else 0)) (fun _ => rfl) (fun i a hi ha kn => ?_) (fun kn => ?_)) ?_
    · try dsimp only
      unfold m_r5_compared_L1
      rw [ifb_lt' hi, iff_of (hol hi), nget_toNat ha, RSince_ok (b := ((b.1.1, b.1.2), b.2.1, b.2.2.1, b.2.2.2.1, b.2.2.2.2.1, b.2.2.2.2.2)) (by simp only; omega), bindF_some, ck_succ hi (by omega)]
      have e : sinceP ((b.1.1, b.1.2), b.2.1, b.2.2.1, b.2.2.2.1, b.2.2.2.2.1, b.2.2.2.2.2) a c.2.1 = sinceP b a c.2.1 := rfl
      rw [e, ifb_eq]
    · try dsimp only
      unfold m_r5_compared_L1
      rw [ifb_ge]
    · cases P.any (fun id => sinceP b id c.2.1 != 0) <;> rfl
  rw [second]
  refine Eq.trans (loop_any P (fun id => sinceP b id c.2.1 == 5) (fun _ => some 5) (some 5) (some (if P.any (fun id => sinceP b id c.2.1 != 0) then 4 else if P.any (fun id => (awayP b id c.2.1).isSome) then 9 else if 1 < (leftP c.2.2.1 c.2.2.2.1).length then 1 else if 1 < (leftP c.2.2.2.1 c.2.2.1).length then 1 else if (leftP c.2.2.1 c.2.2.2.1).length + (leftP c.2.2.2.1 c.2.2.1).length = 0 then 1 else 0)) (fun _ => rfl) (fun i a hi ha kn => ?_) (fun kn => ?_)) ?_
  · try dsimp only
    unfold m_r5_compared_L0
    rw [ifb_lt' hi, iff_of (hol hi), nget_toNat ha, RFind_ok (b := ((b.1.1, b.1.2), b.2.1, b.2.2.1, b.2.2.2.1, b.2.2.2.2.1, b.2.2.2.2.2)) (by simp only; omega), bindF_some, ck_succ hi (by omega), sinceP_five]
    try dsimp only
    cases List.findIdx? (fun g : Gauge => g.1 == a) b.2.1 with
    | none => rfl
    | some j =>
      have : ilt (j : Int) 0 = false := by simp [ilt]
      rw [ifb_f this]; rfl
  · try dsimp only
    unfold m_r5_compared_L0
    rw [ifb_ge]
  · cases P.any (fun id => sinceP b id c.2.1 == 5) <;> rfl
end Go.Proofs.ZzM
end

noncomputable section
namespace Go.Proofs.ZzM
open Go Go.Am
structure Pre (b : Book) : Prop where
  size : SizeOk b
  gauge : ∀ g ∈ b.2.1, gaugeP g = true
  cmp : ∀ c ∈ b.2.2.2.2.1, dayP c.2.1 = true ∧ (leftP c.2.2.1 c.2.2.2.1).length ≤ 1 ∧ (leftP c.2.2.2.1 c.2.2.1).length ≤ 1
  look : ∀ n ∈ b.2.2.2.2.2, dayP n.2 = true
theorem numsP_day {c : Cmp} (h : numsP c = true) : dayP c.2.1 = true := by
  have := ((numsP_iff c).1 h).2.1
  simp [dayP, inP, this.1, this.2]
theorem Good.pre {b : Book} (h : Good b) : Pre b :=
  ⟨h.size, h.gauge, fun c hc => ⟨numsP_day (h.nums hc), (h.lefts hc).1, (h.lefts hc).2.1⟩, fun n hn => (by have := (useE_zero h (h.looks n hn)).1; simp [dayP, inP, this.1, this.2])⟩
theorem oneP_eq {a b : List Int} (h : (leftP a b).length ≤ 1) {id : Int} (h0 : id ≠ 0) : oneP a b = id ↔ id ∈ a ∧ id ∉ b := by
  rw [← leftP_mem]
  unfold oneP
  cases hl : leftP a b with
  | nil =>
    simp only [List.head?_nil, Option.getD_none, List.not_mem_nil, iff_false]
    exact fun e => h0 e.symm
  | cons x t =>
    have : t = [] := by
      rw [hl] at h
      simp only [List.length_cons] at h
      exact List.length_eq_zero_iff.1 (by omega)
    subst this
    simp only [List.head?_cons, Option.getD_some, List.mem_singleton]
    exact eq_comm
def asksP (b : Book) (g : Gauge) (d : Int) : Bool :=
  g.2.1 == d || b.2.2.2.2.1.any (fun c => c.2.1 == d && (oneP c.2.2.1 c.2.2.2.1 == g.1 || oneP c.2.2.2.1 c.2.2.1 == g.1)) || b.2.2.2.2.2.any (fun n => n.1 == g.1 && n.2 == d)
theorem Rasks_ok {b : Book} (hs : SizeOk b) (g : Gauge) (d : Int) : f_r5_asks b g d = some (asksP b g d) := by
  have h1 := hs.compares
  have h2 := hs.looks
  unfold f_r5_asks m_r5_asks asksP
  cases hm : (g.2.1 == d) with
  | true =>
    have : ieq g.2.1 d = true := hm
    rw [ifb_t this]
    simp
  | false =>
    have : ieq g.2.1 d = false := hm
    rw [ifb_f this]
    have inner : loopT (fun (v14 : Int) kk16 => m_r5_asks_L1 d b.2.2.2.2.2 g.1 v14 (fun u15 => kk16 u15) (fun z12 => some z12) (fun _ => some false)) (0 : Int) = some (b.2.2.2.2.2.any (fun n => n.1 == g.1 && n.2 == d)) := by
      refine Eq.trans (loop_any b.2.2.2.2.2 (fun n => n.1 == g.1 && n.2 == d) (fun _ => some true) (some true) (some false) (fun _ => rfl) (fun i a hi ha kn => ?_) (fun kn => ?_)) ?_
      · try dsimp only
        unfold m_r5_asks_L1
        rw [ifb_lt' hi, iget_nat ha, iget_nat ha, ck_succ hi (by omega)]
        cases h1 : (a.1 == g.1) with
        | false => have : ieq a.1 g.1 = false := h1; simp [this]
        | true =>
          have : ieq a.1 g.1 = true := h1
          rw [this]
          cases h2 : (a.2 == d) with
          | false => have : ieq a.2 d = false := h2; simp [this]
          | true => have : ieq a.2 d = true := h2; simp [this]
      · try dsimp only
        unfold m_r5_asks_L1
        rw [ifb_ge]
      · cases b.2.2.2.2.2.any _ <;> rfl
    rw [inner]
    refine Eq.trans (loop_any b.2.2.2.2.1 (fun c => c.2.1 == d && (oneP c.2.2.1 c.2.2.2.1 == g.1 || oneP c.2.2.2.1 c.2.2.1 == g.1)) (fun _ => some true) (some true) (some (b.2.2.2.2.2.any (fun n => n.1 == g.1 && n.2 == d))) (fun _ => rfl) (fun i a hi ha kn => ?_) (fun kn => ?_)) ?_
    · have hp := hs.piles a (List.mem_of_getElem? ha)
      try dsimp only
      unfold m_r5_asks_L0
      rw [ifb_lt' hi, iget_nat ha, Rone_ok (by omega) (by omega), Rone_ok (by omega) (by omega), ck_succ hi (by omega)]
      simp only [bindF_some]
      cases h1 : (a.2.1 == d) with
      | false => have : ieq a.2.1 d = false := h1; simp [this]
      | true =>
        have : ieq a.2.1 d = true := h1
        rw [this]
        cases h2 : (oneP a.2.2.1 a.2.2.2.1 == g.1) with
        | true => have : ieq (oneP a.2.2.1 a.2.2.2.1) g.1 = true := h2; simp [this]
        | false =>
          have : ieq (oneP a.2.2.1 a.2.2.2.1) g.1 = false := h2
          rw [this]
          cases h3 : (oneP a.2.2.2.1 a.2.2.1 == g.1) with
          | true => have : ieq (oneP a.2.2.2.1 a.2.2.1) g.1 = true := h3; simp [this]
          | false => have : ieq (oneP a.2.2.2.1 a.2.2.1) g.1 = false := h3; simp [this]
    · try dsimp only
      unfold m_r5_asks_L0
      rw [ifb_ge]
    · cases b.2.2.2.2.1.any _ <;> rfl
theorem asksP_iff {b : Book} (h : Pre b) {g : Gauge} (hg : g ∈ b.2.1) {d : Int} : asksP b g d = true ↔ d ∈ daysP b g := by
  have hid : g.1 ≠ 0 := by
    have := ((gaugeP_iff g).1 (h.gauge g hg)).2.2.2.1
    omega
  rw [daysP_mem]
  unfold asksP
  simp only [Bool.or_eq_true, List.any_eq_true, Bool.and_eq_true, beq_iff_eq, or_assoc]
  refine or_congr eq_comm (or_congr ?_ Iff.rfl)
  constructor
  · rintro ⟨c, hc, e, h1⟩
    obtain ⟨_, l1, l2⟩ := h.cmp c hc
    refine ⟨c, hc, ?_, e⟩
    rw [oneP_eq l1 hid, oneP_eq l2 hid] at h1
    intro he
    rw [Bool.eq_iff_iff, List.contains_iff_mem, List.contains_iff_mem] at he
    rcases h1 with ⟨x, y⟩ | ⟨x, y⟩
    · exact y (he.1 x)
    · exact y (he.2 x)
  · rintro ⟨c, hc, h1, e⟩
    obtain ⟨_, l1, l2⟩ := h.cmp c hc
    refine ⟨c, hc, e, ?_⟩
    rw [oneP_eq l1 hid, oneP_eq l2 hid]
    by_cases ha : g.1 ∈ c.2.2.1
    · by_cases hb : g.1 ∈ c.2.2.2.1
      · exact absurd (by rw [Bool.eq_iff_iff, List.contains_iff_mem, List.contains_iff_mem]; exact ⟨fun _ => hb, fun _ => ha⟩) h1
      · exact .inl ⟨ha, hb⟩
    · by_cases hb : g.1 ∈ c.2.2.2.1
      · exact .inr ⟨hb, ha⟩
      · exact absurd (by rw [Bool.eq_iff_iff, List.contains_iff_mem, List.contains_iff_mem]; exact ⟨fun x => absurd x ha, fun x => absurd x hb⟩) h1
def nx (v : Int) (D : List Int) : Int := D.foldl (fun m d => if v < d then min m d else m) 20001
theorem nx_snoc (v : Int) (D : List Int) (d : Int) : nx v (D ++ [d]) = if v < d then min (nx v D) d else nx v D := by
  unfold nx
  rw [List.foldl_append]
  rfl
theorem nx_spec (v : Int) : ∀ D : List Int, nx v D ≤ 20001 ∧ (∀ d ∈ D, v < d → nx v D ≤ d) ∧ (nx v D = 20001 ∨ (nx v D ∈ D ∧ v < nx v D)) := by
  suffices H : ∀ (n : Nat) (D : List Int), D.length = n → nx v D ≤ 20001 ∧ (∀ d ∈ D, v < d → nx v D ≤ d) ∧ (nx v D = 20001 ∨ (nx v D ∈ D ∧ v < nx v D)) from fun D => H _ D rfl
  intro n
  induction n with
  | zero =>
    intro D hD
    rw [List.length_eq_zero_iff.1 hD]
    exact ⟨Int.le_refl _, by simp, .inl rfl⟩
  | succ n ih =>
    intro D' hD'
    obtain ⟨D, d, rfl⟩ : ∃ D d, D' = D ++ [d] := by
      rcases List.eq_nil_or_concat D' with rfl | ⟨L, b, rfl⟩
      · simp at hD'
      · exact ⟨L, b, by simp⟩
    obtain ⟨h1, h2, h3⟩ := ih D (by simpa using hD')
    rw [nx_snoc]
    by_cases hd : v < d
    · rw [if_pos hd]
      refine ⟨by omega, fun x hx hv => ?_, ?_⟩
      · rcases List.mem_append.1 hx with hx | hx
        · have := h2 x hx hv; omega
        · rw [List.mem_singleton] at hx; omega
      · rcases Int.le_total (nx v D) d with h | h
        · rw [Int.min_eq_left h]
          rcases h3 with h3 | h3
          · exact .inl h3
          · exact .inr ⟨by simp [h3.1], h3.2⟩
        · rw [Int.min_eq_right h]
          exact .inr ⟨by simp, hd⟩
    · rw [if_neg hd]
      refine ⟨h1, fun x hx hv => ?_, ?_⟩
      · rcases List.mem_append.1 hx with hx | hx
        · exact h2 x hx hv
        · rw [List.mem_singleton] at hx; omega
      · rcases h3 with h3 | h3
        · exact .inl h3
        · exact .inr ⟨by simp [h3.1], h3.2⟩
theorem nx_loop {D : List Int} (hD : D.length ≤ 1000000) (v : Int) (K : Int → Option (List (Int × Int))) :
    loopT (fun (v18 : Int × Int) kk21 => m_r5_Nodes_L5 v D v18.1 v18.2 (fun u19 u20 => kk21 (u19, u20)) K) ((20001 : Int), (0 : Int)) = K (nx v D) := by
  refine loop_inv (fun x : Int × Int => ∃ k : Nat, k ≤ D.length ∧ x = (nx v (D.take k), (k : Int))) (fun x => D.length - x.2.toNat) ?_ ⟨0, by omega, rfl⟩
  rintro x ⟨k, hk, rfl⟩
  rcases Nat.lt_or_ge k D.length with hlt | hge
  · refine .inr ⟨(nx v (D.take (k + 1)), ((k + 1 : Nat) : Int)), ⟨k + 1, hlt, rfl⟩, by simp only [Int.toNat_natCast]; omega, fun kn => ?_⟩
    have ha : D[k]? = some D[k] := List.getElem?_eq_getElem hlt
    unfold m_r5_Nodes_L5
    have ho : olen D = ((D.length : Nat) : Int) := rfl
    rw [ifb_lt' hlt, ho, iff_idx hlt, nget_toNat ha, take_succ ha, nx_snoc]
    by_cases h : v < D[k]
    · rw [ifb_t (by simpa [igt] using h), iff_idx hlt, nget_toNat ha, ck_succ hlt (by omega), if_pos h, imin_eq]
      simp
    · rw [ifb_f (by simpa [igt] using h), ck_succ hlt (by omega), if_neg h]
      simp
  · have : k = D.length := by omega
    subst this
    refine .inl fun kn => ?_
    unfold m_r5_Nodes_L5
    rw [ifb_ge, List.take_length]
def askR (b : Book) (g : Gauge) (D : List Int) (v : Int) : List Int := (setI D).filter fun d => decide (v < d) && asksP b g d
theorem askR_step {b : Book} {g : Gauge} {D : List Int} (hD : ∀ d ∈ D, d ≤ 20000) (v : Int) : askR b g D v = if nx v D < 20001 then (if asksP b g (nx v D) then nx v D :: askR b g D (nx v D) else askR b g D (nx v D)) else [] := by
  obtain ⟨h1, h2, h3⟩ := nx_spec v D
  refine asc_ext ((setI_lt D).sublist List.filter_sublist) ?_ fun x => ?_
  · split
    · split
      · rw [List.pairwise_cons]
        refine ⟨fun a ha => ?_, (setI_lt D).sublist List.filter_sublist⟩
        have := (List.mem_filter.1 ha).2
        simp at this
        omega
      · exact (setI_lt D).sublist List.filter_sublist
    · exact List.Pairwise.nil
  · have hm : ∀ v x, x ∈ askR b g D v ↔ x ∈ D ∧ v < x ∧ asksP b g x = true := by
      intro v x
      unfold askR
      rw [List.mem_filter, setI_mem]
      simp
    rw [hm]
    split
    · rename_i hlt
      have h4 : nx v D ∈ D ∧ v < nx v D := by
        rcases h3 with h3 | h3
        · omega
        · exact h3
      split
      · rename_i ha
        rw [List.mem_cons, hm]
        constructor
        · rintro ⟨a, c, e⟩
          have := h2 x a c
          rcases Int.lt_or_eq_of_le this with h | h
          · exact .inr ⟨a, h, e⟩
          · exact .inl h.symm
        · rintro (rfl | ⟨a, c, e⟩)
          · exact ⟨h4.1, h4.2, ha⟩
          · exact ⟨a, by omega, e⟩
      · rename_i ha
        rw [hm]
        constructor
        · rintro ⟨a, c, e⟩
          have := h2 x a c
          rcases Int.lt_or_eq_of_le this with h | h
          · exact ⟨a, h, e⟩
          · rw [← h] at e; exact absurd e ha
        · rintro ⟨a, c, e⟩
          exact ⟨a, by omega, e⟩
    · rename_i hge
      constructor
      · rintro ⟨a, c, e⟩
        have := h2 x a c
        have := hD x a
        omega
      · intro h; cases h
theorem askR_len {b : Book} {g : Gauge} {D : List Int} (v : Int) : (askR b g D v).length ≤ D.length :=
  Nat.le_trans (List.length_filter_le _ _) (setI_len D)
set_option maxHeartbeats 1000000 in
theorem day_loop {b : Book} (hs : SizeOk b) {i : Nat} {g : Gauge} (hg : b.2.1[i]? = some g) {D : List Int} (hl : D.length ≤ 1000000) (hD : ∀ d ∈ D, d ≤ 20000) {out : List (Int × Int)} (ho : out.length + D.length ≤ 1000000000) (K : List (Int × Int) → Option (List (Int × Int))) :
    loopT (fun (v24 : Int × List (Int × Int)) kk27 => m_r5_Nodes_L4 (i : Int) b.1.1 b.1.2 b.2.1 b.2.2.1 b.2.2.2.1 b.2.2.2.2.1 b.2.2.2.2.2 D v24.1 v24.2 (fun u25 u26 => kk27 (u25, u26)) K) ((-1 : Int), out) = K (out ++ (askR b g D (-1)).map fun d => ((g.1, d) : Int × Int)) := by
  refine loop_inv (fun x : Int × List (Int × Int) => x.2 ++ (askR b g D x.1).map (fun d => ((g.1, d) : Int × Int)) = out ++ (askR b g D (-1)).map fun d => ((g.1, d) : Int × Int)) (fun x => (20001 - x.1).toNat) ?_ rfl
  rintro ⟨v, o⟩ hI
  simp only at hI
  by_cases hv : v < 20001
  · obtain ⟨h1, h2, h3⟩ := nx_spec v D
    have hlt : v < nx v D := by
      rcases h3 with h3 | h3
      · omega
      · exact h3.2
    refine .inr ⟨(nx v D, if nx v D < 20001 ∧ asksP b g (nx v D) = true then o ++ [(g.1, nx v D)] else o), ?_, by simp only; omega, fun kn => ?_⟩
    · rw [← hI]
      simp only
      rw [askR_step hD v]
      by_cases ha : nx v D < 20001
      · rw [if_pos ha]
        cases hq : asksP b g (nx v D) with
        | true => rw [if_pos ⟨ha, rfl⟩, if_pos rfl]; simp
        | false => rw [if_neg (by simp), if_neg (by simp)]
      · rw [if_neg (by omega), if_neg ha]
        have : askR b g D (nx v D) = [] := by
          have e := askR_step (b := b) (g := g) hD (nx v D)
          rw [e, if_neg]
          obtain ⟨g1, g2, g3⟩ := nx_spec (nx v D) D
          rcases g3 with g3 | g3
          · omega
          · have := hD _ g3.1; omega
        rw [this]
    · unfold m_r5_Nodes_L4
      rw [ifb_t (by simpa [ilt] using hv)]
      refine Eq.trans (nx_loop hl v _) ?_
      dsimp only
      by_cases ha : nx v D < 20001
      · rw [ifb_t (by simpa [ilt] using ha), iget_nat hg, Rasks_ok (b := ((b.1.1, b.1.2), b.2.1, b.2.2.1, b.2.2.2.1, b.2.2.2.2.1, b.2.2.2.2.2)) ⟨hs.gauges, hs.uses, hs.loans, hs.compares, hs.looks, hs.piles⟩, bindF_some]
        have e : asksP ((b.1.1, b.1.2), b.2.1, b.2.2.1, b.2.2.2.1, b.2.2.2.2.1, b.2.2.2.2.2) g (nx v D) = asksP b g (nx v D) := rfl
        rw [e]
        cases hq : asksP b g (nx v D) with
        | true =>
          have hol : o.length ≤ 1000000000 := by
            have := congrArg List.length hI
            simp only [List.length_append, List.length_map] at this
            have := askR_len (b := b) (g := g) (D := D) (-1)
            omega
          rw [ifb_t rfl, iget_nat hg, okLen_of (by simp only [List.length_singleton]; omega), Am.iff_true, if_pos ⟨ha, rfl⟩]
        | false => rw [ifb_f rfl, if_neg (by simp)]
      · rw [ifb_f (by simpa [ilt] using ha), if_neg (by omega)]
  · refine .inl fun kn => ?_
    unfold m_r5_Nodes_L4
    rw [ifb_f (by simpa [ilt] using hv)]
    have : askR b g D v = [] := by
      rw [askR_step hD, if_neg]
      obtain ⟨g1, g2, g3⟩ := nx_spec v D
      rcases g3 with g3 | g3
      · omega
      · have := hD _ g3.1; omega
    rw [this] at hI
    simp only [List.map_nil, List.append_nil] at hI
    rw [hI]
def allDays (b : Book) : List Int := b.2.1.map (fun g => g.2.1) ++ b.2.2.2.2.1.map (fun c => c.2.1) ++ b.2.2.2.2.2.map fun n => n.2
theorem allDays_len {b : Book} (hs : SizeOk b) : (allDays b).length ≤ 3000 := by
  have h1 := hs.gauges; have h2 := hs.compares; have h3 := hs.looks
  simp only [allDays, List.length_append, List.length_map]
  omega
theorem Pre.days {b : Book} (h : Pre b) : ∀ d ∈ allDays b, 0 ≤ d ∧ d ≤ 20000 := by
  intro d hd
  simp only [allDays, List.mem_append, List.mem_map] at hd
  rcases hd with (⟨g, hg, rfl⟩ | ⟨c, hc, rfl⟩) | ⟨n, hn, rfl⟩
  · have := ((gaugeP_iff g).1 (h.gauge g hg)).2.2.2.2.1
    omega
  · have := (h.cmp c hc).1
    simp only [dayP, inP, Bool.and_eq_true, decide_eq_true_eq] at this
    exact this
  · have := h.look n hn
    simp only [dayP, inP, Bool.and_eq_true, decide_eq_true_eq] at this
    exact this
theorem askR_days {b : Book} (h : Pre b) {g : Gauge} (hg : g ∈ b.2.1) : askR b g (allDays b) (-1) = daysP b g := by
  refine asc_ext ((setI_lt _).sublist List.filter_sublist) (days_lt b g) fun x => ?_
  unfold askR
  rw [List.mem_filter, setI_mem, Bool.and_eq_true, asksP_iff h hg, decide_eq_true_eq]
  constructor
  · exact fun hx => hx.2.2
  · intro hx
    have hm : x ∈ allDays b := by
      simp only [allDays, List.mem_append, List.mem_map]
      rcases daysP_mem.1 hx with e | ⟨c, hc, _, e⟩ | ⟨n, hn, _, e⟩
      · exact .inl (.inl ⟨g, hg, e.symm⟩)
      · exact .inl (.inr ⟨c, hc, e⟩)
      · exact .inr ⟨n, hn, e⟩
    have := h.days x hm
    exact ⟨hm, by omega, hx⟩
theorem map_loop {α : Type} (f : α → Int) (l : List α) (s : List Int) (i : Nat) {a : α} (ha : l[i]? = some a) : s ++ (l.take (i + 1)).map f = (s ++ (l.take i).map f) ++ [f a] := by
  rw [take_succ ha, List.map_append, List.append_assoc]; rfl
theorem RNodes_ok {b : Book} (h : Pre b) : f_r5_Nodes b = some (nodesP b) := by
  have h1 := h.size.gauges; have h2 := h.size.compares; have h3 := h.size.looks
  have hl := allDays_len h.size
  unfold f_r5_Nodes m_r5_Nodes
  refine loop_acc b.2.1 (fun i => (b.2.1.take i).map (fun g => g.2.1)) _ rfl (fun i a hi ha kn => ?_) (fun kn => ?_)
  · try dsimp only
    unfold m_r5_Nodes_L0
    have := map_loop (fun g : Gauge => g.2.1) b.2.1 [] i ha
    simp only [List.nil_append] at this
    rw [ifb_lt' hi, iget_nat ha, okLen_of (by simp only [List.length_map, List.length_take, List.length_singleton]; omega), Am.iff_true, ck_succ hi (by omega), this]
  · try dsimp only
    unfold m_r5_Nodes_L0
    rw [ifb_ge, List.take_length]
    dsimp only
    refine loop_acc b.2.2.2.2.1 (fun i => b.2.1.map (fun g => g.2.1) ++ (b.2.2.2.2.1.take i).map (fun c => c.2.1)) _ (by simp) (fun i a hi ha kn => ?_) (fun kn => ?_)
    · try dsimp only
      unfold m_r5_Nodes_L1
      rw [ifb_lt' hi, iget_nat ha, okLen_of (by simp only [List.length_append, List.length_map, List.length_take, List.length_singleton]; omega), Am.iff_true, ck_succ hi (by omega), map_loop (fun c : Cmp => c.2.1) b.2.2.2.2.1 _ i ha]
    · try dsimp only
      unfold m_r5_Nodes_L1
      rw [ifb_ge, List.take_length]
      dsimp only
      refine loop_acc b.2.2.2.2.2 (fun i => b.2.1.map (fun g => g.2.1) ++ b.2.2.2.2.1.map (fun c => c.2.1) ++ (b.2.2.2.2.2.take i).map (fun n => n.2)) _ (by simp) (fun i a hi ha kn => ?_) (fun kn => ?_)
      · try dsimp only
        unfold m_r5_Nodes_L2
        rw [ifb_lt' hi, iget_nat ha, okLen_of (by simp only [List.length_append, List.length_map, List.length_take, List.length_singleton]; omega), Am.iff_true, ck_succ hi (by omega), map_loop (fun n : Int × Int => n.2) b.2.2.2.2.2 _ i ha]
      · try dsimp only
        unfold m_r5_Nodes_L2
        rw [ifb_ge, List.take_length]
        dsimp only
        rw [show b.2.1.map (fun g => g.2.1) ++ b.2.2.2.2.1.map (fun c => c.2.1) ++ b.2.2.2.2.2.map (fun n => n.2) = allDays b from rfl]
        refine loop_acc b.2.1 (fun i => (b.2.1.take i).flatMap fun g => (daysP b g).map fun d => ((g.1, d) : Int × Int)) _ rfl (fun i g hi hg kn => ?_) (fun kn => ?_)
        · try dsimp only
          unfold m_r5_Nodes_L3
          rw [ifb_lt' hi]
          have hlen : ((b.2.1.take i).flatMap fun g => (daysP b g).map fun d => ((g.1, d) : Int × Int)).length ≤ 2001000 := by
            have := flatMap_len (fun g : Gauge => (daysP b g).map fun d => ((g.1, d) : Int × Int)) 2001 (fun g => by rw [List.length_map]; exact daysP_len h.size g) (b.2.1.take i)
            rw [List.length_take] at this
            have : min i b.2.1.length * 2001 ≤ 1000 * 2001 := Nat.mul_le_mul_right _ (by omega)
            omega
          refine Eq.trans (day_loop h.size hg (by omega) (fun d hd => (h.days d hd).2) (by omega) _) ?_
          rw [ck_succ hi (by omega), askR_days h (List.mem_of_getElem? hg), take_succ hg, List.flatMap_append]
          simp
        · try dsimp only
          unfold m_r5_Nodes_L3
          rw [ifb_ge, List.take_length]
          rfl
end Go.Proofs.ZzM
end

noncomputable section
namespace Go.Proofs.ZzM
open Go Go.Am
theorem Rlowest_ok {n d : Int} (hd : 0 < d) (hn : n.natAbs ≤ 2147483647) (hd2 : d ≤ 2147483647) : f_r1_lowest n d = some (redP n d, 0) := by
  obtain ⟨g, h0, hg, h1, h2⟩ := red_spec (n := n) hd
  have hr := (ratP_iff _).1 (red_rat hd hn hd2)
  have z : dieq d 0 = false := by simp [dieq]; omega
  have zg : dieq (g : Int) 0 = false := by simp [dieq]; omega
  unfold f_r1_lowest m_r1_lowest
  by_cases hn0 : n = 0
  · subst hn0
    have e : redP 0 d = (0, 1) := by
      unfold redP
      have : (Nat.gcd (0 : Int).natAbs d.natAbs : Int) = d := by simp; omega
      rw [this, Int.ediv_self (by omega)]
      simp
    rw [ifb_f (by rfl), ifb_f z, ck_ok (by simp) (by simp), ifb_f z, Int.tdiv_self (by omega), ck_ok (by omega) (by omega), Int.zero_tdiv, e]
    rfl
  · rw [ifb_t (by simpa [ine] using hn0), ifb_f z]
    have a0 : (Int.tmod n d).natAbs = n.natAbs % d.natAbs := Int.natAbs_tmod n d
    have hlt := Nat.mod_lt n.natAbs (show 0 < d.natAbs by omega)
    rw [RAbs_ok ⟨by omega, by omega⟩, bindF_some]
    have ed : d = ((d.natAbs : Nat) : Int) := by omega
    have eg : f_r1_Gcd ((Int.tmod n d).natAbs : Int) d = some (g : Int) := by
      have := RGcd_ok (Int.tmod n d).natAbs d.natAbs
      rw [← ed] at this
      rw [this, a0, hg]
      congr 2
      rw [Nat.gcd_comm n.natAbs, Nat.gcd_rec d.natAbs n.natAbs]
    rw [eg, bindF_some, ifb_f zg]
    have q1 : Int.tdiv n (g : Int) = (redP n d).1 := by
      conv => lhs; rw [h1]
      exact Int.mul_tdiv_cancel _ (by omega)
    have q2 : Int.tdiv d (g : Int) = (redP n d).2 := by
      conv => lhs; rw [h2]
      exact Int.mul_tdiv_cancel _ (by omega)
    rw [q1, q2, ck_ok (by omega) (by omega), ifb_f zg, ck_ok (by omega) (by omega), ifb_f (by simp [igt]; omega), ifb_f (by simp [ilt]; omega), ifb_f (by simp [igt]; omega)]
theorem RSub_ok {x y : Int × Int} (hx : Rat' x 1000 100) (hy : Rat' y 1000 100) : f_r1_Sub x y = some (subP x y, 0) := by
  obtain ⟨b1, b2, b3⟩ := sub_bounds hx hy
  have h1 := mulBound hx.num (show -100 ≤ y.2 ∧ y.2 ≤ 100 from ⟨by have := hy.pos; omega, hy.den⟩)
  have h2 := mulBound hy.num (show -100 ≤ x.2 ∧ x.2 ≤ 100 from ⟨by have := hx.pos; omega, hx.den⟩)
  have h3 := hy.num
  unfold f_r1_Sub m_r1_Sub f_r1_Neg m_r1_Neg f_r1_Add m_r1_Add
  rw [ck_ok (by omega) (by omega), bindF_some]
  dsimp only
  have e : (0 - y.1) * x.2 = -(y.1 * x.2) := by rw [Int.zero_sub, Int.neg_mul]
  rw [ck_ok (by omega) (by omega), e, ck_ok (by omega) (by omega), ck_ok (by omega) (by omega), ck_ok (by omega) (by omega)]
  have e2 : x.1 * y.2 + -(y.1 * x.2) = x.1 * y.2 - y.1 * x.2 := by omega
  rw [e2, Rlowest_ok b2 (by omega) (by omega), bindF_some, bindF_some]
  rfl
theorem RMul_ok {k : Int × Int} (hk : Rat' k 200000 10000) {n : Int} (hn : -10000 ≤ n ∧ n ≤ 10000) : f_r1_Mul (n, 1) k = some (mulP k n, 0) := by
  have b := mul_bounds hk hn
  have p := hk.pos
  have q := hk.den
  unfold f_r1_Mul m_r1_Mul
  have e : n * k.1 = k.1 * n := Int.mul_comm _ _
  dsimp only
  rw [e, Int.one_mul, ck_ok (by omega) (by omega), ck_ok (by omega) (by omega), Rlowest_ok (by omega) (by omega) (by omega), bindF_some]
  rfl
theorem RScale_ok {k : Int × Int} (hk : Rat' k 200000 10000) {heat : Int × Int} (hh : spanP heat (-10000) 10000 = true) : f_r1_Scale ((heat.1, 1), (heat.2, 1)) k = some (overP k heat, 0) := by
  simp only [spanP, Bool.and_eq_true, decide_eq_true_eq] at hh
  have hp := hk.pos
  rw [over_scale (by omega) hh.2.1]
  unfold f_r1_Scale m_r1_Scale f_r1_both m_r1_both
  dsimp only
  rw [RMul_ok hk ⟨by omega, by omega⟩, RMul_ok hk ⟨by omega, by omega⟩]
  by_cases hn : k.1 < 0
  · rw [ifb_t (by simpa [ilt] using hn), if_pos hn]
    rfl
  · rw [ifb_f (by simpa [ilt] using hn), if_neg hn]
    rfl
theorem Rfloor_ok {r : Int × Int} (h : ratP r = true) : f_r1_Floor r = some (r.1 / r.2) := by
  have := (ratP_iff r).1 h
  have e := floor_ok (n := r.1) (d := r.2) (by omega) (by omega)
  unfold f_e_floor m_e_floor at e
  unfold f_r1_Floor m_r1_Floor f_r1_down m_r1_down
  rw [e]
  rfl
theorem Rceil_ok {r : Int × Int} (h : ratP r = true) : f_r1_Ceil r = some (ceilP r) := by
  have hr := (ratP_iff r).1 h
  unfold f_r1_Ceil m_r1_Ceil f_r1_up m_r1_up
  have z : dieq r.2 0 = false := by simp [dieq]; omega
  have t := Int.mul_tdiv_add_tmod r.1 r.2
  have b1 : -4000000000 ≤ Int.tdiv r.1 r.2 ∧ Int.tdiv r.1 r.2 ≤ 4000000000 := by
    have := Int.natAbs_tdiv_le_natAbs r.1 r.2
    omega
  have h5 : -r.2 < Int.tmod r.1 r.2 ∧ Int.tmod r.1 r.2 < r.2 := by
    have h6 := Int.natAbs_tmod r.1 r.2
    have h7 := Nat.mod_lt r.1.natAbs (show 0 < r.2.natAbs by omega)
    omega
  rw [ifb_f z, ck_ok (by omega) (by omega), ifb_f z, ifb_eq]
  unfold ceilP
  by_cases hp : 0 < Int.tmod r.1 r.2
  · rw [if_pos (by simpa [igt] using hp), ck_ok (by omega) (by omega), bindF_some]
    congr 1
    have : -r.1 / r.2 = -(Int.tdiv r.1 r.2) - 1 := by
      refine (Int.ediv_eq_iff_of_pos (by omega)).2 ⟨?_, ?_⟩
      · rw [Int.sub_mul, Int.neg_mul, Int.mul_comm (Int.tdiv r.1 r.2)]; omega
      · rw [Int.sub_mul, Int.neg_mul, Int.mul_comm (Int.tdiv r.1 r.2)]; omega
    omega
  · rw [if_neg (by simpa [igt] using hp), bindF_some]
    congr 1
    have : -r.1 / r.2 = -(Int.tdiv r.1 r.2) := by
      refine (Int.ediv_eq_iff_of_pos (by omega)).2 ⟨?_, ?_⟩
      · rw [Int.neg_mul, Int.mul_comm (Int.tdiv r.1 r.2)]; omega
      · rw [Int.neg_mul, Int.mul_comm (Int.tdiv r.1 r.2)]; omega
    omega
end Go.Proofs.ZzM
end

noncomputable section
namespace Go.Proofs.ZzM
open Go Go.Am
structure CmpIn (b : Book) (c : Cmp) : Prop where
  ok : CmpOk b c
  ids : b.2.1.Pairwise fun a b => a.1 < b.1
  pile : ∀ x ∈ c.2.2.1 ++ c.2.2.2.1, ∃ g, gaugeOf b x = some g
theorem Good.cmpIn {b : Book} (h : Good b) {c : Cmp} (hc : c ∈ b.2.2.2.2.1) : CmpIn b c := ⟨h.cmp hc, h.ids, fun x hx => by obtain ⟨⟨g, hg, _⟩, _⟩ := h.pile hc hx; exact ⟨g, hg⟩⟩
theorem CmpOk.ne {b : Book} {c : Cmp} (h : CmpOk b c) : ∀ x ∈ c.2.2.1 ++ c.2.2.2.1, x ≠ 0 := by
  intro x hx
  have hn := (numsP_iff c).1 h.nums
  have h1 := ((pileP_iff _).1 hn.2.2.2.2.2.1).1
  have h2 := ((pileP_iff _).1 hn.2.2.2.2.2.2).1
  rcases List.mem_append.1 hx with hx | hx
  · have := h1 x hx; omega
  · have := h2 x hx; omega
theorem Rgrows_ok {b : Book} (hs : SizeOk b) (hi : b.2.1.Pairwise fun a b => a.1 < b.1) {p q : List Int} (hx : ∀ x ∈ p, x ≠ 0 ∧ ∃ g, gaugeOf b x = some g) : f_r5_grows b (oneP p q) = some (rateP (shelf b) (leftP p q)) := by
  have h1 := hs.gauges
  unfold f_r5_grows m_r5_grows
  cases hl : leftP p q with
  | nil =>
    have : oneP p q = 0 := by unfold oneP; rw [hl]; rfl
    rw [this]
    rfl
  | cons x t =>
    have e : oneP p q = x := by unfold oneP; rw [hl]; rfl
    have hm : x ∈ p := (leftP_mem.1 (show x ∈ leftP p q by rw [hl]; simp)).1
    obtain ⟨h0, g, hg⟩ := hx x hm
    rw [e, ifb_f (by simpa [ieq] using h0), RFind_ok (by omega), bindF_some]
    rcases find_gauge (b := b) (id := x) with ⟨j, g', h2, h3, h4⟩ | ⟨h2, h3⟩
    · rw [h2]
      try dsimp only
      rw [iget_nat h3]
      unfold rateP
      dsimp only
      rw [mget_shelf hi, h4]
    · rw [h3] at hg; cases hg
theorem RGrowth_ok {b : Book} (hs : SizeOk b) {c : Cmp} (h : CmpIn b c) : f_r5_Growth b c = some (growthP b c) := by
  have hn := (numsP_iff c).1 h.ok.nums
  have ha := pileP_len hn.2.2.2.2.2.1
  have hb := pileP_len hn.2.2.2.2.2.2
  have hA : ∀ x ∈ c.2.2.1, x ≠ 0 ∧ ∃ g, gaugeOf b x = some g := fun x hx => ⟨h.ok.ne x (by simp [hx]), h.pile x (by simp [hx])⟩
  have hB : ∀ x ∈ c.2.2.2.1, x ≠ 0 ∧ ∃ g, gaugeOf b x = some g := fun x hx => ⟨h.ok.ne x (by simp [hx]), h.pile x (by simp [hx])⟩
  unfold f_r5_Growth m_r5_Growth
  rw [Rone_ok (by omega) (by omega), bindF_some, Rgrows_ok hs h.ids hA, bindF_some, Rone_ok (by omega) (by omega), bindF_some, Rgrows_ok hs h.ids hB, bindF_some, RSub_ok h.ok.r1 h.ok.r2, bindF_some]
  try dsimp only
  rw [RScale_ok (heat := c.2.2.2.2.2.2) (sub_rat h.ok.r1 h.ok.r2) hn.2.2.2.2.1, bindF_some]
  rfl
theorem RFilms_ok {b : Book} {c : Cmp} (hA : c.2.2.1.length ≤ 1000) (hB : c.2.2.2.1.length ≤ 1000) (h1 : 0 ≤ b.1.1) (h2 : b.1.1 ≤ 1000000) (h3 : 0 ≤ b.1.2) (h4 : b.1.2 ≤ 1000000) : f_r5_Films b c = some (filmsP b c) := by
  unfold f_r5_Films m_r5_Films filmsP
  have e : ∀ n : Nat, imax 0 ((n : Int) - 1) = ((n - 1 : Nat) : Int) := by
    intro n
    unfold imax
    split <;> omega
  have bd : ∀ (n : Nat) (x : Int), n ≤ 1000 → 0 ≤ x → x ≤ 1000000 → 0 ≤ ((n - 1 : Nat) : Int) * x ∧ ((n - 1 : Nat) : Int) * x ≤ 1000000000 := by
    intro n x hn h0 hx
    refine ⟨Int.mul_nonneg (by omega) h0, ?_⟩
    have := Int.mul_le_mul (show ((n - 1 : Nat) : Int) ≤ 1000 by omega) hx h0 (by omega)
    omega
  have b1 := bd _ _ hA h1 h2
  have b2 := bd _ _ hA h3 h4
  have b3 := bd _ _ hB h1 h2
  have b4 := bd _ _ hB h3 h4
  simp only [ilen_eq]
  rw [ck_ok (by omega) (by omega), ck_ok (by omega) (by omega)]
  simp only [e]
  rw [ck_ok (by omega) (by omega), ck_ok (by omega) (by omega), ck_ok (by omega) (by omega), ck_ok (by omega) (by omega), ck_ok (by omega) (by omega), ck_ok (by omega) (by omega)]
theorem RSays_ok {b : Book} (hs : SizeOk b) (hf : 0 ≤ b.1.1 ∧ b.1.1 ≤ b.1.2 ∧ b.1.2 ≤ 1000000) {c : Cmp} (h : CmpIn b c) : f_r5_Says b c = some (saysP b c) := by
  have hn := (numsP_iff c).1 h.ok.nums
  have ha := pileP_len hn.2.2.2.2.2.1
  have hb := pileP_len hn.2.2.2.2.2.2
  obtain ⟨q1, q2, b1, b2, b3⟩ := shown_bounds hf h.ok
  have c1 := ceil_bound q1
  have c2 := floor_bound q2
  have fb := films_bound (b := b) (c := c) (by omega) (by omega) (by omega) (by omega) (by omega) (by omega)
  have hd := hn.2.2.1
  unfold f_r5_Says m_r5_Says saysP
  rw [RGrowth_ok hs h, bindF_some, RFilms_ok (by omega) (by omega) (by omega) (by omega) (by omega) (by omega), bindF_some, Rfloor_ok q2.rat, Rceil_ok q1.rat]
  simp only [bindF_some]
  rw [ck_ok (by omega) (by omega), ck_ok (by omega) (by omega), ck_ok (by omega) (by omega), ck_ok (by omega) (by omega), ck_ok (by omega) (by omega), ck_ok (by omega) (by omega)]
end Go.Proofs.ZzM
end

noncomputable section
namespace Go.Proofs.ZzM
open Go Go.Am
section
variable {b : Book}
theorem RLoss_ok (h : Good b) {id : Int} {g : Gauge} (hg : gaugeOf b id = some g) {f t : Int} (hf : 0 ≤ f ∧ f ≤ 100000) (ht : t ≤ 100000) : f_r5_Loss b id f t = some (lossP b g f t) := by
  have hG := h.nG
  have hU := h.nU
  have hL := h.nL
  obtain ⟨hgm, hid⟩ := gaugeOf_some hg
  unfold f_r5_Loss m_r5_Loss
  rw [RFind_ok (by omega), bindF_some]
  rcases find_gauge (b := b) (id := id) with ⟨j, g', h2, h3, h4⟩ | ⟨h2, h3⟩
  · rw [h2]
    have : g' = g := by rw [hg] at h4; exact (Option.some.inj h4).symm
    subst this
    try dsimp only
    rw [iget_nat h3]
    refine loop_inv (fun x : Int × Int => f ≤ x.2 ∧ (x.2 ≤ t ∨ x.2 = f) ∧ x.1 = lossP b g' f x.2) (fun x => (t - x.2).toNat) ?_ ⟨Int.le_refl _, .inr rfl, (loss_none g' (Int.le_refl _)).symm⟩
    rintro ⟨s, d⟩ ⟨hfd, hdt, hs⟩
    simp only at hfd hdt hs
    subst hs
    by_cases hd : d < t
    · refine .inr ⟨(lossP b g' f (d + 1), d + 1), ⟨by simp only; omega, .inl (by simp only; omega), rfl⟩, by simp only; omega, fun kn => ?_⟩
      have e := loss_step h g' hfd
      have lb := lossP_bound h hgm (f := f) (t := d) hf.1
      have lb2 := lossP_bound h hgm (f := f) (t := d + 1) hf.1
      unfold m_r5_Loss_L0
      rw [ifb_t (by simpa [ilt] using hd), RLent_ok (b := ((b.1.1, b.1.2), b.2.1, b.2.2.1, b.2.2.2.1, b.2.2.2.2.1, b.2.2.2.2.2)) (by simp only; omega), bindF_some]
      have e1 : awayP ((b.1.1, b.1.2), b.2.1, b.2.2.1, b.2.2.2.1, b.2.2.2.2.1, b.2.2.2.2.2) id d = awayP b id d := rfl
      rw [e1]
      unfold dayLoss at e
      rw [hid] at e
      cases ha : awayP b id d with
      | some l =>
        rw [ha] at e
        simp only at e
        rw [ifb_t rfl]
        try dsimp only
        rw [← e, ck_ok (by omega) (by omega), ck_ok (by omega) (by omega)]
      | none =>
        rw [ha] at e
        simp only at e
        rw [ifb_f rfl, RUsed_ok (b := ((b.1.1, b.1.2), b.2.1, b.2.2.1, b.2.2.2.1, b.2.2.2.2.1, b.2.2.2.2.2)) (by simp only; omega), bindF_some]
        have e2 : usedP ((b.1.1, b.1.2), b.2.1, b.2.2.1, b.2.2.2.1, b.2.2.2.2.1, b.2.2.2.2.2) id d = usedP b id d := rfl
        rw [e2]
        cases hu : usedP b id d with
        | true =>
          rw [hu, if_pos rfl] at e
          rw [ifb_t rfl]
          try dsimp only
          rw [← e, ck_ok (by omega) (by omega), ck_ok (by omega) (by omega)]
        | false =>
          rw [hu, if_neg (by simp)] at e
          rw [ifb_f rfl, ck_ok (by omega) (by omega), e, Int.add_zero]
    · refine .inl fun kn => ?_
      unfold m_r5_Loss_L0
      rw [ifb_f (by simpa [ilt] using hd)]
      have : lossP b g' f d = lossP b g' f t := by
        rcases Int.lt_or_le t f with hlt | hge
        · have : d = f := by omega
          rw [this, loss_none g' (Int.le_refl _), loss_none g' (by omega)]
        · have : d = t := by omega
          rw [this]
      rw [this]
  · rw [h3] at hg; cases hg
end
end Go.Proofs.ZzM
end

noncomputable section
namespace Go.Proofs.ZzM
open Go Go.Am
def idxP (b : Book) (x d : Int) : Int := match nodeIdx (nodesP b) x d with | some j => (j : Int) + 1 | none => 0
theorem RIndex_ok {b : Book} (h : Pre b) (n : Int × Int) : f_r5_Index b n = some (idxP b n.1 n.2) := by
  have hl := nodesP_len h.size
  unfold f_r5_Index m_r5_Index
  rw [RNodes_ok h, bindF_some]
  refine Eq.trans (loop_find (nodesP b) (fun m => decide (n.1 = m.1) && decide (n.2 = m.2)) (fun z => some (z + 1)) (some 0) (fun i a hi ha kn => ?_) (fun kn => ?_)) ?_
  · try dsimp only
    unfold m_r5_Index_L0
    rw [ifb_lt' hi, iget_nat ha, ck_succ hi (by omega), ck_succ hi (by omega), ifb_eq, Bool.and_true]
    have e : (dieq a.1 n.1 && dieq a.2 n.2) = (decide (n.1 = a.1) && decide (n.2 = a.2)) := by
      rw [Bool.eq_iff_iff]
      simp only [dieq, Bool.and_eq_true, decide_eq_true_eq]
      exact and_congr eq_comm eq_comm
    rw [e]
  · try dsimp only
    unfold m_r5_Index_L0
    rw [ifb_ge]
  · unfold idxP nodeIdx
    cases List.findIdx? (fun m => decide (n.1 = m.1) && decide (n.2 = m.2)) (nodesP b) <;> rfl
theorem idx_one {b : Book} (h : Pre b) (p q : List Int) (d : Int) : idxP b (oneP p q) d = atP (nodesP b) (leftP p q) d := by
  unfold idxP atP oneP
  cases hl : leftP p q with
  | nil =>
    simp only [List.head?_nil, Option.getD_none]
    have : nodeIdx (nodesP b) 0 d = none := by
      unfold nodeIdx
      rw [List.findIdx?_eq_none_iff]
      intro n hn
      obtain ⟨g, hg, hn⟩ := List.mem_flatMap.1 hn
      obtain ⟨e, _, rfl⟩ := List.mem_map.1 hn
      have := ((gaugeP_iff g).1 (h.gauge g hg)).2.2.2.1
      have : ¬ ((0 : Int) = g.1) := by omega
      simp [this]
    rw [this]
  | cons x t => rfl
section
variable {b : Book}
theorem node_at' {k : Nat} (hk : k < (nodesP b).length) : ∃ (i : Nat) (g : Gauge) (j : Nat) (d : Int), b.2.1[i]? = some g ∧ (daysP b g)[j]? = some d ∧ k = off b i + j ∧ (nodesP b)[k]? = some (g.1, d) := by
  obtain ⟨i, g, j, h1, h2, h3⟩ := off_find (b := b) b.2.1.length (Nat.le_refl _) k (by rw [off_all]; exact hk)
  have hd : (daysP b g)[j]? = some (daysP b g)[j] := List.getElem?_eq_getElem h2
  exact ⟨i, g, j, _, h1, hd, h3, by rw [h3]; exact node_get h1 hd⟩
theorem same_gauge (h : Good b) {i j : Nat} {g g' : Gauge} (hi : b.2.1[i]? = some g) (hj : b.2.1[j]? = some g') (he : g.1 = g'.1) : i = j ∧ g = g' := by
  obtain ⟨h1, rfl⟩ := List.getElem?_eq_some_iff.1 hi
  obtain ⟨h2, rfl⟩ := List.getElem?_eq_some_iff.1 hj
  have hp := List.pairwise_iff_getElem.1 h.ids
  rcases Nat.lt_trichotomy i j with hlt | rfl | hlt
  · have := hp i j h1 h2 hlt; omega
  · exact ⟨rfl, rfl⟩
  · have := hp j i h2 h1 hlt; omega
def gLinks (b : Book) (i : Nat) (g : Gauge) (k : Nat) : List Lk :=
  if k ≤ off b i then [] else [(0, (off b i : Int) + 1, g.2.2.1 + g.2.2.2.1.2), ((off b i : Int) + 1, 0, -(g.2.2.1 + g.2.2.2.1.1))] ++
    (List.range (min (k - off b i - 1) ((daysP b g).length - 1))).flatMap fun (k : Nat) => [((off b i : Int) + 1 + k, (off b i : Int) + 1 + k + 1, 0), ((off b i : Int) + 1 + k + 1, (off b i : Int) + 1 + k, lossP b g ((daysP b g)[k]?.getD 0) ((daysP b g)[k + 1]?.getD 0))]
def gSources (b : Book) (i : Nat) (g : Gauge) (k : Nat) : List (Int × Int) :=
  if k ≤ off b i then [] else [(1, (i : Int)), (1, (i : Int))] ++ (List.range (min (k - off b i - 1) ((daysP b g).length - 1))).flatMap fun _ => [(2, (i : Int)), (2, (i : Int))]
theorem gLinks_all (h : Good b) {i : Nat} {g : Gauge} (hg : b.2.1[i]? = some g) : gLinks b i g (nodesP b).length = gaugeLinks b g ∧ gSources b i g (nodesP b).length = gaugeSources b i g := by
  have ho := off_len h hg
  have hp := List.length_pos_of_mem (daysP_ne (b := b) g)
  have e : min ((nodesP b).length - off b i - 1) ((daysP b g).length - 1) = (daysP b g).length - 1 := by omega
  unfold gLinks gSources gaugeLinks gaugeSources
  rw [if_neg (by omega), if_neg (by omega), e, at_gauge h hg]
  exact ⟨rfl, rfl⟩
theorem gLinks_other {i : Nat} {g : Gauge} {k : Nat} (hk : k < off b i ∨ off b i + (daysP b g).length ≤ k) (hp : 0 < (daysP b g).length) : gLinks b i g (k + 1) = gLinks b i g k ∧ gSources b i g (k + 1) = gSources b i g k := by
  unfold gLinks gSources
  rcases hk with hk | hk
  · rw [if_pos (by omega), if_pos (by omega), if_pos (by omega), if_pos (by omega)]
    exact ⟨rfl, rfl⟩
  · have e : min (k + 1 - off b i - 1) ((daysP b g).length - 1) = min (k - off b i - 1) ((daysP b g).length - 1) := by omega
    rw [if_neg (by omega), if_neg (by omega), if_neg (by omega), if_neg (by omega), e]
    exact ⟨rfl, rfl⟩
theorem gLinks_first {i : Nat} {g : Gauge} : gLinks b i g (off b i + 1) = gLinks b i g (off b i) ++ [(0, (off b i : Int) + 1, g.2.2.1 + g.2.2.2.1.2), ((off b i : Int) + 1, 0, -(g.2.2.1 + g.2.2.2.1.1))] ∧ gSources b i g (off b i + 1) = gSources b i g (off b i) ++ [(1, (i : Int)), (1, (i : Int))] := by
  unfold gLinks gSources
  rw [if_neg (by omega), if_pos (Nat.le_refl _), if_neg (by omega), if_pos (Nat.le_refl _), show off b i + 1 - off b i - 1 = 0 by omega, Nat.zero_min]
  exact ⟨by simp, by simp⟩
theorem gLinks_next {i : Nat} {g : Gauge} {j : Nat} (hj : j + 1 < (daysP b g).length) : gLinks b i g (off b i + (j + 1) + 1) = gLinks b i g (off b i + (j + 1)) ++ [((off b i : Int) + 1 + j, (off b i : Int) + 1 + j + 1, 0), ((off b i : Int) + 1 + j + 1, (off b i : Int) + 1 + j, lossP b g ((daysP b g)[j]?.getD 0) ((daysP b g)[j + 1]?.getD 0))] ∧
    gSources b i g (off b i + (j + 1) + 1) = gSources b i g (off b i + (j + 1)) ++ [(2, (i : Int)), (2, (i : Int))] := by
  unfold gLinks gSources
  rw [if_neg (by omega), if_neg (by omega), if_neg (by omega), if_neg (by omega), show min (off b i + (j + 1) + 1 - off b i - 1) ((daysP b g).length - 1) = j + 1 by omega, show min (off b i + (j + 1) - off b i - 1) ((daysP b g).length - 1) = j by omega, range_flat, range_flat]
  exact ⟨by simp, by simp⟩
theorem gLinks_len (i : Nat) (g : Gauge) (k : Nat) (hd : (daysP b g).length ≤ 59) : (gLinks b i g k).length ≤ 120 ∧ (gSources b i g k).length ≤ 120 := by
  unfold gLinks gSources
  constructor
  · split
    · simp
    · rw [List.length_append, sources_len _ _ (fun _ => rfl)]
      simp only [List.length_cons, List.length_nil]; omega
  · split
    · simp
    · rw [List.length_append, sources_len _ _ (fun _ => rfl)]
      simp only [List.length_cons, List.length_nil]; omega
set_option maxHeartbeats 1000000 in
theorem tie_gauge (h : Good b) {i : Nat} {g : Gauge} (hg : b.2.1[i]? = some g) {L : List Lk} {S : List (Int × Int)} (hL : L.length ≤ 100000) (hS : S.length ≤ 100000) (K : List Lk × List (Int × Int) → Option (List Lk × List (Int × Int))) :
    loopT (fun (v21 : Int × List Lk × List (Int × Int)) kk25 => m_r5_Tie_L1 (nodesP b) (i : Int) b.1.1 b.1.2 b.2.1 b.2.2.1 b.2.2.2.1 b.2.2.2.2.1 b.2.2.2.2.2 g.1 g.2.1 g.2.2.1 g.2.2.2.1.1 g.2.2.2.1.2 v21.1 v21.2.1 v21.2.2 (fun u22 u23 u24 => kk25 (u22, u23, u24)) K) ((0 : Int), L, S) = K (L ++ gaugeLinks b g, S ++ gaugeSources b i g) := by
  have hN := h.nodes
  have hgm := List.mem_of_getElem? hg
  have hdl := days_len h hgm
  have hp := List.length_pos_of_mem (daysP_ne (b := b) g)
  have hr := h.gaugeR hgm
  have r1 := hr.2.2.2.2.2.1
  have r2 := hr.2.2.2.2.2.2.1
  obtain ⟨tl, htl⟩ := days_head h hgm
  refine loop_acc (nodesP b) (fun k => (L ++ gLinks b i g k, S ++ gSources b i g k)) _ (by simp [gLinks, gSources]) (fun k n hk hn kn => ?_) (fun kn => ?_)
  · try dsimp only
    unfold m_r5_Tie_L1
    have gl := gLinks_len (b := b) i g k hdl
    rw [ifb_lt' hk, iget_nat hn]
    obtain ⟨i', g', j, d, h1, h2, h3, h4⟩ := node_at' hk
    have hnd : n = (g'.1, d) := by rw [hn] at h4; exact Option.some.inj h4
    by_cases hsame : n.1 = g.1
    · obtain ⟨hi', hgg⟩ := same_gauge h h1 hg (by rw [hnd] at hsame; exact hsame)
      subst hgg
      have hin : i' = i := hi'
      rw [hin] at h3 h1
      rw [ifb_f (by simp [ine, hsame]), iget_nat hn]
      have hdn : n.2 = d := by rw [hnd]
      rw [hdn]
      cases j with
      | zero =>
        have hdd : d = g'.2.1 := by rw [htl] at h2; simpa using h2.symm
        have hk0 : k = off b i := by omega
        rw [ifb_t (by simp [ieq, hdd])]
        obtain ⟨e1, e2⟩ := gLinks_first (b := b) (i := i) (g := g')
        rw [← hk0] at e1 e2
        rw [ck_succ hk (by omega), ck_ok (by omega) (by omega), ck_succ hk (by omega), ck_ok (by omega) (by omega), ck_ok (by omega) (by omega), okLen_of (by simp only [List.length_append, List.length_cons, List.length_nil]; omega), Am.iff_true, okLen_of (by simp only [List.length_append, List.length_cons, List.length_nil]; omega), Am.iff_true, ck_succ hk (by omega), e1, e2]
        have e3 : 0 - g'.2.2.1 - g'.2.2.2.1.1 = -(g'.2.2.1 + g'.2.2.2.1.1) := by omega
        rw [e3]
        simp only [List.append_assoc]
      | succ j =>
        have hjl := (List.getElem?_eq_some_iff.1 h2).1
        have hdd : d ≠ g'.2.1 := by
          have hp1 := days_lt b g'
          rw [htl] at h2 hp1
          rw [List.getElem?_cons_succ] at h2
          have := (List.pairwise_cons.1 hp1).1 d (List.mem_of_getElem? h2)
          omega
        rw [ifb_f (by simpa [ieq] using hdd)]
        have hprev : (daysP b g')[j]? = some ((daysP b g')[j]?.getD 0) := by rw [List.getElem?_eq_getElem (by omega)]; rfl
        have hd' : d = (daysP b g')[j + 1]?.getD 0 := by rw [h2]; rfl
        have hpn := node_get h1 hprev
        have d1 := h.day hgm (List.mem_of_getElem? hprev)
        have d2 := h.day hgm (List.mem_of_getElem? h2)
        have hk0 : k = off b i + (j + 1) := h3
        obtain ⟨e1, e2⟩ := gLinks_next (b := b) (i := i) (g := g') hjl
        rw [← hk0] at e1 e2
        have hkm : ((k : Int) - 1) = ((off b i + j : Nat) : Int) := by omega
        have lb := lossP_bound h hgm (t := d) d1.2.1
        rw [ck_pred (by omega) (by omega), hkm, iget_nat hpn, iget_nat hn, hdn]
        try dsimp only
        rw [show f_r5_Loss ((b.1.1, b.1.2), b.2.1, b.2.2.1, b.2.2.2.1, b.2.2.2.2.1, b.2.2.2.2.2) g'.1 ((daysP b g')[j]?.getD 0) d = f_r5_Loss b g'.1 ((daysP b g')[j]?.getD 0) d from rfl, RLoss_ok h (gaugeOf_mem h.ids hgm) ⟨by omega, by omega⟩ (by omega), bindF_some, ck_succ hk (by omega), ck_succ hk (by omega), okLen_of (by simp only [List.length_append, List.length_cons, List.length_nil]; omega), Am.iff_true, okLen_of (by simp only [List.length_append, List.length_cons, List.length_nil]; omega), Am.iff_true, ck_succ hk (by omega), e1, e2, ← hd']
        have e3 : (off b i : Int) + 1 + (j : Int) = (k : Int) := by omega
        rw [e3]
        simp only [List.append_assoc]
    · rw [ifb_t (by simp [ine, hsame]), ck_succ hk (by omega)]
      have hout : k < off b i ∨ off b i + (daysP b g).length ≤ k := by
        rcases Nat.lt_or_ge k (off b i) with hlt | hge
        · exact .inl hlt
        · rcases Nat.lt_or_ge k (off b i + (daysP b g).length) with hlt2 | hge2
          · have := node_get hg (k := k - off b i) (List.getElem?_eq_getElem (by omega))
            rw [show off b i + (k - off b i) = k by omega, hn] at this
            exact absurd (by rw [Option.some.inj this]) hsame
          · exact .inr hge2
      obtain ⟨e1, e2⟩ := gLinks_other hout hp
      rw [e1, e2]
  · try dsimp only
    unfold m_r5_Tie_L1
    rw [ifb_ge]
    obtain ⟨e1, e2⟩ := gLinks_all h hg
    rw [e1, e2]
end
end Go.Proofs.ZzM
end

noncomputable section
namespace Go.Proofs.ZzM
open Go Go.Am
theorem firstO_at {α β : Type} {e : Nat → α → Option β} : ∀ {l : List α} {k i : Nat} {a : α} {b : β}, (∀ j c, j < i → l[j]? = some c → e (k + j) c = none) → l[i]? = some a → e (k + i) a = some b → firstO e k l = some b
  | [], _, _, _, _, _, ha, _ => by simp at ha
  | c :: t, k, 0, a, b, _, ha, hb => by
    simp only [List.getElem?_cons_zero, Option.some.injEq] at ha
    subst ha
    unfold firstO
    rw [Nat.add_zero] at hb
    rw [hb]
  | c :: t, k, i + 1, a, b, h, ha, hb => by
    unfold firstO
    have h0 := h 0 c (by omega) rfl
    rw [Nat.add_zero] at h0
    rw [h0]
    refine firstO_at (i := i) (fun j d hj hd => ?_) (by simpa using ha) (by rw [← hb]; congr 1; omega)
    have := h (j + 1) d (by omega) (by simpa using hd)
    rw [← this]
    congr 1
    omega
theorem loop_first' {ρ α β : Type} (l : List α) (e : Nat → α → Option β) (k0 : β → Option ρ) (k1 : Option ρ) {f : Int → (Int → Option ρ) → Option ρ}
    (h : ∀ (i : Nat) (a : α), i < l.length → l[i]? = some a → ∀ kn, f i kn = match e i a with | some b => k0 b | none => kn ((i : Int) + 1))
    (hn : (∀ j a, l[j]? = some a → e j a = none) → ∀ kn, f l.length kn = k1) : loopT f 0 = match firstO e 0 l with | some b => k0 b | none => k1 := by
  refine loop_inv (fun x : Int => ∃ i : Nat, i ≤ l.length ∧ x = i ∧ ∀ j a, j < i → l[j]? = some a → e j a = none) (fun x => l.length - x.toNat) ?_ ⟨0, by omega, rfl, fun j a hj => by omega⟩
  rintro x ⟨i, hi, rfl, hp⟩
  rcases Nat.lt_or_ge i l.length with hlt | hge
  · have ha : l[i]? = some l[i] := List.getElem?_eq_getElem hlt
    cases hc : e i l[i] with
    | some b =>
      refine .inl fun kn => ?_
      rw [h i _ hlt ha, hc, firstO_at (k := 0) (b := b) (fun j c hj hc => by rw [Nat.zero_add]; exact hp j c hj hc) ha (by rw [Nat.zero_add]; exact hc)]
    | none =>
      refine .inr ⟨((i + 1 : Nat) : Int), ⟨i + 1, hlt, rfl, fun j a hj hja => ?_⟩, by simp only [Int.toNat_natCast]; omega, fun kn => ?_⟩
      · rcases Nat.lt_or_ge j i with h1 | h1
        · exact hp j a h1 hja
        · have : j = i := by omega
          subst this
          rw [ha] at hja
          rw [← Option.some.inj hja]; exact hc
      · rw [h i _ hlt ha, hc]
        simp
  · have : i = l.length := by omega
    subst this
    refine .inl fun kn => ?_
    have hall : ∀ j a, l[j]? = some a → e j a = none := fun j a hja => hp j a (List.getElem?_eq_some_iff.1 hja).1 hja
    rw [hn hall kn, firstO_none.2 fun j a hja => by rw [Nat.zero_add]; exact hall j a hja]
theorem errO_none {e : Int} : errO e = none ↔ e = 0 := by
  unfold errO
  split <;> simp_all
section
variable {b : Book}
theorem gLinks_sum (h : Good b) : ∀ i, ((b.2.1.take i).flatMap (gaugeLinks b)).length ≤ 1440 ∧ (((b.2.1.take i).mapIdx (gaugeSources b)).flatten).length ≤ 1440 := by
  have hG := h.nG
  have gl : ∀ g ∈ b.2.1, (gaugeLinks b g).length ≤ 120 ∧ ∀ i, (gaugeSources b i g).length ≤ 120 := by
    intro g hg
    have := days_len h hg
    constructor
    · unfold gaugeLinks
      rw [List.length_append, sources_len _ _ (fun _ => rfl)]
      simp only [List.length_cons, List.length_nil]; omega
    · intro i
      unfold gaugeSources
      rw [List.length_append, sources_len _ _ (fun _ => rfl)]
      simp only [List.length_cons, List.length_nil]; omega
  have key : ∀ i, i ≤ b.2.1.length → ((b.2.1.take i).flatMap (gaugeLinks b)).length ≤ i * 120 ∧ (((b.2.1.take i).mapIdx (gaugeSources b)).flatten).length ≤ i * 120 := by
    intro i
    induction i with
    | zero => intro _; simp
    | succ i ih =>
      intro hi
      have ih := ih (by omega)
      have hg : b.2.1[i]? = some b.2.1[i] := List.getElem?_eq_getElem hi
      have h2 := gl _ (List.mem_of_getElem? hg)
      have h3 := h2.2 i
      rw [mapIdx_take _ hg, take_succ hg, List.flatMap_append, List.flatten_append, List.length_append, List.length_append]
      simp only [List.flatMap_cons, List.flatMap_nil, List.append_nil, List.flatten_cons, List.flatten_nil]
      omega
  intro i
  rcases Nat.lt_or_ge b.2.1.length i with h1 | h1
  · rw [List.take_of_length_le (by omega)]
    have := key b.2.1.length (Nat.le_refl _)
    rw [List.take_length] at this
    omega
  · have := key i h1
    omega
theorem cLinks_sum : ∀ i, i ≤ b.2.2.2.2.1.length → ((b.2.2.2.2.1.take i).flatMap (compareLinks b)).length = 2 * i ∧ (((b.2.2.2.2.1.take i).mapIdx fun i _ => [((3 : Int), (i : Int)), ((3 : Int), (i : Int))]).flatten).length = 2 * i := by
  intro i
  induction i with
  | zero => intro _; simp
  | succ i ih =>
    intro hi
    have ih := ih (by omega)
    have hg : b.2.2.2.2.1[i]? = some b.2.2.2.2.1[i] := List.getElem?_eq_getElem hi
    rw [mapIdx_take _ hg, take_succ hg, List.flatMap_append, List.flatten_append, List.length_append, List.length_append]
    simp only [List.flatMap_cons, List.flatMap_nil, List.append_nil, List.flatten_cons, List.flatten_nil, compareLinks, List.length_cons, List.length_nil]
    omega
set_option maxHeartbeats 1000000 in
theorem RTie_ok (h : Good b) : f_r5_Tie b = some (linksP b, sourcesP b) := by
  have hC := h.nC
  have hG := h.nG
  unfold f_r5_Tie m_r5_Tie
  rw [RNodes_ok h.pre, bindF_some]
  refine loop_acc b.2.1 (fun i => ((b.2.1.take i).flatMap (gaugeLinks b), ((b.2.1.take i).mapIdx (gaugeSources b)).flatten)) _ rfl (fun i g hi hg kn => ?_) (fun kn => ?_)
  · try dsimp only
    unfold m_r5_Tie_L0
    have hls := gLinks_sum h i
    rw [ifb_lt' hi, iget_nat hg]
    refine Eq.trans (tie_gauge h hg (by omega) (by omega) _) ?_
    rw [ck_succ hi (by omega), mapIdx_take _ hg, take_succ hg, List.flatMap_append, List.flatten_append]
    simp only [List.flatMap_cons, List.flatMap_nil, List.append_nil, List.flatten_cons, List.flatten_nil]
  · try dsimp only
    unfold m_r5_Tie_L0
    rw [ifb_ge, List.take_length]
    dsimp only
    have hls := gLinks_sum h b.2.1.length
    rw [List.take_length] at hls
    refine loop_acc b.2.2.2.2.1 (fun i => (b.2.1.flatMap (gaugeLinks b) ++ (b.2.2.2.2.1.take i).flatMap (compareLinks b), (b.2.1.mapIdx (gaugeSources b)).flatten ++ ((b.2.2.2.2.1.take i).mapIdx fun i _ => [((3 : Int), (i : Int)), ((3 : Int), (i : Int))]).flatten)) _ (by simp) (fun i c hi hc kn => ?_) (fun kn => ?_)
    · try dsimp only
      unfold m_r5_Tie_L2
      have hcm := List.mem_of_getElem? hc
      have hn := (numsP_iff c).1 (h.nums hcm)
      have ha := pileP_len hn.2.2.2.2.2.1
      have hb := pileP_len hn.2.2.2.2.2.2
      have hcl := cLinks_sum (b := b) i (by omega)
      have sb := saysP_bound h hcm
      rw [ifb_lt' hi, iget_nat hc, Rone_ok (by omega) (by omega), bindF_some]
      rw [show f_r5_Index ((b.1.1, b.1.2), b.2.1, b.2.2.1, b.2.2.2.1, b.2.2.2.2.1, b.2.2.2.2.2) (oneP c.2.2.1 c.2.2.2.1, c.2.1) = f_r5_Index b (oneP c.2.2.1 c.2.2.2.1, c.2.1) from rfl, RIndex_ok h.pre, bindF_some, Rone_ok (by omega) (by omega), bindF_some]
      rw [show f_r5_Index ((b.1.1, b.1.2), b.2.1, b.2.2.1, b.2.2.2.1, b.2.2.2.2.1, b.2.2.2.2.2) (oneP c.2.2.2.1 c.2.2.1, c.2.1) = f_r5_Index b (oneP c.2.2.2.1 c.2.2.1, c.2.1) from rfl, RIndex_ok h.pre, bindF_some]
      rw [show f_r5_Says ((b.1.1, b.1.2), b.2.1, b.2.2.1, b.2.2.2.1, b.2.2.2.2.1, b.2.2.2.2.2) c = f_r5_Says b c from rfl, RSays_ok h.size h.film (h.cmpIn hcm), bindF_some]
      rw [ck_ok (by omega) (by omega), okLen_of (by simp only [List.length_append, List.length_cons, List.length_nil]; omega), Am.iff_true, okLen_of (by simp only [List.length_append, List.length_cons, List.length_nil]; omega), Am.iff_true, ck_succ hi (by omega)]
      rw [mapIdx_take _ hc, take_succ hc, List.flatMap_append, List.flatten_append, idx_one h.pre, idx_one h.pre]
      simp only [List.flatMap_cons, List.flatMap_nil, List.append_nil, List.flatten_cons, List.flatten_nil, List.append_assoc]
      rw [Int.zero_sub]
      rfl
    · try dsimp only
      unfold m_r5_Tie_L2
      rw [ifb_ge, List.take_length]
      rfl
def compareQ (b : Book) (i : Nat) (c : Cmp) : Int := if !numsP c then 1 else if (b.2.2.2.2.1.take i).any (fun x => x.1 == c.1) then 6 else pilesQ b c
theorem compareQ_E (hi : b.2.1.Pairwise fun a b => a.1 < b.1) (i : Nat) (c : Cmp) : compareQ b i c = compareE b (shelf b) i c := by
  unfold compareQ compareE
  rw [pilesQ_E hi]
def tailQ (b : Book) : Int := match (b.2.2.2.2.1.mapIdx (compareQ b)).find? (fun e => e != 0) with
  | some e => e
  | none => match (b.2.2.2.2.2.map (useP b)).find? (fun e => e != 0) with
    | some e => e
    | none => if 59 < (nodesP b).length then 2 else if 300 < 2 * b.2.1.length + 2 * ((nodesP b).length - b.2.1.length : Int) + 2 * b.2.2.2.2.1.length then 2 else 0
theorem find_none {α : Type} {l : List α} {E : α → Int} (h : (l.map E).find? (fun e => e != 0) = none) : ∀ a ∈ l, E a = 0 := by
  intro a ha
  have := List.find?_eq_none.1 h (E a) (List.mem_map.2 ⟨a, ha, rfl⟩)
  simpa using this
theorem find_noneI {α : Type} {l : List α} {E : Nat → α → Int} (h : (l.mapIdx E).find? (fun e => e != 0) = none) : ∀ i a, l[i]? = some a → E i a = 0 := by
  intro i a ha
  obtain ⟨hi, rfl⟩ := List.getElem?_eq_some_iff.1 ha
  have := List.find?_eq_none.1 h (E i l[i]) (List.mem_mapIdx.2 ⟨i, hi, rfl⟩)
  simpa using this
theorem compareQ_zero {i : Nat} {c : Cmp} (h : compareQ b i c = 0) : numsP c = true ∧ (leftP c.2.2.1 c.2.2.2.1).length ≤ 1 ∧ (leftP c.2.2.2.1 c.2.2.1).length ≤ 1 := by
  unfold compareQ at h
  split at h
  · omega
  rename_i h1
  split at h
  · omega
  unfold pilesQ at h
  (repeat' split at h) <;> first | omega | exact ⟨by simpa using h1, by omega, by omega⟩
set_option maxHeartbeats 4000000 in
theorem tail_ok (hs : SizeOk b) (hfilm : 0 ≤ b.1.1 ∧ b.1.1 ≤ b.1.2 ∧ b.1.2 ≤ 1000000) (nG : b.2.1.length ≤ 12) (nU : b.2.2.1.length ≤ 40) (nL : b.2.2.2.1.length ≤ 12) (nC : b.2.2.2.2.1.length ≤ 40) (nK : b.2.2.2.2.2.length ≤ 10)
    (hg : ∀ g ∈ b.2.1, gaugeP g = true) (hi : b.2.1.Pairwise fun a b => a.1 < b.1) (hu : ∀ u ∈ b.2.2.1, useP b u = 0) (hl : ∀ i l, b.2.2.2.1[i]? = some l → loanQ b i l = 0) :
    loopT (fun (v41 : Int) kk43 => m_r5_Check_L1 b.1.1 b.1.2 b.2.1 b.2.2.1 b.2.2.2.1 b.2.2.2.2.1 b.2.2.2.2.2 v41 (fun u42 => kk43 u42) (fun z26 => some z26) (fun _ => loopT (fun (v38 : Int) kk40 => m_r5_Check_L3 b.1.1 b.1.2 b.2.1 b.2.2.1 b.2.2.2.1 b.2.2.2.2.1 b.2.2.2.2.2 v38 (fun u39 => kk40 u39) (fun z34 => some z34) (fun _ => bindF (f_r5_Nodes b) fun r36 => ifb (igt (ilen r36) (59 : Int)) (some (2 : Int)) (bindF (f_r5_Tie b) fun r37 => ifb (igt (ilen r37.1) (300 : Int)) (some (2 : Int)) (some (0 : Int))))) (0 : Int))) (0 : Int) = some (tailQ b) := by
  unfold tailQ
  refine Eq.trans (loop_first' b.2.2.2.2.1 (fun i c => errO (compareQ b i c)) some (some (match (b.2.2.2.2.2.map (useP b)).find? (fun e => e != 0) with
      | some e => e
      | none => if 59 < (nodesP b).length then 2 else if 300 < 2 * b.2.1.length + 2 * ((nodesP b).length - b.2.1.length : Int) + 2 * b.2.2.2.2.1.length then 2 else 0)) (fun i c hci hc kn => ?_) (fun hcz kn => ?_)) ?_
  · try dsimp only
    unfold m_r5_Check_L1
    have hp := hs.piles c (List.mem_of_getElem? hc)
    rw [ifb_lt' hci, iget_nat hc, Rplain_ok (by omega) (by omega), bindF_some]
    unfold compareQ errO
    cases numsP c with
    | false => rfl
    | true =>
      rw [ifb_f (by rfl)]
      have hl9 : (b.2.2.2.2.1.take i).length = i := by rw [List.length_take]; omega
      refine Eq.trans (loop_any (b.2.2.2.2.1.take i) (fun x => x.1 == c.1) (fun _ => some 6) (some 6) (if pilesQ b c = 0 then kn ((i : Int) + 1) else some (pilesQ b c)) (fun _ => rfl) (fun j a hj ha kn' => ?_) (fun kn' => ?_)) ?_
      · try dsimp only
        unfold m_r5_Check_L2
        rw [hl9] at hj
        have ha' : b.2.2.2.2.1[j]? = some a := by rwa [List.getElem?_take_of_lt hj] at ha
        rw [ifb_t (show ilt (j : Int) (i : Int) = true by simp [ilt]; omega), iget_nat ha', iget_nat hc, ck_succ hj (by omega), ifb_eq]
      · try dsimp only
        unfold m_r5_Check_L2
        rw [hl9, ifb_f (show ilt (i : Int) (i : Int) = false by simp [ilt])]
        dsimp only
        rw [iget_nat hc, show f_r5_compared ((b.1.1, b.1.2), b.2.1, b.2.2.1, b.2.2.2.1, b.2.2.2.2.1, b.2.2.2.2.2) c = f_r5_compared b c from rfl, Rcompared_ok hs hp.1 hp.2, bindF_some, ck_succ hci (by omega)]
        by_cases hz : pilesQ b c = 0
        · rw [ifb_f (by simp [ine, hz]), if_pos hz]
        · rw [ifb_t (by simp [ine, hz]), if_neg hz]
      · cases hany : (b.2.2.2.2.1.take i).any (fun x => x.1 == c.1) with
        | true => simp
        | false =>
          by_cases hz : pilesQ b c = 0
          · simp [hz]
          · simp [hz]
  · try dsimp only
    unfold m_r5_Check_L1
    rw [ifb_ge]
    dsimp only
    have hcz' : ∀ i c, b.2.2.2.2.1[i]? = some c → compareQ b i c = 0 := fun i c hc => errO_none.1 (hcz i c hc)
    refine Eq.trans (loop_first' b.2.2.2.2.2 (fun _ u => errO (useP b u)) some (some (if 59 < (nodesP b).length then 2 else if 300 < 2 * b.2.1.length + 2 * ((nodesP b).length - b.2.1.length : Int) + 2 * b.2.2.2.2.1.length then 2 else 0)) (fun i a hia ha kn' => ?_) (fun hlz kn' => ?_)) ?_
    · try dsimp only
      unfold m_r5_Check_L3
      rw [ifb_lt' hia, iget_nat ha, RDay_ok, bindF_some]
      unfold useP errO
      cases dayP a.2 with
      | false => rfl
      | true =>
        rw [ifb_f (by rfl), iget_nat ha, iget_nat ha, RSince_ok (b := ((b.1.1, b.1.2), b.2.1, b.2.2.1, b.2.2.2.1, b.2.2.2.2.1, b.2.2.2.2.2)) (by simp only; omega), bindF_some, ck_succ hia (by omega)]
        have e : sinceP ((b.1.1, b.1.2), b.2.1, b.2.2.1, b.2.2.2.1, b.2.2.2.2.1, b.2.2.2.2.2) a.1 a.2 = sinceP b a.1 a.2 := rfl
        rw [e]
        by_cases hz : sinceP b a.1 a.2 = 0
        · rw [ifb_f (by simp [ine, hz])]; simp [hz]
        · rw [ifb_t (by simp [ine, hz])]; simp [hz]
    · try dsimp only
      unfold m_r5_Check_L3
      rw [ifb_ge]
      dsimp only
      have hlz' : ∀ u ∈ b.2.2.2.2.2, useP b u = 0 := fun u hum => by
        obtain ⟨j, hj, rfl⟩ := List.mem_iff_getElem.1 hum
        exact errO_none.1 (hlz j _ (List.getElem?_eq_getElem hj))
      have pre : Pre b := ⟨hs, hg, fun c hc => by
        obtain ⟨j, hj, rfl⟩ := List.mem_iff_getElem.1 hc
        have q := compareQ_zero (hcz' j _ (List.getElem?_eq_getElem hj))
        exact ⟨numsP_day q.1, q.2⟩, fun n hn => by
        have := hlz' n hn
        unfold useP at this
        split at this
        · omega
        · rename_i hd; simpa using hd⟩
      rw [RNodes_ok pre, bindF_some, ilen_eq]
      by_cases h59 : 59 < (nodesP b).length
      · rw [ifb_t (by simp [igt]; omega), if_pos h59]
      · rw [ifb_f (by simp [igt]; omega), if_neg h59]
        have good : Good b := ⟨hfilm, nG, nU, nL, nC, nK, hg, hi, fun u hum => by rw [← useP_E hi]; exact hu u hum, fun i l hil => by rw [← loanQ_E hi]; exact hl i l hil, fun i c hic => by rw [← compareQ_E hi]; exact hcz' i c hic, fun u hum => by rw [← useP_E hi]; exact hlz' u hum, by omega, by omega⟩
        have hll := links_len good
        rw [RTie_ok good, bindF_some, ilen_eq]
        dsimp only
        rw [hll, ifb_f (by simp [igt]; omega), if_neg (by omega)]
    · rw [first_errs']
      cases (b.2.2.2.2.2.map (useP b)).find? (fun e => e != 0) <;> rfl
  · rw [first_errs0 (compareQ b)]
    cases (b.2.2.2.2.1.mapIdx (compareQ b)).find? (fun e => e != 0) <;> rfl
end
end Go.Proofs.ZzM
end

noncomputable section
namespace Go.Proofs.ZzM
open Go Go.Am
theorem find_app {l m : List Int} : (l ++ m).find? (fun e => e != 0) = match l.find? (fun e => e != 0) with | some e => some e | none => m.find? (fun e => e != 0) := by
  rw [List.find?_append]
  cases l.find? (fun e => e != 0) <;> rfl
set_option maxHeartbeats 4000000 in
theorem RCheck_ok {b : Book} (hs : SizeOk b) : f_r5_Check b = some (checkP b) := by
  unfold f_r5_Check m_r5_Check checkP
  rw [Rspanned_ok, bindF_some]
  cases hsp : spanP b.1 0 1000000 with
  | false => rfl
  | true =>
  have hfilm : 0 ≤ b.1.1 ∧ b.1.1 ≤ b.1.2 ∧ b.1.2 ≤ 1000000 := by
    simp only [spanP, Bool.and_eq_true, decide_eq_true_eq] at hsp
    exact hsp
  rw [ifb_f (show (!true) = false from rfl), if_neg (by simp)]
  rw [ilen_eq b.2.1, ilen_eq b.2.2.1, ilen_eq b.2.2.2.1, ilen_eq b.2.2.2.2.1, ilen_eq b.2.2.2.2.2]
  by_cases c0 : 12 < b.2.1.length
  · rw [ifb_t (by simp [igt]; omega), if_pos c0]
  rw [ifb_f (by simp [igt]; omega), if_neg c0]
  by_cases c1 : 40 < b.2.2.1.length
  · rw [ifb_t (by simp [igt]; omega), if_pos c1]
  rw [ifb_f (by simp [igt]; omega), if_neg c1]
  by_cases c2 : 12 < b.2.2.2.1.length
  · rw [ifb_t (by simp [igt]; omega), if_pos c2]
  rw [ifb_f (by simp [igt]; omega), if_neg c2]
  by_cases c3 : 40 < b.2.2.2.2.1.length
  · rw [ifb_t (by simp [igt]; omega), if_pos c3]
  rw [ifb_f (by simp [igt]; omega), if_neg c3]
  by_cases c4 : 10 < b.2.2.2.2.2.length
  · rw [ifb_t (by simp [igt]; omega), if_pos c4]
  rw [ifb_f (by simp [igt]; omega), if_neg c4]
  refine Eq.trans (loop_first' b.2.1 (gaugeE b.2.1) some (some (match (partsP b (shelf b)).find? (fun e => e != 0) with
    | some e => e
    | none => if 59 < (nodesP b).length then 2 else if 300 < 2 * b.2.1.length + 2 * ((nodesP b).length - b.2.1.length : Int) + 2 * b.2.2.2.2.1.length then 2 else 0)) (fun i g hi hg kn => ?_) (fun hz kn => ?_)) ?_
  · try dsimp only
    unfold m_r5_Check_L0
    rw [ifb_lt' hi, iget_nat hg, Rgauge_ok, bindF_some]
    unfold gaugeE
    cases gaugeP g with
    | false => rfl
    | true =>
      rw [ifb_f (by rfl)]
      rcases Nat.eq_zero_or_pos i with h0 | h0
      · subst h0
        have : igt ((0 : Nat) : Int) 0 = false := by simp [igt]
        rw [ifb_f this, ck_succ hi (by omega)]
        simp [backE]
      · obtain ⟨q, hq⟩ := prev_some hi h0
        have h1 : igt (i : Int) 0 = true := by simp [igt]; omega
        rw [ifb_t h1, iget_nat hg, ck_pred h0 (by omega), iget_pred h0 hq]
        simp only [backE, h0, decide_true, Bool.true_and, hq, Option.any_some]
        unfold ile
        cases h2 : decide (g.1 ≤ q.1) with
        | true => simp
        | false => rw [ifb_false, ck_succ hi (by omega)]; simp
  · try dsimp only
    unfold m_r5_Check_L0
    rw [ifb_ge]
    dsimp only
    have hg0 : gaugesE b = 0 := by
      unfold gaugesE
      rw [firstO_none.2 fun j a ha => by rw [Nat.zero_add]; exact hz j a ha]
      rfl
    obtain ⟨hg, hi⟩ := (gaugesE_iff b).1 hg0
    have eu : b.2.2.1.map (useP b) = b.2.2.1.map fun u => useE (shelf b) u.1 u.2 := List.map_congr_left fun u _ => useP_E hi u
    have el : b.2.2.2.1.mapIdx (loanQ b) = b.2.2.2.1.mapIdx fun i l => loanE b (shelf b) i l := List.mapIdx_eq_mapIdx_iff.2 fun i hl => loanQ_E hi i _
    have ec : b.2.2.2.2.1.mapIdx (compareQ b) = b.2.2.2.2.1.mapIdx fun i c => compareE b (shelf b) i c := List.mapIdx_eq_mapIdx_iff.2 fun i hc => compareQ_E hi i _
    have ek : b.2.2.2.2.2.map (useP b) = b.2.2.2.2.2.map fun u => useE (shelf b) u.1 u.2 := List.map_congr_left fun u _ => useP_E hi u
    unfold partsP
    rw [← eu, ← el, ← ec, ← ek, find_app, find_app, find_app, Ruses_ok hs, bindF_some]
    cases hue : (b.2.2.1.map (useP b)).find? (fun e => e != 0) with
    | some e =>
      have he : e ≠ 0 := by have := List.find?_some hue; simpa using this
      simp only [Option.getD_some]
      rw [ifb_f (by simpa [ieq] using he), ifb_t (by simpa [ine] using he)]
    | none =>
      simp only [Option.getD_none]
      rw [ifb_t (by rfl), Rloans_ok hs, bindF_some]
      cases hle : (b.2.2.2.1.mapIdx (loanQ b)).find? (fun e => e != 0) with
      | some e =>
        have he : e ≠ 0 := by have := List.find?_some hle; simpa using this
        simp only [Option.getD_some]
        rw [ifb_t (by simpa [ine] using he)]
      | none =>
        simp only [Option.getD_none]
        rw [ifb_f (by rfl)]
        refine Eq.trans (tail_ok hs hfilm (by omega) (by omega) (by omega) (by omega) (by omega) hg hi (find_none hue) (find_noneI hle)) ?_
        unfold tailQ
        cases (b.2.2.2.2.1.mapIdx (compareQ b)).find? (fun e => e != 0) <;> rfl
  · unfold gaugesE
    cases hf : firstO (gaugeE b.2.1) 0 b.2.1 with
    | none =>
      simp
      cases (partsP b (shelf b)).find? (fun e => e != 0) <;> rfl
    | some e =>
      have he : gaugesE b = e := by unfold gaugesE; rw [hf]; rfl
      have hne : e ≠ 0 := by
        intro h0
        rw [h0] at he
        obtain ⟨h1, h2⟩ := (gaugesE_iff b).1 he
        have h3 : ∀ j a, b.2.1[j]? = some a → gaugeE b.2.1 j a = none := by
          intro j a ha
          have h4 := (back_iff (fun g : Gauge => g.1) b.2.1).2 h2 j a ha
          simp [gaugeE, h1 a (List.mem_of_getElem? ha), h4]
        rw [firstO_none.2 fun j a ha => by rw [Nat.zero_add]; exact h3 j a ha] at hf
        cases hf
      simp [hne]
end Go.Proofs.ZzM
end

noncomputable section
namespace Go.Proofs.ZzM
open Go Go.Am
theorem RShown_ok {b : Book} (hs : SizeOk b) (hf : 0 ≤ b.1.1 ∧ b.1.1 ≤ b.1.2 ∧ b.1.2 ≤ 1000000) {c : Cmp} (h : CmpIn b c) {d : Int} (hd : -2305843009213693952 ≤ d ∧ d ≤ 2305843009213693952) : f_r5_Shown b c d = some (d + lowP b c, d + highP b c) := by
  have hn := (numsP_iff c).1 h.ok.nums
  have ha := pileP_len hn.2.2.2.2.2.1
  have hb := pileP_len hn.2.2.2.2.2.2
  obtain ⟨q1, q2, b1, b2, b3⟩ := shown_bounds hf h.ok
  have c1 := ceil_bound q1
  have c2 := floor_bound q2
  have fb := films_bound (b := b) (c := c) (by omega) (by omega) (by omega) (by omega) (by omega) (by omega)
  unfold f_r5_Shown m_r5_Shown lowP highP
  rw [RGrowth_ok hs h, bindF_some, RFilms_ok (by omega) (by omega) (by omega) (by omega) (by omega) (by omega), bindF_some, Rceil_ok q1.rat, Rfloor_ok q2.rat]
  simp only [bindF_some]
  rw [ck_ok (by omega) (by omega), ck_ok (by omega) (by omega), ck_ok (by omega) (by omega), ck_ok (by omega) (by omega), ck_ok (by omega) (by omega), ck_ok (by omega) (by omega)]
  have e1 : d + (filmsP b c).1 + ceilP (growthP b c).1 - c.2.2.2.2.2.1 = d + (ceilP (growthP b c).1 + (filmsP b c).1 - c.2.2.2.2.2.1) := by omega
  have e2 : d + (filmsP b c).2 + (growthP b c).2.1 / (growthP b c).2.2 + c.2.2.2.2.2.1 = d + ((growthP b c).2.1 / (growthP b c).2.2 + (filmsP b c).2 + c.2.2.2.2.2.1) := by omega
  rw [e1, e2]
end Go.Proofs.ZzM
end

noncomputable section
namespace Go.Proofs.ZzM
open Go Go.Am
section
variable {L : List Lk} {N : Nat}
theorem negS_append : ∀ (A B : List Lk), negS (A ++ B) = negS A + negS B
  | [], B => by simp [negS, negF]
  | l :: A, B => by
    have := negS_append A B
    simp only [negS, negF, if_true, List.cons_append] at this ⊢
    omega
theorem negS_part (k : Nat) (L : List Lk) : negS L ≤ negS (L.take k) := by
  have h := negS_append (L.take k) (L.drop k)
  rw [List.take_append_drop] at h
  have := negF_nonpos (fun _ => true) (L.drop k)
  unfold negS at *
  omega
theorem negS_nonpos (L : List Lk) : negS L ≤ 0 := negF_nonpos _ _
theorem passP_snoc (L : List Lk) (l : Lk) (x : List Int) : passP (L ++ [l]) x = relaxL (passP L x) l := by
  unfold passP
  rw [List.foldl_append]
  rfl
theorem pass_low : ∀ {L : List Lk}, InR L N → ∀ {x : List Int} {B : Int}, x.length = N → B ≤ 0 → (∀ v : Int, 0 ≤ v → v < N → B ≤ gv x v) → ∀ v : Int, 0 ≤ v → v < N → B + negS L ≤ gv (passP L x) v
  | [], _, x, B, _, _, hB, v, h0, h1 => by have := hB v h0 h1; simp [negS, negF, passP]; omega
  | l :: t, hL, x, B, hx, hB0, hB, v, h0, h1 => by
    have hl := hL l (by simp)
    have key : ∀ v : Int, 0 ≤ v → v < N → B + min l.2.2 0 ≤ gv (relaxL x l) v := by
      intro v h0 h1
      have h2 := hB v h0 h1
      have h3 := hB l.1 hl.1.1 hl.1.2
      unfold relaxL
      split
      · rw [gv_set hl.2.1 h0 (by omega)]
        split <;> omega
      · omega
    have := pass_low (L := t) (fun m hm => hL m (by simp [hm])) (x := relaxL x l) (B := B + min l.2.2 0) (by rw [relaxL_length]; exact hx) (by omega) key v h0 h1
    show B + negS (l :: t) ≤ gv (passP t (relaxL x l)) v
    have e : negS (l :: t) = min l.2.2 0 + negS t := by simp [negS, negF]
    rw [e]
    omega
theorem relax_ne {x0 x : List Int} {l : Lk} (hl : (0 ≤ l.1 ∧ l.1 < N) ∧ (0 ≤ l.2.1 ∧ l.2.1 < N)) (hx : x.length = N) (hle : ∀ v : Int, 0 ≤ v → gv x v ≤ gv x0 v) (hlt : gv x l.1 + l.2.2 < gv x l.2.1) : x.set l.2.1.toNat (gv x l.1 + l.2.2) ≠ x0 := by
  intro e
  have h1 := hle l.2.1 hl.2.1
  have h2 : gv (x.set l.2.1.toNat (gv x l.1 + l.2.2)) l.2.1 = gv x l.1 + l.2.2 := by rw [gv_set hl.2.1 hl.2.1 (by omega), if_pos rfl]
  rw [e] at h2
  omega
theorem iff_gv {ρ : Type} {x : List Int} {v : Int} (h0 : 0 ≤ v) (h1 : v < x.length) (f : Int → Option ρ) : iff_ ((ile (0 : Int) v) && (ilt v (olen x))) (nget x (Int.toNat v) f) = f (gv x v) := by
  rw [show olen x = ((x.length : Nat) : Int) from rfl, iff_rng h0 h1, nget_gv (by omega)]
set_option maxHeartbeats 1000000 in
theorem open_pass (hL : InR L N) (hM : ∀ l ∈ L, -4503599627370496 ≤ l.2.2 ∧ l.2.2 ≤ 4503599627370496) (hlen : L.length ≤ 1000000) {x0 : List Int} (hx : x0.length = N) (h0 : ∀ v : Int, 0 ≤ v → v < N → gv x0 v ≤ 0) {B : Int} (hB : B ≤ 0) (hlow : ∀ v : Int, 0 ≤ v → v < N → B ≤ gv x0 v) (hb : -9000000000000000000 ≤ B + negS L) (K : Bool × List Int → Option Bool) :
    loopT (fun (v12 : Bool × Int × List Int) kk16 => m_r5_Open_L1 L v12.1 v12.2.1 v12.2.2 (fun u13 u14 u15 => kk16 (u13, u14, u15)) K) (false, (0 : Int), x0) = K (decide (passP L x0 ≠ x0), passP L x0) := by
  refine loop_inv (fun s : Bool × Int × List Int => ∃ k : Nat, k ≤ L.length ∧ s = (decide (passP (L.take k) x0 ≠ x0), (k : Int), passP (L.take k) x0)) (fun s => L.length - s.2.1.toNat) ?_ ⟨0, by omega, by simp [passP]⟩
  rintro s ⟨k, hk, rfl⟩
  rcases Nat.lt_or_ge k L.length with hlt | hge
  · have ha : L[k]? = some L[k] := List.getElem?_eq_getElem hlt
    have hl := hL _ (List.mem_of_getElem? ha)
    have hm := hM _ (List.mem_of_getElem? ha)
    have hLt : InR (L.take k) N := fun l hl => hL l (List.mem_of_mem_take hl)
    have hlx : (passP (L.take k) x0).length = N := by rw [passP_length, hx]
    have hle := passP_le hLt hx
    have hnt := negS_part k L
    have hlo := pass_low hLt hx hB hlow L[k].1 hl.1.1 hl.1.2
    have hup := hle L[k].1 hl.1.1
    have hup0 := h0 L[k].1 hl.1.1 hl.1.2
    have hnp := negS_nonpos L
    refine .inr ⟨(decide (passP (L.take (k + 1)) x0 ≠ x0), ((k + 1 : Nat) : Int), passP (L.take (k + 1)) x0), ⟨k + 1, hlt, rfl⟩, by simp only [Int.toNat_natCast]; omega, fun kn => ?_⟩
    try dsimp only
    unfold m_r5_Open_L1
    rw [ifb_lt' hlt, iget_nat ha, iff_gv hl.1.1 (by omega), ck_ok (by omega) (by omega), iff_gv hl.2.1 (by omega), ifb_eq, take_succ ha, passP_snoc]
    by_cases hc : gv (passP (L.take k) x0) L[k].1 + L[k].2.2 < gv (passP (L.take k) x0) L[k].2.1
    · have hr : relaxL (passP (L.take k) x0) L[k] = (passP (L.take k) x0).set L[k].2.1.toNat (gv (passP (L.take k) x0) L[k].1 + L[k].2.2) := by
        unfold relaxL
        rw [if_pos ⟨by unfold Free; omega, hc⟩]
      rw [if_pos (by simpa [ilt] using hc), iff_gv hl.1.1 (by omega), ck_ok (by omega) (by omega), iff_gv hl.2.1 (by omega), ck_succ hlt (by omega), hr]
      have : decide ((passP (L.take k) x0).set L[k].2.1.toNat (gv (passP (L.take k) x0) L[k].1 + L[k].2.2) ≠ x0) = true := decide_eq_true (relax_ne hl hlx hle hc)
      rw [this]
      rfl
    · have hr : relaxL (passP (L.take k) x0) L[k] = passP (L.take k) x0 := by
        unfold relaxL
        rw [if_neg (fun h => hc h.2)]
      rw [if_neg (by simpa [ilt] using hc), ck_succ hlt (by omega), hr]
      rfl
  · have : k = L.length := by omega
    subst this
    refine .inl fun kn => ?_
    try dsimp only
    unfold m_r5_Open_L1
    rw [ifb_ge, List.take_length]
theorem passes_eq {x : List Int} {n : Nat} (h : passP L (passes L n x) = passes L n x) : ∀ m, n ≤ m → passes L m x = passes L n x := by
  intro m hm
  induction m with
  | zero => have : n = 0 := by omega
            subst this; rfl
  | succ m ih =>
    rcases Nat.lt_or_ge m n with h1 | h1
    · have : n = m + 1 := by omega
      subst this; rfl
    · rw [passes_succ, ih h1, h]
theorem replicate_start : List.replicate N (0 : Int) = start (allS N) N := by
  refine gv_ext (by simp [start_length]) fun v h0 h1 => ?_
  have hv : v < N := by simpa using h1
  rw [start_gv _ h0 hv, if_pos (by simp [allS, h0, hv])]
  unfold gv
  rw [List.getElem?_replicate]
  split <;> rfl
set_option maxHeartbeats 1000000 in
theorem ROpen_ok (h : SysOk L N) (hneg : -140000000000000000 ≤ negS L) : f_r5_Open ((N : Int), L) = some (openP L N) := by
  have h2 := h.n60
  have h3 := h.n1
  have h4 := h.len
  have hnp := negS_nonpos L
  unfold f_r5_Open m_r5_Open
  dsimp only
  rw [iff_make (by omega), Int.toNat_natCast, replicate_start]
  have bd : ∀ n : Nat, (∀ v : Int, 0 ≤ v → v < N → gv (passes L n (start (allS N) N)) v ≤ 0) ∧ (∀ v : Int, 0 ≤ v → v < N → (n : Int) * negS L ≤ gv (passes L n (start (allS N) N)) v) := by
    intro n
    induction n with
    | zero =>
      constructor
      · intro v h0 h1
        show gv (start (allS N) N) v ≤ 0
        rw [start_gv _ h0 h1, if_pos (by simp [allS, h0, h1])]; omega
      · intro v h0 h1
        show _ ≤ gv (start (allS N) N) v
        rw [start_gv _ h0 h1, if_pos (by simp [allS, h0, h1])]; simp
    | succ n ih =>
      have hl : (passes L n (start (allS N) N)).length = N := by rw [passes_length, start_length]
      rw [passes_succ]
      constructor
      · intro v h0 h1
        have := passP_le h.inr hl v h0
        have := ih.1 v h0 h1
        omega
      · intro v h0 h1
        have := pass_low h.inr hl (B := (n : Int) * negS L) (by have := Int.mul_nonneg (show (0 : Int) ≤ n by omega) (show 0 ≤ -negS L by omega); rw [Int.mul_neg] at this; omega) ih.2 v h0 h1
        rw [Int.natCast_succ, Int.add_mul, Int.one_mul]
        exact this
  refine loop_inv (fun s : Bool × Int × List Int => ∃ n : Nat, n ≤ N + 1 ∧ s.2.1 = (n : Int) ∧ s.2.2 = passes L n (start (allS N) N) ∧ s.1 = (if n = 0 then true else decide (passes L n (start (allS N) N) ≠ passes L (n - 1) (start (allS N) N)))) (fun s => N + 1 - s.2.1.toNat) ?_ ⟨0, by omega, rfl, rfl, rfl⟩
  rintro ⟨ag, i, x⟩ ⟨n, hn, e1, e2, e3⟩
  dsimp only at e1 e2 e3 ⊢
  subst e1 e2 e3
  have hl : (passes L n (start (allS N) N)).length = N := by rw [passes_length, start_length]
  by_cases hnN : n ≤ N
  · by_cases hag : (if n = 0 then true else decide (passes L n (start (allS N) N) ≠ passes L (n - 1) (start (allS N) N))) = true
    · refine .inr ⟨(decide (passP L (passes L n (start (allS N) N)) ≠ passes L n (start (allS N) N)), ((n + 1 : Nat) : Int), passP L (passes L n (start (allS N) N))), ⟨n + 1, by omega, rfl, (passes_succ L n _).symm, ?_⟩, by simp only [Int.toNat_natCast]; omega, fun kn => ?_⟩
      · rw [if_neg (by omega), Nat.add_sub_cancel, passes_succ]
      · unfold m_r5_Open_L0
        rw [hag, ifb_t (by simp [ile]; omega), ifb_true]
        have hB : -9000000000000000000 ≤ (n : Int) * negS L + negS L := by
          have h5 : (n : Int) * (-negS L) ≤ 60 * 140000000000000000 := Int.mul_le_mul (by omega) (by omega) (by omega) (by omega)
          rw [Int.mul_neg] at h5
          omega
        have hB0 : (n : Int) * negS L ≤ 0 := by
          have := Int.mul_nonneg (show (0 : Int) ≤ n by omega) (show 0 ≤ -negS L by omega)
          rw [Int.mul_neg] at this
          omega
        refine Eq.trans (open_pass h.inr h.most (by omega) hl (bd n).1 hB0 (bd n).2 hB _) ?_
        dsimp only
        rw [ck_ok (by omega) (by omega)]
        rfl
    · refine .inl fun kn => ?_
      have hagf := Bool.eq_false_iff.2 hag
      unfold m_r5_Open_L0
      rw [hagf, ifb_t (by simp [ile]; omega), ifb_false]
      have hn0 : n ≠ 0 := by intro e; rw [e] at hagf; simp at hagf
      rw [if_neg hn0] at hagf
      have heq : passes L n (start (allS N) N) = passes L (n - 1) (start (allS N) N) := by simpa using hagf
      have hfix : passP L (passes L (n - 1) (start (allS N) N)) = passes L (n - 1) (start (allS N) N) := by
        rw [← passes_succ, Nat.sub_add_cancel (by omega)]
        exact heq
      have hall := passes_eq hfix N (by omega)
      have : openP L N = true := by
        unfold openP solveP
        rw [hall]
        exact decide_eq_true hfix
      rw [this]
      rfl
  · refine .inl fun kn => ?_
    have : n = N + 1 := by omega
    subst this
    unfold m_r5_Open_L0
    rw [ifb_f (by simp [ile]; omega), if_neg (by omega), Nat.add_sub_cancel, passes_succ]
    unfold openP solveP
    by_cases hd : passP L (passes L N (start (allS N) N)) = passes L N (start (allS N) N)
    · simp [hd]
    · simp [hd]
end
end Go.Proofs.ZzM
end

noncomputable section
namespace Go.Proofs.ZzM
open Go Go.Am
section
variable {L : List Lk} {N : Nat}
theorem negS_sys (h : SysOk L N) : -1400000000000000000 ≤ negS L := by
  have h1 := negS_ge (L := L) (fun l hl => (h.links.most l hl).1) h.links.m0
  have h2 := h.len
  omega
set_option maxHeartbeats 1000000 in
theorem bounds_pass (h : SysOk L N) {p : Int → Int} (hp : Pot L p) {S : Int → Prop} {x0 : List Int} (hx : x0.length = N) (h0 : ∀ v : Int, 0 ≤ v → v < N → gv x0 v ≤ Free) (hat : Att L S N x0) (K : Bool × List Int → Option (List Int)) :
    loopT (fun (v18 : Bool × Int × List Int) kk22 => m_r5_Bounds_L2 L v18.1 v18.2.1 v18.2.2 (fun u19 u20 u21 => kk22 (u19, u20, u21)) K) (false, (0 : Int), x0) = K (decide (passP L x0 ≠ x0), passP L x0) := by
  have hlen := h.len
  have hneg := negS_sys h
  refine loop_inv (fun s : Bool × Int × List Int => ∃ k : Nat, k ≤ L.length ∧ s = (decide (passP (L.take k) x0 ≠ x0), (k : Int), passP (L.take k) x0)) (fun s => L.length - s.2.1.toNat) ?_ ⟨0, by omega, by simp [passP]⟩
  rintro s ⟨k, hk, rfl⟩
  rcases Nat.lt_or_ge k L.length with hlt | hge
  · have ha : L[k]? = some L[k] := List.getElem?_eq_getElem hlt
    have hl := h.inr _ (List.mem_of_getElem? ha)
    have hm := h.most _ (List.mem_of_getElem? ha)
    have hLt : InR (L.take k) N := fun l hl => h.inr l (List.mem_of_mem_take hl)
    have hlx : (passP (L.take k) x0).length = N := by rw [passP_length, hx]
    have hle := passP_le hLt hx
    have hatk : Att L S N (passP (L.take k) x0) := passP_att hLt (fun l hl => List.mem_of_mem_take hl) hx hat
    refine .inr ⟨(decide (passP (L.take (k + 1)) x0 ≠ x0), ((k + 1 : Nat) : Int), passP (L.take (k + 1)) x0), ⟨k + 1, hlt, rfl⟩, by simp only [Int.toNat_natCast]; omega, fun kn => ?_⟩
    try dsimp only
    unfold m_r5_Bounds_L2
    rw [ifb_lt' hlt, iget_nat ha, iff_gv hl.1.1 (by omega), ifb_eq, take_succ ha, passP_snoc]
    by_cases hf : gv (passP (L.take k) x0) L[k].1 < Free
    · obtain ⟨vs, hw⟩ := hatk L[k].1 hl.1.1 hl.1.2 hf
      have hlo := hw.low' hp
      have hup : gv (passP (L.take k) x0) L[k].1 < 1152921504606846976 := hf
      rw [if_pos (by simpa [ilt] using hf), iff_gv hl.1.1 (by omega), ck_ok (by omega) (by omega), iff_gv hl.2.1 (by omega), ifb_eq]
      by_cases hc : gv (passP (L.take k) x0) L[k].1 + L[k].2.2 < gv (passP (L.take k) x0) L[k].2.1
      · have hr : relaxL (passP (L.take k) x0) L[k] = (passP (L.take k) x0).set L[k].2.1.toNat (gv (passP (L.take k) x0) L[k].1 + L[k].2.2) := by
          unfold relaxL
          rw [if_pos ⟨hf, hc⟩]
        rw [if_pos (by simpa [ilt] using hc), iff_gv hl.1.1 (by omega), ck_ok (by omega) (by omega), iff_gv hl.2.1 (by omega), ck_succ hlt (by omega), hr]
        have : decide ((passP (L.take k) x0).set L[k].2.1.toNat (gv (passP (L.take k) x0) L[k].1 + L[k].2.2) ≠ x0) = true := decide_eq_true (relax_ne hl hlx hle hc)
        rw [this]
        rfl
      · have hr : relaxL (passP (L.take k) x0) L[k] = passP (L.take k) x0 := by
          unfold relaxL
          rw [if_neg (fun h => hc h.2)]
        rw [if_neg (by simpa [ilt] using hc), ck_succ hlt (by omega), hr]
        rfl
    · have hr : relaxL (passP (L.take k) x0) L[k] = passP (L.take k) x0 := by
        unfold relaxL
        rw [if_neg (fun h => hf h.1)]
      rw [if_neg (by simpa [ilt] using hf), ck_succ hlt (by omega), hr]
      rfl
  · have : k = L.length := by omega
    subst this
    refine .inl fun kn => ?_
    try dsimp only
    unfold m_r5_Bounds_L2
    rw [ifb_ge, List.take_length]
theorem start_att {S : Int → Bool} : Att L (fun v => S v = true) N (start S N) := by
  intro v h0 h1 hf
  rw [start_gv _ h0 h1] at hf ⊢
  split at hf
  · rename_i hs
    rw [if_pos hs]
    exact ⟨[], .nil hs⟩
  · exact absurd hf (by omega)
set_option maxHeartbeats 1000000 in
theorem RBounds_ok (h : SysOk L N) (ho : openP L N = true) {s : Int} (hs : 0 ≤ s ∧ s < N) : f_r5_Bounds ((N : Int), L) s = some (boundsP L N s) := by
  have h2 := h.n60
  have h3 := h.n1
  have hlen := h.len
  obtain ⟨p, hp⟩ := (openP_iff h.links (by omega)).1 ho
  unfold f_r5_Bounds m_r5_Bounds
  dsimp only
  rw [iff_make (by omega), Int.toNat_natCast]
  refine loop_acc (List.replicate N (0 : Int)) (fun i => List.replicate i Free ++ List.replicate (N - i) 0) _ (by simp) (fun i a hi ha kn => ?_) (fun kn => ?_)
  · dsimp only
    unfold m_r5_Bounds_L0
    have hiN : i < N := by simpa using hi
    have hl : i < (List.replicate i Free ++ List.replicate (N - i) (0 : Int)).length := by simp; omega
    rw [ifb_t (show ilt (i : Int) (N : Int) = true by simp [ilt]; omega), iff_idx hl, nget_toNat (List.getElem?_eq_getElem hl), ck_succ hiN (by omega), Int.toNat_natCast]
    congr 2
    rw [List.set_append_right _ _ (by simp)]
    have : N - i = (N - (i + 1)) + 1 := by omega
    rw [this, List.length_replicate, Nat.sub_self, List.replicate_succ, List.set_cons_zero, List.replicate_succ']
    simp
  · try dsimp only
    unfold m_r5_Bounds_L0
    have e0 : List.replicate (List.replicate N (0 : Int)).length Free ++ List.replicate (N - (List.replicate N (0 : Int)).length) 0 = List.replicate N Free := by simp
    rw [ifb_f (show ilt ((List.replicate N (0 : Int)).length : Int) (N : Int) = false by simp [ilt]), e0]
    dsimp only
    rw [iff_gv hs.1 (by simpa using hs.2), start_one hs]
    have bd : ∀ n : Nat, (∀ v : Int, 0 ≤ v → v < N → gv (passes L n (start (oneS s) N)) v ≤ Free) ∧ Att L (fun v => oneS s v = true) N (passes L n (start (oneS s) N)) := by
      intro n
      constructor
      · intro v h0 h1
        have h4 := passes_le h.inr n (start_length (oneS s) N) v h0
        have h5 : gv (start (oneS s) N) v ≤ Free := by rw [start_gv _ h0 h1]; unfold Free; split <;> omega
        omega
      · exact passes_att h.inr n (start_length _ _) start_att
    have fixN : passP L (passes L N (start (oneS s) N)) = passes L N (start (oneS s) N) := by
      rw [← passes_succ]
      have hd := fun n hn => passes_dist (S := oneS s) hp h.inr (fun v hv => by simp [oneS] at hv; subst hv; exact hs) (fun l hl => (h.links.most l hl).2) h.links.m0 (nm_lt h.links (by omega)) n hn
      refine gv_ext (by rw [passes_length, passes_length]) fun v h0 h1 => ?_
      rw [passes_length, start_length] at h1
      exact (hd (N + 1) (by omega)).uniq (hd N (by omega)) h0 h1
    refine loop_inv (fun st : Bool × Int × List Int => ∃ n : Nat, n ≤ N + 1 ∧ st.2.1 = (n : Int) ∧ st.2.2 = passes L n (start (oneS s) N) ∧ st.1 = (if n = 0 then true else decide (passes L n (start (oneS s) N) ≠ passes L (n - 1) (start (oneS s) N)))) (fun st => N + 1 - st.2.1.toNat) ?_ ⟨0, by omega, rfl, rfl, rfl⟩
    rintro ⟨ag, i, x⟩ ⟨n, hn, e1, e2, e3⟩
    dsimp only at e1 e2 e3 ⊢
    subst e1 e2 e3
    have hl : (passes L n (start (oneS s) N)).length = N := by rw [passes_length, start_length]
    by_cases hnN : n ≤ N
    · by_cases hag : (if n = 0 then true else decide (passes L n (start (oneS s) N) ≠ passes L (n - 1) (start (oneS s) N))) = true
      · refine .inr ⟨(decide (passP L (passes L n (start (oneS s) N)) ≠ passes L n (start (oneS s) N)), ((n + 1 : Nat) : Int), passP L (passes L n (start (oneS s) N))), ⟨n + 1, by omega, rfl, (passes_succ L n _).symm, ?_⟩, by simp only [Int.toNat_natCast]; omega, fun kn => ?_⟩
        · rw [if_neg (by omega), Nat.add_sub_cancel, passes_succ]
        · unfold m_r5_Bounds_L1
          rw [hag, ifb_t (by simp [ile]; omega), ifb_true]
          refine Eq.trans (bounds_pass h hp hl (bd n).1 (bd n).2 _) ?_
          dsimp only
          rw [ck_ok (by omega) (by omega)]
          rfl
      · refine .inl fun kn => ?_
        have hagf := Bool.eq_false_iff.2 hag
        unfold m_r5_Bounds_L1
        rw [hagf, ifb_t (by simp [ile]; omega), ifb_false]
        have hn0 : n ≠ 0 := by intro e; rw [e] at hagf; simp at hagf
        rw [if_neg hn0] at hagf
        have heq : passes L n (start (oneS s) N) = passes L (n - 1) (start (oneS s) N) := by simpa using hagf
        have hfix : passP L (passes L (n - 1) (start (oneS s) N)) = passes L (n - 1) (start (oneS s) N) := by
          rw [← passes_succ, Nat.sub_add_cancel (by omega)]
          exact heq
        have hall := passes_eq hfix N (by omega)
        unfold boundsP
        rw [hall, heq]
    · refine .inl fun kn => ?_
      have : n = N + 1 := by omega
      subst this
      unfold m_r5_Bounds_L1
      rw [ifb_f (by simp [ile]; omega), passes_succ, fixN]
      rfl
end
end Go.Proofs.ZzM
end

noncomputable section
namespace Go.Proofs.ZzM
open Go Go.Am
theorem negS_flat {α : Type} (F : α → List Lk) (B : Int) : ∀ l : List α, (∀ a ∈ l, -B ≤ negS (F a)) → -(l.length * B) ≤ negS (l.flatMap F)
  | [], _ => by simp [negS, negF]
  | a :: l, h => by
    rw [List.flatMap_cons, negS_append]
    have h1 := h a (by simp)
    have h2 := negS_flat F B l fun c hc => h c (by simp [hc])
    rw [List.length_cons, Int.natCast_succ, Int.add_mul, Int.one_mul]
    omega
theorem negS_zero {L : List Lk} (h : ∀ l ∈ L, 0 ≤ l.2.2) : negS L = 0 := by
  induction L with
  | nil => rfl
  | cons l t ih =>
    have h1 := h l (by simp)
    have h2 := ih fun m hm => h m (by simp [hm])
    have e : negS (l :: t) = min l.2.2 0 + negS t := by simp [negS, negF]
    rw [e, h2]
    omega
theorem Good.neg {b : Book} (h : Good b) : -140000000000000000 ≤ negS (linksP b) := by
  have hG := h.nG
  have hC := h.nC
  have g1 : ∀ g ∈ b.2.1, -1130000000000000 ≤ negS (gaugeLinks b g) := by
    intro g hg
    have hr := h.gaugeR hg
    have r1 := hr.2.2.2.2.2.1
    have r2 := hr.2.2.2.2.2.2.1
    unfold gaugeLinks
    rw [negS_append, negS_zero (L := (List.range ((daysP b g).length - 1)).flatMap _) (fun l hl => by
      obtain ⟨k, hk, hl⟩ := List.mem_flatMap.1 hl
      have hk' := List.mem_range.1 hk
      simp only [List.mem_cons, List.not_mem_nil, or_false] at hl
      rcases hl with rfl | rfl
      · exact Int.le_refl _
      · have hd : (daysP b g)[k]? = some ((daysP b g)[k]?.getD 0) := by rw [List.getElem?_eq_getElem (by omega)]; rfl
        exact (lossP_bound h hg (h.day hg (List.mem_of_getElem? hd)).2.1).1)]
    simp only [negS, negF, if_true]
    omega
  have g2 : ∀ c ∈ b.2.2.2.2.1, -2260000000000000 ≤ negS (compareLinks b c) := by
    intro c hc
    have sb := saysP_bound h hc
    unfold compareLinks
    simp only [negS, negF, if_true]
    omega
  have s1 := negS_flat (gaugeLinks b) 1130000000000000 b.2.1 g1
  have s2 := negS_flat (compareLinks b) 2260000000000000 b.2.2.2.2.1 g2
  unfold linksP
  rw [negS_append]
  omega
theorem RSystem_ok {b : Book} (h : Good b) : f_r5_System b = some (((nodesP b).length : Int) + 1, linksP b) := by
  have hN := h.nodes
  unfold f_r5_System m_r5_System
  rw [RNodes_ok h.pre, bindF_some, ilen_eq, ck_ok (by omega) (by omega), RTie_ok h, bindF_some]
end Go.Proofs.ZzM
end

noncomputable section
namespace Go.Proofs.ZzM
open Go Go.Am
theorem ck_wr {ρ : Type} (n : Int) (f : Int → Option ρ) : ck n f = f (wr64 n) := rfl
theorem tie_cs {ρ : Type} (c0 : List (Int × Int)) (c1 c2 c3 : Int) (c4 : List Gauge) (c5 : List (Int × Int)) (c6 : List Loan) (cs cs' : List Cmp) (c8 : List (Int × Int)) : @m_r5_Tie_L1 ρ c0 c1 c2 c3 c4 c5 c6 cs c8 = @m_r5_Tie_L1 ρ c0 c1 c2 c3 c4 c5 c6 cs' c8 := rfl
section
variable {b : Book} {c : Cmp}
theorem more_days (g : Gauge) : daysP (more b c) g = daysP (more b (zeroDiff c)) g := by
  refine asc_ext (days_lt _ _) (days_lt _ _) fun y => ?_
  rw [daysP_mem, daysP_mem]
  refine or_congr Iff.rfl (or_congr ?_ Iff.rfl)
  constructor
  · rintro ⟨q, hq, h1, h2⟩
    rcases List.mem_append.1 (show q ∈ b.2.2.2.2.1 ++ [c] from hq) with hq | hq
    · exact ⟨q, List.mem_append.2 (.inl hq), h1, h2⟩
    · rw [List.mem_singleton] at hq
      subst hq
      exact ⟨zeroDiff q, more_mem, h1, h2⟩
  · rintro ⟨q, hq, h1, h2⟩
    rcases List.mem_append.1 (show q ∈ b.2.2.2.2.1 ++ [zeroDiff c] from hq) with hq | hq
    · exact ⟨q, List.mem_append.2 (.inl hq), h1, h2⟩
    · rw [List.mem_singleton] at hq
      subst hq
      exact ⟨c, more_mem, h1, h2⟩
theorem more_nodes : nodesP (more b c) = nodesP (more b (zeroDiff c)) := nodes_days rfl fun g _ => more_days g
theorem pre_more (h' : Good (more b (zeroDiff c))) : Pre (more b c) := by
  have hs := h'.size
  have hp := h'.pre
  refine ⟨⟨hs.gauges, hs.uses, hs.loans, ?_, hs.looks, fun d hd => ?_⟩, h'.gauge, fun d hd => ?_, hp.look⟩
  · have := hs.compares
    simp only [more, List.length_append, List.length_singleton] at this ⊢
    exact this
  · rcases List.mem_append.1 (show d ∈ b.2.2.2.2.1 ++ [c] from hd) with hd | hd
    · exact hs.piles d (List.mem_append.2 (.inl hd))
    · rw [List.mem_singleton] at hd
      subst hd
      exact hs.piles (zeroDiff d) more_mem
  · rcases List.mem_append.1 (show d ∈ b.2.2.2.2.1 ++ [c] from hd) with hd | hd
    · exact hp.cmp d (List.mem_append.2 (.inl hd))
    · rw [List.mem_singleton] at hd
      subst hd
      exact hp.cmp (zeroDiff d) more_mem
theorem RSays_any (h' : Good (more b (zeroDiff c))) : ∃ s, f_r5_Says (more b c) c = some s := by
  have h0 : CmpIn (more b (zeroDiff c)) (zeroDiff c) := h'.cmpIn more_mem
  have hn := (numsP_iff _).1 h0.ok.nums
  have ha : c.2.2.1.length ≤ 6 := pileP_len hn.2.2.2.2.2.1
  have hb : c.2.2.2.1.length ≤ 6 := pileP_len hn.2.2.2.2.2.2
  have hf : 0 ≤ b.1.1 ∧ b.1.1 ≤ b.1.2 ∧ b.1.2 ≤ 1000000 := h'.film
  obtain ⟨q1, q2, _⟩ := shown_bounds (b := more b (zeroDiff c)) hf h0.ok
  have eg : f_r5_Growth (more b c) c = some (growthP (more b (zeroDiff c)) (zeroDiff c)) := by
    rw [← RGrowth_ok h'.size h0]
    rfl
  have ef : f_r5_Films (more b c) c = some (filmsP (more b c) c) := RFilms_ok (by omega) (by omega) hf.1 (by show b.1.1 ≤ _; omega) (by show 0 ≤ b.1.2; omega) hf.2.2
  unfold f_r5_Says m_r5_Says
  rw [eg, bindF_some, ef, bindF_some, Rfloor_ok q2.rat, Rceil_ok q1.rat]
  simp only [bindF_some]
  unfold ck
  exact ⟨_, rfl⟩
set_option maxHeartbeats 2000000 in
theorem RTie_more (h' : Good (more b (zeroDiff c))) : ∃ u v S, f_r5_Tie (more b c) = some (headLinks (more b (zeroDiff c)) ++ [u, v], S) := by
  have hC := h'.nC
  have hG : b.2.1.length ≤ 12 := h'.nG
  have hp := pre_more h'
  obtain ⟨s, hs⟩ := RSays_any h'
  have hlen : (more b c).2.2.2.2.1.length = b.2.2.2.2.1.length + 1 := by simp [more]
  have hlen0 : (more b (zeroDiff c)).2.2.2.2.1.length = b.2.2.2.2.1.length + 1 := by simp [more]
  let LL : List (List Lk) := b.2.2.2.2.1.map (compareLinks (more b (zeroDiff c))) ++ [[(cy (more b (zeroDiff c)) (zeroDiff c), cx (more b (zeroDiff c)) (zeroDiff c), s.2), (cx (more b (zeroDiff c)) (zeroDiff c), cy (more b (zeroDiff c)) (zeroDiff c), wr64 (0 - s.1))]]
  have hLL : LL.length = b.2.2.2.2.1.length + 1 := by simp [LL]
  have hL2 : ∀ l ∈ LL, l.length = 2 := by
    intro l hl
    rcases List.mem_append.1 hl with hl | hl
    · obtain ⟨d, _, rfl⟩ := List.mem_map.1 hl
      rfl
    · rw [List.mem_singleton] at hl
      subst hl; rfl
  have hfl : ∀ i, (LL.take i).flatten.length ≤ 2 * i := by
    intro i
    have : ∀ l : List (List Lk), (∀ x ∈ l, x.length = 2) → l.flatten.length = 2 * l.length := by
      intro l
      induction l with
      | nil => intro _; rfl
      | cons x t ih =>
        intro hx
        rw [List.flatten_cons, List.length_append, hx x (by simp), ih fun y hy => hx y (by simp [hy]), List.length_cons]
        omega
    rw [this _ fun x hx => hL2 x (List.mem_of_mem_take hx), List.length_take]
    omega
  refine ⟨(cy (more b (zeroDiff c)) (zeroDiff c), cx (more b (zeroDiff c)) (zeroDiff c), s.2), (cx (more b (zeroDiff c)) (zeroDiff c), cy (more b (zeroDiff c)) (zeroDiff c), wr64 (0 - s.1)), (b.2.1.mapIdx (gaugeSources (more b (zeroDiff c)))).flatten ++ (List.range (b.2.2.2.2.1.length + 1)).flatMap fun (k : Nat) => [((3 : Int), (k : Int)), ((3 : Int), (k : Int))], ?_⟩
  unfold f_r5_Tie m_r5_Tie
  rw [RNodes_ok hp, bindF_some, more_nodes]
  refine loop_acc b.2.1 (fun i => ((b.2.1.take i).flatMap (gaugeLinks (more b (zeroDiff c))), ((b.2.1.take i).mapIdx (gaugeSources (more b (zeroDiff c)))).flatten)) _ rfl (fun i g hi hg kn => ?_) (fun kn => ?_)
  · try dsimp only
    unfold m_r5_Tie_L0
    have hls := gLinks_sum h' i
    have hls1 : ((b.2.1.take i).flatMap (gaugeLinks (more b (zeroDiff c)))).length ≤ 1440 ∧ (((b.2.1.take i).mapIdx (gaugeSources (more b (zeroDiff c)))).flatten).length ≤ 1440 := hls
    rw [show (more b c).2.1 = b.2.1 from rfl, ifb_lt' hi, iget_nat hg, tie_cs _ _ _ _ _ _ _ (more b c).2.2.2.2.1 (more b (zeroDiff c)).2.2.2.2.1]
    refine Eq.trans (tie_gauge h' hg (by omega) (by omega) _) ?_
    rw [ck_succ hi (by omega), mapIdx_take _ hg, take_succ hg, List.flatMap_append, List.flatten_append]
    simp only [List.flatMap_cons, List.flatMap_nil, List.append_nil, List.flatten_cons, List.flatten_nil]
  · try dsimp only
    unfold m_r5_Tie_L0
    rw [show (more b c).2.1 = b.2.1 from rfl, ifb_ge, List.take_length]
    dsimp only
    have hls := gLinks_sum h' b.2.1.length
    rw [show (more b (zeroDiff c)).2.1 = b.2.1 from rfl, List.take_length] at hls
    refine loop_acc (more b c).2.2.2.2.1 (fun i => (b.2.1.flatMap (gaugeLinks (more b (zeroDiff c))) ++ (LL.take i).flatten, (b.2.1.mapIdx (gaugeSources (more b (zeroDiff c)))).flatten ++ (List.range i).flatMap fun (k : Nat) => [((3 : Int), (k : Int)), ((3 : Int), (k : Int))])) _ (by simp) (fun i d hi hd kn => ?_) (fun kn => ?_)
    · try dsimp only
      unfold m_r5_Tie_L2
      have hcl := hfl i
      have hrl := sources_len (fun (k : Nat) => [((3 : Int), (k : Int)), ((3 : Int), (k : Int))]) i (fun _ => rfl)
      have hil : i < LL.length := by omega
      have hLi : LL[i]? = some LL[i] := List.getElem?_eq_getElem hil
      have hdm := List.mem_of_getElem? hd
      have hpl := hp.size.piles d hdm
      -- what the comparison says
      have says : ∃ t, f_r5_Says (more b c) d = some t ∧ [(atP (nodesP (more b (zeroDiff c))) (leftP d.2.2.2.1 d.2.2.1) d.2.1, atP (nodesP (more b (zeroDiff c))) (leftP d.2.2.1 d.2.2.2.1) d.2.1, t.2), (atP (nodesP (more b (zeroDiff c))) (leftP d.2.2.1 d.2.2.2.1) d.2.1, atP (nodesP (more b (zeroDiff c))) (leftP d.2.2.2.1 d.2.2.1) d.2.1, wr64 (0 - t.1))] = LL[i] := by
        rcases Nat.lt_or_ge i b.2.2.2.2.1.length with hlt | hge
        · have hd' : b.2.2.2.2.1[i]? = some d := by
            have : (b.2.2.2.2.1 ++ [c])[i]? = some d := hd
            rwa [List.getElem?_append_left hlt] at this
          have hdm0 : d ∈ (more b (zeroDiff c)).2.2.2.2.1 := List.mem_append.2 (.inl (List.mem_of_getElem? hd'))
          have sb := saysP_bound h' hdm0
          refine ⟨saysP (more b (zeroDiff c)) d, ?_, ?_⟩
          · rw [← RSays_ok h'.size h'.film (h'.cmpIn hdm0)]
            rfl
          · have e : wr64 (0 - (saysP (more b (zeroDiff c)) d).1) = -(saysP (more b (zeroDiff c)) d).1 := by
              have := ck_ok (ρ := Int) (n := 0 - (saysP (more b (zeroDiff c)) d).1) (by omega) (by omega) some
              unfold ck at this
              have := Option.some.inj this
              omega
            have e2 : LL[i] = compareLinks (more b (zeroDiff c)) d := by
              have : LL[i]? = some (compareLinks (more b (zeroDiff c)) d) := by
                rw [List.getElem?_append_left (by simpa using hlt), List.getElem?_map, hd']
                rfl
              rw [hLi] at this
              exact Option.some.inj this
            rw [e, e2]
            rfl
        · have hin : i = b.2.2.2.2.1.length := by omega
          have hd' : d = c := by
            have : (b.2.2.2.2.1 ++ [c])[i]? = some d := hd
            rw [hin, List.getElem?_append_right (Nat.le_refl _), Nat.sub_self] at this
            exact (Option.some.inj this).symm
          subst hd'
          refine ⟨s, hs, ?_⟩
          have : LL[i]? = some [(cy (more b (zeroDiff d)) (zeroDiff d), cx (more b (zeroDiff d)) (zeroDiff d), s.2), (cx (more b (zeroDiff d)) (zeroDiff d), cy (more b (zeroDiff d)) (zeroDiff d), wr64 (0 - s.1))] := by
            rw [List.getElem?_append_right (by simp; omega), hin]
            simp
          rw [hLi] at this
          rw [Option.some.inj this]
          rfl
      obtain ⟨t, ht1, ht2⟩ := says
      rw [ifb_lt' hi, iget_nat hd, Rone_ok (by omega) (by omega), bindF_some]
      rw [show f_r5_Index (((more b c).1.1, (more b c).1.2), b.2.1, (more b c).2.2.1, (more b c).2.2.2.1, (more b c).2.2.2.2.1, (more b c).2.2.2.2.2) (oneP d.2.2.1 d.2.2.2.1, d.2.1) = f_r5_Index (more b c) (oneP d.2.2.1 d.2.2.2.1, d.2.1) from rfl, RIndex_ok hp, bindF_some, Rone_ok (by omega) (by omega), bindF_some]
      rw [show f_r5_Index (((more b c).1.1, (more b c).1.2), b.2.1, (more b c).2.2.1, (more b c).2.2.2.1, (more b c).2.2.2.2.1, (more b c).2.2.2.2.2) (oneP d.2.2.2.1 d.2.2.1, d.2.1) = f_r5_Index (more b c) (oneP d.2.2.2.1 d.2.2.1, d.2.1) from rfl, RIndex_ok hp, bindF_some]
      rw [show f_r5_Says (((more b c).1.1, (more b c).1.2), b.2.1, (more b c).2.2.1, (more b c).2.2.2.1, (more b c).2.2.2.2.1, (more b c).2.2.2.2.2) d = f_r5_Says (more b c) d from rfl, ht1, bindF_some]
      rw [ck_wr, okLen_of (by simp only [List.length_append, List.length_cons, List.length_nil]; omega), Am.iff_true, okLen_of (by simp only [List.length_append, List.length_cons, List.length_nil]; omega), Am.iff_true, ck_succ hi (by omega), take_succ hLi, List.flatten_append, range_flat, idx_one hp, idx_one hp, more_nodes]
      simp only [List.flatten_cons, List.flatten_nil, List.append_nil, List.append_assoc]
      rw [← ht2]
    · try dsimp only
      unfold m_r5_Tie_L2
      rw [ifb_ge, hlen, List.take_of_length_le (by omega)]
      show some _ = some _
      rw [head_eq]
      have : LL.flatten = b.2.2.2.2.1.flatMap (compareLinks (more b (zeroDiff c))) ++ [(cy (more b (zeroDiff c)) (zeroDiff c), cx (more b (zeroDiff c)) (zeroDiff c), s.2), (cx (more b (zeroDiff c)) (zeroDiff c), cy (more b (zeroDiff c)) (zeroDiff c), wr64 (0 - s.1))] := by
        simp [LL, List.flatMap]
      rw [this, ← List.append_assoc]
      rfl
theorem RSystem_more (h' : Good (more b (zeroDiff c))) : ∃ u v, f_r5_System (more b c) = some (((nodesP (more b (zeroDiff c))).length : Int) + 1, headLinks (more b (zeroDiff c)) ++ [u, v]) := by
  have hN := h'.nodes
  obtain ⟨u, v, S, hT⟩ := RTie_more h'
  refine ⟨u, v, ?_⟩
  unfold f_r5_System m_r5_System
  rw [RNodes_ok (pre_more h'), bindF_some, more_nodes, ilen_eq, ck_ok (by omega) (by omega), hT, bindF_some]
theorem cmpIn_more (h' : Good (more b (zeroDiff c))) : CmpIn b (zeroDiff c) := by
  have q := h'.cmpIn (more_mem (c := zeroDiff c))
  exact ⟨⟨q.ok.nums, q.ok.r1, q.ok.r2⟩, q.ids, q.pile⟩
theorem RShown_any (h : Good b) (h' : Good (more b (zeroDiff c))) {d : Int} (hd : -2305843009213693952 ≤ d ∧ d ≤ 2305843009213693952) : f_r5_Shown b c d = some (d + lowP b c, d + highP b c) :=
  (show f_r5_Shown b c d = f_r5_Shown b (zeroDiff c) d from rfl).trans (RShown_ok h.size h.film (cmpIn_more h') hd)
theorem RPredict_ok (h : Good b) (h' : Good (more b (zeroDiff c))) (hA : c.2.2.1.length ≤ 1000) (hB : c.2.2.2.1.length ≤ 1000) : f_r5_Predict b c = some (PredictP b c) := by
  have h2 := (head_sys h').n60
  have hC := h.nC
  obtain ⟨u, v, hS⟩ := RSystem_more h'
  rw [PredictP_eq h h']
  unfold f_r5_Predict m_r5_Predict
  rw [RSystem_ok h, bindF_some, show (((nodesP b).length : Int) + 1) = (((nodesP b).length + 1 : Nat) : Int) by push_cast; rfl, ROpen_ok h.sys h.neg, bindF_some]
  by_cases ho : openP (linksP b) ((nodesP b).length + 1) = true
  · rw [ho, if_pos rfl]
    have ho' : openP (headLinks (more b (zeroDiff c))) ((nodesP (more b (zeroDiff c))).length + 1) = true := by rw [head_open h h']; exact ho
    have em : f_r5_more b c = some (more b c) := by
      unfold f_r5_more m_r5_more
      rw [okLen_of (by omega), Am.iff_true, List.nil_append, okLen_of (by simp only [List.length_singleton]; omega), Am.iff_true]
      rfl
    rw [ifb_f (by rfl), em, bindF_some, hS, bindF_some]
    dsimp only
    have hl := (head_sys h').len
    rw [ilen_eq, ck_ok (by simp only [List.length_append, List.length_cons, List.length_nil]; omega) (by simp only [List.length_append, List.length_cons, List.length_nil]; omega)]
    have e1 : (((headLinks (more b (zeroDiff c)) ++ [u, v]).length : Int) - 2) = ((headLinks (more b (zeroDiff c))).length : Int) := by
      simp only [List.length_append, List.length_cons, List.length_nil]; omega
    rw [e1, iff_of (by simp [ile, olen]; omega), Int.toNat_natCast, List.take_left, Rone_ok (by omega) (by omega), bindF_some, RIndex_ok (pre_more h'), bindF_some, Rone_ok (by omega) (by omega), bindF_some, RIndex_ok (pre_more h'), bindF_some]
    dsimp only
    rw [idx_one (pre_more h'), idx_one (pre_more h'), more_nodes (b := b) (c := c)]
    rw [show atP (nodesP (more b (zeroDiff c))) (leftP c.2.2.1 c.2.2.2.1) c.2.1 = cx (more b (zeroDiff c)) (zeroDiff c) from rfl, show atP (nodesP (more b (zeroDiff c))) (leftP c.2.2.2.1 c.2.2.1) c.2.1 = cy (more b (zeroDiff c)) (zeroDiff c) from rfl]
    have hx := cx_rng h'
    have hy := cy_rng h'
    have bxy := dst_bd (head_sys h') (head_tied h') ho' hx hy
    have byx := dst_bd (head_sys h') (head_tied h') ho' hy hx
    rw [show (((nodesP (more b (zeroDiff c))).length : Int) + 1) = (((nodesP (more b (zeroDiff c))).length + 1 : Nat) : Int) by push_cast; rfl]
    rw [RBounds_ok (head_sys h') ho' hx, bindF_some, iget_gv hy.1 (by rw [boundsP_len]; omega)]
    rw [show gv (boundsP (headLinks (more b (zeroDiff c))) ((nodesP (more b (zeroDiff c))).length + 1) (cx (more b (zeroDiff c)) (zeroDiff c))) (cy (more b (zeroDiff c)) (zeroDiff c)) = dst (headLinks (more b (zeroDiff c))) ((nodesP (more b (zeroDiff c))).length + 1) (cx (more b (zeroDiff c)) (zeroDiff c)) (cy (more b (zeroDiff c)) (zeroDiff c)) from rfl]
    rw [ck_ok (by omega) (by omega), RShown_any h h' (by omega), bindF_some, RBounds_ok (head_sys h') ho' hy, bindF_some, iget_gv hx.1 (by rw [boundsP_len]; omega)]
    rw [show gv (boundsP (headLinks (more b (zeroDiff c))) ((nodesP (more b (zeroDiff c))).length + 1) (cy (more b (zeroDiff c)) (zeroDiff c))) (cx (more b (zeroDiff c)) (zeroDiff c)) = dHi b (zeroDiff c) from rfl]
    rw [show dst (headLinks (more b (zeroDiff c))) ((nodesP (more b (zeroDiff c))).length + 1) (cy (more b (zeroDiff c)) (zeroDiff c)) (cx (more b (zeroDiff c)) (zeroDiff c)) = dHi b (zeroDiff c) from rfl] at byx
    rw [RShown_any h h' (by omega), bindF_some]
    have e2 : 0 - dst (headLinks (more b (zeroDiff c))) ((nodesP (more b (zeroDiff c))).length + 1) (cx (more b (zeroDiff c)) (zeroDiff c)) (cy (more b (zeroDiff c)) (zeroDiff c)) = dLo b (zeroDiff c) := by unfold dLo; omega
    rw [e2, ifb_eq]
    unfold shownP
    rw [show highP b (zeroDiff c) = highP b c from rfl, show lowP b (zeroDiff c) = lowP b c from rfl]
    by_cases hlt : highP b c < lowP b c
    · rw [if_pos (by simp [igt]; omega), if_pos hlt]
    · rw [if_neg (by simp [igt]; omega), if_neg hlt]
  · have : openP (linksP b) ((nodesP b).length + 1) = false := by simpa using ho
    rw [this, ifb_t (by rfl), if_neg (by simp)]
end
end Go.Proofs.ZzM
end

noncomputable section
namespace Go.Proofs.ZzM
open Go Go.Am
theorem RWith_ok {b : Book} (h : Good b) {c : Cmp} (hA : c.2.2.1.length ≤ 1000) (hB : c.2.2.2.1.length ≤ 1000) : f_r5_With b c = some (if checkP (more b c) ≠ 0 then (book0, checkP (more b c)) else (more b c, 0)) := by
  have h5 := h.nC
  unfold f_r5_With m_r5_With f_r5_more m_r5_more
  rw [okLen_of (by omega), Am.iff_true, List.nil_append, okLen_of (by simp only [List.length_singleton]; omega), Am.iff_true, bindF_some]
  rw [show f_r5_Check (b.1, b.2.1, b.2.2.1, b.2.2.2.1, b.2.2.2.2.1 ++ [c], b.2.2.2.2.2) = f_r5_Check (more b c) from rfl, RCheck_ok (more_size h hA hB), bindF_some]
  by_cases hc2 : checkP (more b c) = 0
  · rw [ifb_f (by simp [ine, hc2]), if_neg (show ¬ (checkP (more b c) ≠ 0) from fun h => h hc2)]
    rfl
  · rw [ifb_t (by simp [ine, hc2]), if_pos hc2]
    rfl
end Go.Proofs.ZzM
end

noncomputable section
namespace Go.Proofs.ZzM
open Go Go.Am
theorem brief_ok (c : Cmp) : f_w5_brief c = some (decide (c.2.2.1.length ≤ 9) && decide (c.2.2.2.1.length ≤ 9)) := by
  unfold f_w5_brief m_w5_brief
  rw [ilen_eq, ilen_eq, ifb_eq]
  by_cases h : c.2.2.1.length ≤ 9
  · rw [if_pos (by simp [ile]; omega)]
    simp [ile, h]
    omega
  · rw [if_neg (by simp [ile]; omega)]
    simp [h]
end Go.Proofs.ZzM
end

noncomputable section
namespace Go.Proofs.ZzM
open Go Go.Am
theorem brief_f {c : Cmp} (h : ¬ (c.2.2.1.length ≤ 9 ∧ c.2.2.2.1.length ≤ 9)) : (decide (c.2.2.1.length ≤ 9) && decide (c.2.2.2.1.length ≤ 9)) = false := by
  rw [Bool.eq_false_iff]
  intro h'
  simp only [Bool.and_eq_true, decide_eq_true_eq] at h'
  exact h h'
theorem predicts_law {b : Book} (hn : ∀ g ∈ b.2.1, I64 g.2.2.2.2.1.1) (c : Cmp) : f_w5_ComparePredicts b c = some true := by
  unfold f_w5_ComparePredicts m_w5_ComparePredicts
  rw [small_ok, bindF_some, sanity_ok]
  by_cases hs : smallP b = true
  · obtain ⟨hsz, hC, _⟩ := small_size hs
    rw [ifb_f (by simp [hs]), brief_ok, bindF_some]
    by_cases hbr : c.2.2.1.length ≤ 9 ∧ c.2.2.2.1.length ≤ 9
    · rw [ifb_f (by simp [hbr.1, hbr.2]), Predict_ok hsz hn (by omega) (by omega), bindF_some, RCheck_ok hsz, bindF_some]
      simp only [bindF_some, ifb_true]
      by_cases hc : checkP b = 0
      · have hg := (checkP_iff b).1 hc
        rw [show f_r5_With b (c.1, c.2.1, c.2.2.1, c.2.2.2.1, 0, c.2.2.2.2.2) = f_r5_With b (zeroDiff c) from rfl, RWith_ok hg (c := zeroDiff c) (by show c.2.2.1.length ≤ _; omega) (by show c.2.2.2.1.length ≤ _; omega)]
        rw [ifb_t (by simp [ieq, hc]), bindF_some]
        by_cases hm : checkP (more b (zeroDiff c)) = 0
        · have hg' := (checkP_iff _).1 hm
          rw [if_neg (by simp [hm]), ifb_f (by rfl), RPredict_ok hg hg' (by omega) (by omega)]
          simp [ieq, dieq]
        · have e : PredictP b c = ((0, 0), checkP (more b (zeroDiff c))) := by
            have : (WithP b (zeroDiff c)).2 = checkP (more b (zeroDiff c)) := by
              unfold WithP
              rw [if_neg (by simp [hc]), if_pos hm]
            unfold PredictP
            rw [if_pos (by rw [this]; exact hm), this]
          rw [if_pos hm, ifb_t (by simpa [ine] using hm), e]
          simp [ieq, dieq]
      · have e : PredictP b c = ((0, 0), checkP b) := by
          have : (WithP b (zeroDiff c)).2 = checkP b := by
            unfold WithP
            rw [if_pos hc]
          unfold PredictP
          rw [if_pos (by rw [this]; exact hc), this]
        rw [ifb_f (by simpa [ieq] using hc), ifb_t (by simpa [ine] using hc), e]
        simp [ieq, dieq]
    · rw [ifb_t (by rw [brief_f hbr]; rfl), bindF_some]
  · rw [ifb_t (by simp [hs]), bindF_some]
end Go.Proofs.ZzM
end
