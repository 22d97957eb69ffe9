/- lemmas: PlL0 PlK0 PlKC PlP6 PlDay PlSpread PlOpen PlBnd PlHist PlP4 PlNar PlWz PlBrief PlShows PlSame0 PlSame PlShownL -/
import Derived.Test.YtfkfjebiaelniaaGreatPlB
import Derived.Test.YtfkfjebiaelniaaGreatMdT
import Derived.Test.YtfkfjebiaelniaaGreatPlA
set_option linter.all false
set_option linter.unusedSectionVars false
set_option linter.unusedVariables false
set_option linter.unusedSimpArgs false
noncomputable section
namespace Go.Proofs.ZzM
open Go Go.Am
def smallP (b : Book) : Bool :=
  !((b.2.2.2.2.1.take 60).any fun c => decide (9 < c.2.2.1.length) || decide (9 < c.2.2.2.1.length)) && (decide (b.2.1.length ≤ 14) && (decide (b.2.2.1.length ≤ 42) && (decide (b.2.2.2.1.length ≤ 14) && (decide (b.2.2.2.2.1.length ≤ 42) && decide (b.2.2.2.2.2.length ≤ 12)))))
theorem small_ok (b : Book) : f_w5_small b = some (smallP b) := by
  unfold f_w5_small m_w5_small
  have last : (ifb (ile (ilen b.2.1) (14 : Int)) (ifb (ile (ilen b.2.2.1) (42 : Int)) (ifb (ile (ilen b.2.2.2.1) (14 : Int)) (ifb (ile (ilen b.2.2.2.2.1) (42 : Int)) (some (ile (ilen b.2.2.2.2.2) (12 : Int))) (some false)) (some false)) (some false)) (some false)) =
      some (decide (b.2.1.length ≤ 14) && (decide (b.2.2.1.length ≤ 42) && (decide (b.2.2.2.1.length ≤ 14) && (decide (b.2.2.2.2.1.length ≤ 42) && decide (b.2.2.2.2.2.length ≤ 12))))) := by
    have e : ∀ (n m : Nat), ile (n : Int) (m : Int) = decide (n ≤ m) := fun n m => by simp [ile]
    rw [ilen_eq, ilen_eq, ilen_eq, ilen_eq, ilen_eq, show (14 : Int) = ((14 : Nat) : Int) from rfl, show (42 : Int) = ((42 : Nat) : Int) from rfl, show (12 : Int) = ((12 : Nat) : Int) from rfl, e, e, e, e, e]
    generalize decide (b.2.1.length ≤ 14) = x1
    generalize decide (b.2.2.1.length ≤ 42) = x2
    generalize decide (b.2.2.2.1.length ≤ 14) = x3
    generalize decide (b.2.2.2.2.1.length ≤ 42) = x4
    cases x1 <;> cases x2 <;> cases x3 <;> cases x4 <;> rfl
  refine Eq.trans (loop_any (b.2.2.2.2.1.take 60) (fun c => decide (9 < c.2.2.1.length) || decide (9 < c.2.2.2.1.length)) (fun _ => some false) (some false) (some (decide (b.2.1.length ≤ 14) && (decide (b.2.2.1.length ≤ 42) && (decide (b.2.2.2.1.length ≤ 14) && (decide (b.2.2.2.2.1.length ≤ 42) && decide (b.2.2.2.2.2.length ≤ 12)))))) (fun _ => rfl) (fun i c hi hc kn => ?_) (fun kn => ?_)) ?_
  · try dsimp only
    unfold m_w5_small_L0
    rw [List.length_take] at hi
    have hc' : b.2.2.2.2.1[i]? = some c := by rw [List.getElem?_take] at hc; split at hc <;> simp_all
    rw [ifb_lt' (show i < b.2.2.2.2.1.length by omega), ifb_t (by simp [ilt]; omega), iget_nat hc', iget_nat hc', ck_ok (by omega) (by omega), ifb_eq, ilen_eq, ilen_eq]
    by_cases h1 : 9 < c.2.2.1.length
    · rw [if_pos (by simp [igt]; omega), if_pos (by simp [h1])]
    · rw [if_neg (by simp [igt]; omega), ifb_eq]
      by_cases h2 : 9 < c.2.2.2.1.length
      · rw [if_pos (by simp [igt]; omega), if_pos (by simp [h2])]
      · rw [if_neg (by simp [igt]; omega), if_neg (by simp [h1, h2])]
  · try dsimp only
    unfold m_w5_small_L0
    rw [last, List.length_take, ifb_eq]
    split
    · rename_i h
      have h' : 60 < b.2.2.2.2.1.length := by rw [ilen_eq] at h; simp [ilt] at h; omega
      rw [ifb_f (by simp [ilt]; omega)]
    · rfl
  · unfold smallP
    cases List.any (List.take 60 b.2.2.2.2.1) (fun c => decide (9 < c.2.2.1.length) || decide (9 < c.2.2.2.1.length)) <;> rfl
theorem small_size {b : Book} (h : smallP b = true) : SizeOk b ∧ b.2.2.2.2.1.length ≤ 42 ∧ ∀ c ∈ b.2.2.2.2.1, c.2.2.1.length ≤ 9 ∧ c.2.2.2.1.length ≤ 9 := by
  simp only [smallP, Bool.and_eq_true, Bool.not_eq_true', decide_eq_true_eq] at h
  obtain ⟨h0, h1, h2, h3, h4, h5⟩ := h
  have hp : ∀ c ∈ b.2.2.2.2.1, c.2.2.1.length ≤ 9 ∧ c.2.2.2.1.length ≤ 9 := by
    intro c hc
    rw [List.take_of_length_le (by omega)] at h0
    have := List.any_eq_false.1 h0 c hc
    simp at this
    omega
  exact ⟨⟨by omega, by omega, by omega, by omega, by omega, fun c hc => by have := hp c hc; omega⟩, h4, hp⟩
theorem FitsP_iff {b : Book} {x : List Int} : FitsP b x = (true, 0) ↔ Good b ∧ lengthsP b x = true ∧ fitsP b x = true := by
  unfold FitsP
  constructor
  · intro h
    split at h
    · cases h
    · rename_i hc
      have hc0 : checkP b = 0 := by simpa using hc
      split at h
      · rename_i hl
        simp only [Prod.mk.injEq, and_true] at h
        exact ⟨(checkP_iff b).1 hc0, hl, h⟩
      · cases h
  · rintro ⟨h1, h2, h3⟩
    rw [if_neg (by simp [(checkP_iff b).2 h1]), if_pos h2, h3]
theorem lengthsP_iff {b : Book} {x : List Int} : lengthsP b x = true ↔ x.length = (nodesP b).length ∧ ∀ n ∈ x, -4503599627370496 ≤ n ∧ n ≤ 4503599627370496 := by
  simp [lengthsP, inP]
theorem fitsL_iff {L : List Lk} {x : List Int} : fitsL L x = true ↔ Pot L (gv x) := by
  simp only [fitsL, List.all_eq_true, decide_eq_true_eq, Pot]
  exact ⟨fun h u v m hl => h (u, v, m) hl, fun h l hl => h l.1 l.2.1 l.2.2 hl⟩
theorem gv_cons (a : Int) (x : List Int) {v : Int} (hv : 0 ≤ v) : gv (a :: x) v = if v = 0 then a else gv x (v - 1) := by
  unfold gv
  by_cases h : v = 0
  · subst h; rfl
  · obtain ⟨n, rfl⟩ := Int.eq_ofNat_of_zero_le hv
    cases n with
    | zero => simp at h
    | succ n =>
      have e : (((n + 1 : Nat) : Int) - 1).toNat = n := by omega
      rw [if_neg h, e]
      simp
theorem gv_zip {f : Int → Int → Int} {x y : List Int} (hl : x.length = y.length) {v : Int} (h0 : 0 ≤ v) (h1 : v < x.length) : gv (List.zipWith f x y) v = f (gv x v) (gv y v) := by
  obtain ⟨n, rfl⟩ := Int.eq_ofNat_of_zero_le h0
  have hx : n < x.length := by omega
  have hy : n < y.length := by omega
  unfold gv
  rw [Int.toNat_natCast, List.getElem?_eq_getElem (show n < (List.zipWith f x y).length by simp; omega), List.getElem?_eq_getElem hx, List.getElem?_eq_getElem hy, List.getElem_zipWith]
  rfl
theorem zip_fits {b : Book} (h : Good b) {f : Int → Int → Int} (hf0 : f 0 0 = 0) (hfb : ∀ a c, -4503599627370496 ≤ a ∧ a ≤ 4503599627370496 → -4503599627370496 ≤ c ∧ c ≤ 4503599627370496 → -4503599627370496 ≤ f a c ∧ f a c ≤ 4503599627370496) (hfp : ∀ a a' c c' m : Int, a' ≤ a + m → c' ≤ c + m → f a' c' ≤ f a c + m)
    {x y : List Int} (hx : lengthsP b x = true) (hy : lengthsP b y = true) (fx : fitsP b x = true) (fy : fitsP b y = true) : FitsP b (List.zipWith f x y) = (true, 0) := by
  rw [FitsP_iff]
  obtain ⟨lx, bx⟩ := lengthsP_iff.1 hx
  obtain ⟨ly, by'⟩ := lengthsP_iff.1 hy
  refine ⟨h, lengthsP_iff.2 ⟨by simp; omega, fun n hn => ?_⟩, ?_⟩
  · obtain ⟨i, hi, rfl⟩ := List.mem_iff_getElem.1 hn
    simp only [List.length_zipWith] at hi
    rw [List.getElem_zipWith]
    exact hfb _ _ (bx _ (List.getElem_mem _)) (by' _ (List.getElem_mem _))
  · have px := fitsL_iff.1 (show fitsL (linksP b) (0 :: x) = true from fx)
    have py := fitsL_iff.1 (show fitsL (linksP b) (0 :: y) = true from fy)
    refine fitsL_iff.2 fun u v m hl => ?_
    have hr := h.sys.inr _ hl
    have key : ∀ v : Int, 0 ≤ v → v < ((nodesP b).length + 1 : Nat) → gv (0 :: List.zipWith f x y) v = f (gv (0 :: x) v) (gv (0 :: y) v) := by
      intro v h0 h1
      rw [gv_cons _ _ h0, gv_cons _ _ h0, gv_cons _ _ h0]
      by_cases hv : v = 0
      · simp [hv, hf0]
      · simp only [hv, if_false]
        exact gv_zip (by omega) (by omega) (by omega)
    rw [key v hr.2.1 hr.2.2, key u hr.1.1 hr.1.2]
    exact hfp _ _ _ _ _ (px u v m hl) (py u v m hl)
def nearF (a c : Int) : Int := a + (if c < a then -1 else if a < c then 1 else 0)
theorem zip_take {f : Int → Int → Int} {x y : List Int} {i : Nat} {a c : Int} (ha : x[i]? = some a) (hc : y[i]? = some c) : List.zipWith f (x.take (i + 1)) (y.take (i + 1)) = List.zipWith f (x.take i) (y.take i) ++ [f a c] := by
  obtain ⟨h1, _⟩ := List.getElem?_eq_some_iff.1 ha
  obtain ⟨h2, _⟩ := List.getElem?_eq_some_iff.1 hc
  rw [take_succ ha, take_succ hc, List.zipWith_append (by rw [List.length_take, List.length_take]; omega)]
  rfl
end Go.Proofs.ZzM
end

noncomputable section
namespace Go.Proofs.ZzM
open Go Go.Am
section
variable {b : Book}
theorem off_all : off b b.2.1.length = (nodesP b).length := by unfold off nodesP; rw [List.take_length]
theorem off_find : ∀ n, n ≤ b.2.1.length → ∀ j, j < off b n → ∃ (i : Nat) (g : Gauge) (k : Nat), b.2.1[i]? = some g ∧ k < (daysP b g).length ∧ j = off b i + k := by
  intro n
  induction n with
  | zero => intro _ j hj; simp [off] at hj
  | succ n ih =>
    intro hn j hj
    have hg : b.2.1[n]? = some b.2.1[n] := List.getElem?_eq_getElem (by omega)
    rw [off_succ hg] at hj
    by_cases h : j < off b n
    · exact ih (by omega) j h
    · exact ⟨n, _, j - off b n, hg, by omega, by omega⟩
theorem node_split {v : Int} (h0 : 1 ≤ v) (h1 : v < ((nodesP b).length + 1 : Nat)) : ∃ (i : Nat) (g : Gauge) (k : Nat), b.2.1[i]? = some g ∧ k < (daysP b g).length ∧ v = (off b i : Int) + k + 1 := by
  obtain ⟨i, g, k, h2, h3, h4⟩ := off_find (b := b) b.2.1.length (Nat.le_refl _) (v - 1).toNat (by rw [off_all]; omega)
  exact ⟨i, g, k, h2, h3, by omega⟩
def GL (b : Book) (L : List Lk) : Prop := ∀ (i : Nat) (g : Gauge), b.2.1[i]? = some g → ∀ l ∈ gaugeLinks b g, l ∈ L
theorem gl_links : GL b (linksP b) := fun i g hg l hl => linksP_mem.2 (.inl ⟨i, g, hg, hl⟩)
theorem tied_to {L : List Lk} (h : Good b) (hL : GL b L) {v : Int} (h0 : 0 ≤ v) (h1 : v < ((nodesP b).length + 1 : Nat)) : ∃ vs d, Wl L (fun u => u = 0) vs v d ∧ d ≤ 4503599627370496 := by
  by_cases hv : v = 0
  · exact ⟨[], 0, .nil hv, by omega⟩
  obtain ⟨i, g, k, hg, hk, rfl⟩ := node_split (by omega) h1
  have hr := h.gaugeR (List.mem_of_getElem? hg)
  have r1 := hr.2.2.2.2.2.1
  have r2 := hr.2.2.2.2.2.2.1
  have key : ∀ k : Nat, k < (daysP b g).length → ∃ vs, Wl L (fun u => u = 0) vs ((off b i : Int) + k + 1) (g.2.2.1 + g.2.2.2.1.2) := by
    intro k
    induction k with
    | zero =>
      intro _
      have hw : Wl L (fun u => u = 0) [0] ((off b i : Int) + 1) (0 + (g.2.2.1 + g.2.2.2.1.2)) := Wl.step (.nil rfl) (hL i g hg _ ((gaugeLinks_mem h hg).2 (.inl rfl)))
      rw [Int.zero_add] at hw
      exact ⟨[0], by simpa using hw⟩
    | succ k ih =>
      intro hk
      obtain ⟨vs, hw⟩ := ih (by omega)
      have hw' := Wl.step hw (hL i g hg _ ((gaugeLinks_mem h hg).2 (.inr (.inr ⟨k, _, _, List.getElem?_eq_getElem (show k < _ by omega), List.getElem?_eq_getElem hk, .inl rfl⟩))))
      rw [Int.add_zero] at hw'
      have e : (off b i : Int) + ((k + 1 : Nat) : Int) + 1 = (off b i : Int) + k + 2 := by push_cast; omega
      exact ⟨_, by rw [e]; exact hw'⟩
  obtain ⟨vs, hw⟩ := key k hk
  exact ⟨vs, _, hw, by omega⟩
theorem tied_from {L : List Lk} (h : Good b) (hL : GL b L) {v : Int} (h0 : 0 ≤ v) (h1 : v < ((nodesP b).length + 1 : Nat)) : ∃ vs d, Wl L (fun u => u = v) vs 0 d ∧ d ≤ 4503599627370496 := by
  by_cases hv : v = 0
  · exact ⟨[], 0, .nil hv.symm, by omega⟩
  obtain ⟨i, g, k, hg, hk, rfl⟩ := node_split (by omega) h1
  have hgm := List.mem_of_getElem? hg
  have hr := h.gaugeR hgm
  have r1 := hr.2.2.2.2.2.1
  have r2 := hr.2.2.2.2.2.2.1
  have hd := days_len h hgm
  have key : ∀ m : Nat, m ≤ k → ∃ vs d, Wl L (fun u => u = (off b i : Int) + k + 1) vs ((off b i : Int) + (k - m : Nat) + 1) d ∧ d ≤ m * (12 * (20001 * 1048576) + 40 * 1048576) := by
    intro m
    induction m with
    | zero => intro _; exact ⟨[], 0, .nil (by simp), by simp⟩
    | succ m ih =>
      intro hm
      obtain ⟨vs, d, hw, hd⟩ := ih (by omega)
      have e1 : ((k - m : Nat) : Int) = ((k - (m + 1) : Nat) : Int) + 1 := by omega
      have hl : (((off b i : Int) + (k - (m + 1) : Nat) + 2, (off b i : Int) + (k - (m + 1) : Nat) + 1, lossP b g ((daysP b g)[k - (m + 1)]'(by omega)) ((daysP b g)[k - (m + 1) + 1]'(by omega))) : Lk) ∈ L :=
        hL i g hg _ ((gaugeLinks_mem h hg).2 (.inr (.inr ⟨k - (m + 1), _, _, List.getElem?_eq_getElem (by omega), List.getElem?_eq_getElem (by omega), .inr rfl⟩)))
      have hb := lossP_bound h hgm (f := (daysP b g)[k - (m + 1)]'(by omega)) (t := (daysP b g)[k - (m + 1) + 1]'(by omega)) (h.day hgm (List.getElem_mem _)).2.1
      have e2 : (off b i : Int) + (k - m : Nat) + 1 = (off b i : Int) + (k - (m + 1) : Nat) + 2 := by omega
      rw [e2] at hw
      exact ⟨_, _, .step hw hl, by push_cast; omega⟩
  obtain ⟨vs, d, hw, hdb⟩ := key k (Nat.le_refl _)
  have e : (off b i : Int) + (k - k : Nat) + 1 = (off b i : Int) + 1 := by omega
  rw [e] at hw
  have hw' := Wl.step hw (hL i g hg _ ((gaugeLinks_mem h hg).2 (.inr (.inl rfl))))
  exact ⟨_, _, hw', by omega⟩
theorem pot_near (h : Good b) {p : Int → Int} (hp : Pot (linksP b) p) {v : Int} (h0 : 0 ≤ v) (h1 : v < ((nodesP b).length + 1 : Nat)) : -4503599627370496 ≤ p v - p 0 ∧ p v - p 0 ≤ 4503599627370496 := by
  obtain ⟨vs, d, hw, hd⟩ := tied_to h gl_links h0 h1
  obtain ⟨ws, e, hx, he⟩ := tied_from h gl_links h0 h1
  obtain ⟨s, rfl, hs⟩ := hw.pot hp
  obtain ⟨t, rfl, ht⟩ := hx.pot hp
  omega
end
structure TiedL (L : List Lk) (N : Nat) : Prop where
  to : ∀ v : Int, 0 ≤ v → v < N → ∃ vs d, Wl L (fun u => u = 0) vs v d ∧ d ≤ 4503599627370496
  from' : ∀ v : Int, 0 ≤ v → v < N → ∃ vs d, Wl L (fun u => u = v) vs 0 d ∧ d ≤ 4503599627370496
theorem Good.tied {b : Book} (h : Good b) : TiedL (linksP b) ((nodesP b).length + 1) := ⟨fun v h0 h1 => tied_to h gl_links h0 h1, fun v h0 h1 => tied_from h gl_links h0 h1⟩
theorem Good.tiedL {b : Book} {L : List Lk} (h : Good b) (hL : GL b L) : TiedL L ((nodesP b).length + 1) := ⟨fun v h0 h1 => tied_to h hL h0 h1, fun v h0 h1 => tied_from h hL h0 h1⟩
section
variable {L : List Lk} {N : Nat}
theorem one_wl {L : List Lk} {s : Int} {vs : List Int} {v d : Int} : Wl L (fun v => oneS s v = true) vs v d ↔ Wl L (fun u => u = s) vs v d :=
  ⟨fun h => h.mono fun u hu => by simpa [oneS] using hu, fun h => h.mono fun u hu => by simpa [oneS] using hu⟩
def leastP (L : List Lk) (N : Nat) : List Int := (List.range N).map fun (n : Nat) => -(gv (boundsP L N n) 0)
theorem boundsP_len (s : Int) : (boundsP L N s).length = N := by unfold boundsP; rw [passes_length, start_length]
theorem leastP_len : (leastP L N).length = N := by simp [leastP]
theorem leastP_gv {v : Int} (h0 : 0 ≤ v) (h1 : v < N) : gv (leastP L N) v = -(gv (boundsP L N v) 0) := by
  unfold gv leastP
  rw [List.getElem?_map, List.getElem?_range (by omega)]
  simp only [Option.map_some, Option.getD_some, Int.toNat_of_nonneg h0]
  rfl
theorem bounds0_ne (h : SysOk L N) (ht : TiedL L N) (ho : openP L N = true) {v : Int} (h0 : 0 ≤ v) (h1 : v < N) : gv (boundsP L N 0) v ≤ 4503599627370496 := by
  have h2 := h.n60
  have h3 := h.n1
  obtain ⟨p, hp⟩ := (openP_iff h.links (by omega)).1 ho
  obtain ⟨vs, d, hw, hd⟩ := ht.to v h0 h1
  have := (bounds_dist h.links (by omega) hp (s := 0) ⟨by omega, by omega⟩).low v vs d (one_wl.2 hw)
  omega
theorem boundsV_ne (h : SysOk L N) (ht : TiedL L N) (ho : openP L N = true) {v : Int} (h0 : 0 ≤ v) (h1 : v < N) : gv (boundsP L N v) 0 ≤ 4503599627370496 := by
  have h2 := h.n60
  have h3 := h.n1
  obtain ⟨p, hp⟩ := (openP_iff h.links (by omega)).1 ho
  obtain ⟨vs, d, hw, hd⟩ := ht.from' v h0 h1
  have := (bounds_dist h.links (by omega) hp (s := v) ⟨h0, h1⟩).low 0 vs d (one_wl.2 hw)
  omega
theorem bounds_self (h : SysOk L N) (ho : openP L N = true) {v : Int} (h0 : 0 ≤ v) (h1 : v < N) : gv (boundsP L N v) v = 0 := by
  have h2 := h.n60
  obtain ⟨p, hp⟩ := (openP_iff h.links (by omega)).1 ho
  have hd := bounds_dist h.links (by omega) hp (s := v) ⟨h0, h1⟩
  have h3 := hd.low v [] 0 (.nil (by simp [oneS]))
  obtain ⟨vs, hw⟩ := hd.att v h0 h1 (by unfold Free; omega)
  obtain ⟨s, hs, hx⟩ := (one_wl.1 hw).pot hp
  subst hs
  omega
theorem bounds0_pot (h : SysOk L N) (ht : TiedL L N) (ho : openP L N = true) : Pot L (gv (boundsP L N 0)) := by
  have h2 := h.n60
  have h3 := h.n1
  obtain ⟨p, hp⟩ := (openP_iff h.links (by omega)).1 ho
  intro u v m hl
  have hr := h.inr _ hl
  have := bounds0_ne h ht ho hr.1.1 hr.1.2
  exact (bounds_dist h.links (by omega) hp (s := 0) ⟨by omega, by omega⟩).pot h.inr hl (by simp only at this; unfold Free; omega)
theorem Wl.cons {u v m : Int} (hl : (u, v, m) ∈ L) {vs : List Int} {w d : Int} (hw : Wl L (fun x => x = v) vs w d) : ∃ vs', Wl L (fun x => x = u) vs' w (m + d) := by
  induction hw with
  | nil h =>
    subst h
    have := Wl.step (S := fun x => x = u) (.nil rfl) hl
    rw [Int.zero_add] at this
    exact ⟨_, by rw [Int.add_zero]; exact this⟩
  | @step vs x y n d hw hx ih =>
    obtain ⟨vs', h'⟩ := ih
    have := Wl.step h' hx
    rw [Int.add_assoc] at this
    exact ⟨_, this⟩
theorem least_pot (h : SysOk L N) (ht : TiedL L N) (ho : openP L N = true) : Pot L (gv (leastP L N)) := by
  have h2 := h.n60
  obtain ⟨p, hp⟩ := (openP_iff h.links (by omega)).1 ho
  intro u v m hl
  have hr := h.inr _ hl
  rw [leastP_gv hr.2.1 hr.2.2, leastP_gv hr.1.1 hr.1.2]
  have hf := boundsV_ne h ht ho hr.2.1 hr.2.2
  have h3 := h.n1
  obtain ⟨vs, hw⟩ := (bounds_dist h.links (by omega) hp (s := v) ⟨hr.2.1, hr.2.2⟩).att 0 (by omega) (by omega) (by simp only at hf; unfold Free; omega)
  obtain ⟨vs', hw'⟩ := Wl.cons hl (one_wl.1 hw)
  have := (bounds_dist h.links (by omega) hp (s := u) ⟨hr.1.1, hr.1.2⟩).low 0 vs' _ (one_wl.2 hw')
  simp only
  omega
theorem least_zero (h : SysOk L N) (ho : openP L N = true) : gv (leastP L N) 0 = 0 := by
  have h3 := h.n1
  rw [leastP_gv (by omega) (by omega), bounds_self h ho (by omega) (by omega)]
  rfl
end
end Go.Proofs.ZzM
end

noncomputable section
namespace Go.Proofs.ZzM
open Go Go.Am
section
variable {L : List Lk} {N : Nat}
theorem Consistent_ok (h : SysOk L N) : f_h_Consistent ((N : Int), L) = some (openP L N, 0) := by
  have h2 := h.n60
  unfold f_h_Consistent m_h_Consistent
  rw [ChainCheck_ok h, bindF_some]
  dsimp only
  rw [ifb_f (by rfl), solution_ok h.links h.n1 (by omega), bindF_some]
  cases openP L N <;> rfl
end
end Go.Proofs.ZzM
end

noncomputable section
namespace Go.Proofs.ZzM
open Go Go.Am
def usedP (b : Book) (id day : Int) : Bool := b.2.2.1.any fun u => u.1 == id && u.2 == day
def dayLoss (b : Book) (g : Gauge) (d : Int) : Int := match awayP b g.1 d with | some l => l.2.2 | none => if usedP b g.1 d then g.2.2.2.2.2 else 0
theorem loan_term (l : Loan) (id : Int) {f t : Int} (hft : f ≤ t) : (if l.1 = id ∧ 0 < loanDays l f (t + 1) then loanDays l f (t + 1) * l.2.2 else 0) = (if l.1 = id ∧ 0 < loanDays l f t then loanDays l f t * l.2.2 else 0) + (if l.1 = id ∧ l.2.1.1 ≤ t ∧ t ≤ l.2.1.2 then l.2.2 else 0) := by
  by_cases hid : l.1 = id
  · by_cases h1 : l.2.1.1 ≤ t ∧ t ≤ l.2.1.2
    · have e : loanDays l f (t + 1) = loanDays l f t + 1 := by unfold loanDays; omega
      have p : 0 ≤ loanDays l f t := by unfold loanDays; omega
      rw [e, if_pos ⟨hid, by omega⟩, if_pos (show l.1 = id ∧ l.2.1.1 ≤ t ∧ t ≤ l.2.1.2 from ⟨hid, h1⟩), Int.add_mul, Int.one_mul]
      by_cases hp : 0 < loanDays l f t
      · rw [if_pos ⟨hid, hp⟩]
      · rw [if_neg (fun h => hp h.2)]
        have : loanDays l f t = 0 := by omega
        rw [this]
        omega
    · rw [if_neg (show ¬ (l.1 = id ∧ l.2.1.1 ≤ t ∧ t ≤ l.2.1.2) from fun h => h1 h.2), Int.add_zero]
      by_cases hlo : l.2.1.1 ≤ t
      · have e : loanDays l f (t + 1) = loanDays l f t := by unfold loanDays; omega
        rw [e]
      · have p1 : ¬ 0 < loanDays l f (t + 1) := by unfold loanDays; omega
        have p2 : ¬ 0 < loanDays l f t := by unfold loanDays; omega
        rw [if_neg (fun h => p1 h.2), if_neg (fun h => p2 h.2)]
  · rw [if_neg (fun h => hid h.1), if_neg (fun h => hid h.1), if_neg (fun h => hid h.1)]
    rfl
theorem loans_step (id : Int) {f t : Int} (hft : f ≤ t) : ∀ {x : List Loan}, x.Pairwise (fun a c => ¬ (a.1 = c.1 ∧ a.2.1.1 ≤ c.2.1.2 ∧ c.2.1.1 ≤ a.2.1.2)) →
    loanLoss id f (t + 1) x = loanLoss id f t x + (match x.find? (fun l => l.1 == id && inP t l.2.1.1 l.2.1.2) with | some l => l.2.2 | none => 0)
  | [], _ => rfl
  | l :: r, hp => by
    rw [List.pairwise_cons] at hp
    have ih := loans_step id hft hp.2
    simp only [loanLoss]
    rw [ih, loan_term l id hft, List.find?_cons]
    by_cases hm : l.1 = id ∧ l.2.1.1 ≤ t ∧ t ≤ l.2.1.2
    · have e : (l.1 == id && inP t l.2.1.1 l.2.1.2) = true := by simp [inP, hm.1, hm.2.1, hm.2.2]
      have hn : r.find? (fun l => l.1 == id && inP t l.2.1.1 l.2.1.2) = none := by
        rw [List.find?_eq_none]
        intro c hc hcm
        simp only [inP, Bool.and_eq_true, beq_iff_eq, decide_eq_true_eq] at hcm
        exact hp.1 c hc ⟨by rw [hm.1, hcm.1], by omega, by omega⟩
      rw [if_pos hm, e, hn]
      simp only
      omega
    · have e : (l.1 == id && inP t l.2.1.1 l.2.1.2) = false := by
        rw [Bool.eq_false_iff]
        intro h
        simp only [inP, Bool.and_eq_true, beq_iff_eq, decide_eq_true_eq] at h
        exact hm h
      rw [if_neg hm, e]
      simp only
      omega
section
variable {b : Book}
theorem Good.apart (h : Good b) : b.2.2.2.1.Pairwise (fun a c => ¬ (a.1 = c.1 ∧ a.2.1.1 ≤ c.2.1.2 ∧ c.2.1.1 ≤ a.2.1.2)) := by
  rw [List.pairwise_iff_getElem]
  intro i j hi hj hij ⟨h1, h2, h3⟩
  have hz := h.loans j _ (List.getElem?_eq_getElem hj)
  unfold loanE at hz
  have hany : (b.2.2.2.1.take j).any (fun x => x.1 == b.2.2.2.1[j].1 && (decide (x.2.1.1 ≤ b.2.2.2.1[j].2.1.2) && decide (b.2.2.2.1[j].2.1.1 ≤ x.2.1.2))) = true := by
    rw [List.any_eq_true]
    exact ⟨b.2.2.2.1[i], List.mem_iff_getElem.2 ⟨i, by rw [List.length_take]; omega, by rw [List.getElem_take]⟩, by simp [h1, h2, h3]⟩
  rw [hany] at hz
  (repeat' split at hz) <;> first | omega | simp_all
theorem Good.notUsed (h : Good b) {id d : Int} {l : Loan} (hl : awayP b id d = some l) : usedP b id d = false := by
  have hm := List.mem_of_find?_eq_some hl
  have hp := List.find?_some hl
  simp only [inP, Bool.and_eq_true, beq_iff_eq, decide_eq_true_eq] at hp
  obtain ⟨j, hj, rfl⟩ := List.mem_iff_getElem.1 hm
  have hz := h.loans j _ (List.getElem?_eq_getElem hj)
  rw [Bool.eq_false_iff]
  intro hu
  obtain ⟨u, hu, hue⟩ := List.any_eq_true.1 hu
  simp only [Bool.and_eq_true, beq_iff_eq] at hue
  have hany : b.2.2.1.any (fun u => u.1 == b.2.2.2.1[j].1 && inP u.2 b.2.2.2.1[j].2.1.1 b.2.2.2.1[j].2.1.2) = true := by
    rw [List.any_eq_true]
    exact ⟨u, hu, by simp only [inP, Bool.and_eq_true, beq_iff_eq, decide_eq_true_eq]; exact ⟨by rw [hue.1, hp.1], by omega, by omega⟩⟩
  unfold loanE at hz
  rw [hany] at hz
  (repeat' split at hz) <;> first | omega | simp_all
theorem useDays_step {id f t : Int} (hft : f ≤ t) : setI (useDays b id f (t + 1)) = setI (useDays b id f t) ++ if usedP b id t then [t] else [] := by
  have hm : ∀ t x, x ∈ useDays b id f t ↔ usedP b id x = true ∧ f ≤ x ∧ x < t := by
    intro t x
    unfold useDays usedP
    simp only [List.mem_map, List.mem_filter, List.any_eq_true, inP, Bool.and_eq_true, beq_iff_eq, decide_eq_true_eq]
    constructor
    · rintro ⟨u, ⟨h1, h2, h3, h4⟩, rfl⟩
      exact ⟨⟨u, h1, h2, rfl⟩, h3, by omega⟩
    · rintro ⟨⟨u, h1, h2, rfl⟩, h3, h4⟩
      exact ⟨u, ⟨h1, h2, h3, by omega⟩, rfl⟩
  refine asc_ext (setI_lt _) ?_ fun x => ?_
  · rw [List.pairwise_append]
    refine ⟨setI_lt _, by split <;> simp, fun a ha c hc => ?_⟩
    rw [setI_mem, hm] at ha
    split at hc
    · rw [List.mem_singleton] at hc; omega
    · cases hc
  · rw [setI_mem, hm, List.mem_append, setI_mem, hm]
    by_cases hu : usedP b id t = true
    · rw [if_pos hu, List.mem_singleton]
      constructor
      · rintro ⟨h1, h2, h3⟩
        by_cases he : x = t
        · exact .inr he
        · exact .inl ⟨h1, h2, by omega⟩
      · rintro (⟨h1, h2, h3⟩ | rfl)
        · exact ⟨h1, h2, by omega⟩
        · exact ⟨hu, hft, by omega⟩
    · rw [if_neg hu]
      constructor
      · rintro ⟨h1, h2, h3⟩
        refine .inl ⟨h1, h2, ?_⟩
        by_cases he : x = t
        · rw [he] at h1; exact absurd h1 hu
        · omega
      · rintro (⟨h1, h2, h3⟩ | h)
        · exact ⟨h1, h2, by omega⟩
        · cases h
theorem loss_step (h : Good b) (g : Gauge) {f t : Int} (hft : f ≤ t) : lossP b g f (t + 1) = lossP b g f t + dayLoss b g t := by
  unfold lossP dayLoss
  rw [loans_step g.1 hft h.apart, useDays_step hft]
  show loanLoss g.1 f t b.2.2.2.1 + (match awayP b g.1 t with | some l => l.2.2 | none => 0) + _ = _
  cases ha : awayP b g.1 t with
  | some l =>
    rw [h.notUsed ha]
    simp only [Bool.false_eq_true, if_false, List.append_nil]
    omega
  | none =>
    simp only
    cases usedP b g.1 t with
    | true => simp only [if_true, List.length_append, List.length_singleton, Int.natCast_add, Int.add_mul]; omega
    | false => simp only [Bool.false_eq_true, if_false, List.append_nil]; omega
theorem loss_none (g : Gauge) {f t : Int} (hft : t ≤ f) : lossP b g f t = 0 := by
  unfold lossP
  have h1 : ∀ x : List Loan, loanLoss g.1 f t x = 0 := by
    intro x
    induction x with
    | nil => rfl
    | cons l r ih =>
      simp only [loanLoss]
      rw [ih, if_neg (by unfold loanDays; omega)]
      rfl
  have h2 : useDays b g.1 f t = [] := by
    unfold useDays
    rw [List.filter_eq_nil_iff.2 fun u hu hc => by
      simp only [inP, Bool.and_eq_true, beq_iff_eq, decide_eq_true_eq] at hc
      omega]
    rfl
  rw [h1, h2]
  have h3 : setI ([] : List Int) = [] := rfl
  rw [h3]
  simp
theorem dayLoss_bound (h : Good b) {g : Gauge} (hg : g ∈ b.2.1) (d : Int) : 0 ≤ dayLoss b g d ∧ dayLoss b g d ≤ 1048576 := by
  have hr := (h.gaugeR hg).2.2.2.2.2.2.2
  unfold dayLoss
  cases ha : awayP b g.1 d with
  | some l => exact (loanE_zero h (List.mem_of_find?_eq_some ha)).2
  | none => simp only; split <;> omega
end
end Go.Proofs.ZzM
end

noncomputable section
namespace Go.Proofs.ZzM
open Go Go.Am
section
variable {b : Book}
theorem loss_add (h : Good b) (g : Gauge) {f t u : Int} (h1 : f ≤ t) (h2 : t ≤ u) : lossP b g f u = lossP b g f t + lossP b g t u := by
  obtain ⟨n, rfl⟩ : ∃ n : Nat, u = t + n := ⟨(u - t).toNat, by omega⟩
  clear h2
  induction n with
  | zero => simp [loss_none]
  | succ n ih =>
    have e : t + ((n + 1 : Nat) : Int) = (t + n) + 1 := by omega
    rw [e, loss_step h g (show f ≤ t + (n : Int) by omega), loss_step h g (show t ≤ t + (n : Int) by omega), ih]
    omega
theorem loss_nonneg (h : Good b) {g : Gauge} (hg : g ∈ b.2.1) {f t : Int} (hf : 0 ≤ f) : 0 ≤ lossP b g f t := (lossP_bound h hg hf).1
def nodeP (b : Book) (id d : Int) : Int := match nodeIdx (nodesP b) id d with | some j => (j : Int) + 1 | none => 0
theorem nodeP_at (h : Good b) {i : Nat} {g : Gauge} (hg : b.2.1[i]? = some g) {k : Nat} {d : Int} (hk : (daysP b g)[k]? = some d) : nodeP b g.1 d = (off b i : Int) + k + 1 := by
  unfold nodeP
  rw [node_at h hg hk]
  simp only
  omega
structure GaugeFits (b : Book) (p : Int → Int) (g : Gauge) : Prop where
  hi : p (nodeP b g.1 g.2.1) ≤ p 0 + (g.2.2.1 + g.2.2.2.1.2)
  lo : p 0 + (g.2.2.1 + g.2.2.2.1.1) ≤ p (nodeP b g.1 g.2.1)
  down : ∀ d e, d ∈ daysP b g → e ∈ daysP b g → d ≤ e → p (nodeP b g.1 e) ≤ p (nodeP b g.1 d)
  loss : ∀ d e, d ∈ daysP b g → e ∈ daysP b g → d ≤ e → p (nodeP b g.1 d) ≤ p (nodeP b g.1 e) + lossP b g d e
theorem gaugeFits_iff (h : Good b) {i : Nat} {g : Gauge} (hg : b.2.1[i]? = some g) {p : Int → Int} : (∀ l ∈ gaugeLinks b g, p l.2.1 ≤ p l.1 + l.2.2) ↔ GaugeFits b p g := by
  have hgm := List.mem_of_getElem? hg
  obtain ⟨tl, htl⟩ := days_head h hgm
  have h0 : nodeP b g.1 g.2.1 = (off b i : Int) + 1 := by
    have := nodeP_at h hg (k := 0) (d := g.2.1) (by rw [htl]; rfl)
    rw [this]
    omega
  constructor
  · intro hl
    have e1 := hl _ ((gaugeLinks_mem h hg).2 (.inl rfl))
    have e2 := hl _ ((gaugeLinks_mem h hg).2 (.inr (.inl rfl)))
    simp only at e1 e2
    have step : ∀ (k : Nat) (d e : Int), (daysP b g)[k]? = some d → (daysP b g)[k + 1]? = some e → p (nodeP b g.1 e) ≤ p (nodeP b g.1 d) ∧ p (nodeP b g.1 d) ≤ p (nodeP b g.1 e) + lossP b g d e := by
      intro k d e hd he
      have a1 := hl _ ((gaugeLinks_mem h hg).2 (.inr (.inr ⟨k, d, e, hd, he, .inl rfl⟩)))
      have a2 := hl _ ((gaugeLinks_mem h hg).2 (.inr (.inr ⟨k, d, e, hd, he, .inr rfl⟩)))
      simp only at a1 a2
      rw [nodeP_at h hg hd, nodeP_at h hg he]
      have e3 : (off b i : Int) + ((k + 1 : Nat) : Int) + 1 = (off b i : Int) + k + 2 := by omega
      rw [e3]
      exact ⟨by omega, a2⟩
    have pair : ∀ (n k : Nat) (d e : Int), (daysP b g)[k]? = some d → (daysP b g)[k + n]? = some e → p (nodeP b g.1 e) ≤ p (nodeP b g.1 d) ∧ p (nodeP b g.1 d) ≤ p (nodeP b g.1 e) + lossP b g d e := by
      intro n
      induction n with
      | zero =>
        intro k d e hd he
        rw [Nat.add_zero, hd] at he
        cases he
        rw [loss_none g (Int.le_refl _)]
        omega
      | succ n ih =>
        intro k d e hd he
        have hlt := (List.getElem?_eq_some_iff.1 he).1
        have hm : (daysP b g)[k + n]? = some ((daysP b g)[k + n]'(by omega)) := List.getElem?_eq_getElem (by omega)
        obtain ⟨a1, a2⟩ := ih k d _ hd hm
        obtain ⟨a3, a4⟩ := step (k + n) _ e hm he
        have o1 : d ≤ (daysP b g)[k + n]'(by omega) := by
          obtain ⟨hkl, hkd⟩ := List.getElem?_eq_some_iff.1 hd
          rcases Nat.eq_zero_or_pos n with rfl | hn
          · rw [← hkd]; exact Int.le_of_eq (by congr 1)
          · have := (List.pairwise_iff_getElem.1 (days_lt b g)) k (k + n) hkl (by omega) (by omega)
            rw [hkd] at this; omega
        have o2 : (daysP b g)[k + n]'(by omega) ≤ e := by
          obtain ⟨hel, hee⟩ := List.getElem?_eq_some_iff.1 he
          have := (List.pairwise_iff_getElem.1 (days_lt b g)) (k + n) (k + (n + 1)) (by omega) hel (by omega)
          rw [hee] at this; omega
        have := loss_add h g o1 o2
        omega
    have any : ∀ d e, d ∈ daysP b g → e ∈ daysP b g → d ≤ e → p (nodeP b g.1 e) ≤ p (nodeP b g.1 d) ∧ p (nodeP b g.1 d) ≤ p (nodeP b g.1 e) + lossP b g d e := by
      intro d e hd he hde
      obtain ⟨k, hk, rfl⟩ := List.mem_iff_getElem.1 hd
      obtain ⟨m, hm, rfl⟩ := List.mem_iff_getElem.1 he
      have hkm : k ≤ m := by
        rcases Nat.lt_or_ge m k with hlt | hge
        · have := (List.pairwise_iff_getElem.1 (days_lt b g)) m k hm hk hlt; omega
        · exact hge
      exact pair (m - k) k _ _ (List.getElem?_eq_getElem hk) (by rw [show k + (m - k) = m by omega]; exact List.getElem?_eq_getElem hm)
    exact ⟨by rw [h0]; omega, by rw [h0]; omega, fun d e hd he hde => (any d e hd he hde).1, fun d e hd he hde => (any d e hd he hde).2⟩
  · intro hf l hl
    rcases (gaugeLinks_mem h hg).1 hl with rfl | rfl | ⟨k, d, e, hd, he, rfl | rfl⟩
    · have := hf.hi; rw [h0] at this; simp only; omega
    · have := hf.lo; rw [h0] at this; simp only; omega
    · have hde : d ≤ e := by
        obtain ⟨a1, a2⟩ := List.getElem?_eq_some_iff.1 hd
        obtain ⟨a3, a4⟩ := List.getElem?_eq_some_iff.1 he
        have := (List.pairwise_iff_getElem.1 (days_lt b g)) k (k + 1) a1 a3 (by omega)
        rw [a2, a4] at this; omega
      have := hf.down d e (List.mem_of_getElem? hd) (List.mem_of_getElem? he) hde
      rw [nodeP_at h hg hd, nodeP_at h hg he] at this
      have e3 : (off b i : Int) + ((k + 1 : Nat) : Int) + 1 = (off b i : Int) + k + 2 := by omega
      rw [e3] at this
      simp only
      omega
    · have hde : d ≤ e := by
        obtain ⟨a1, a2⟩ := List.getElem?_eq_some_iff.1 hd
        obtain ⟨a3, a4⟩ := List.getElem?_eq_some_iff.1 he
        have := (List.pairwise_iff_getElem.1 (days_lt b g)) k (k + 1) a1 a3 (by omega)
        rw [a2, a4] at this; omega
      have := hf.loss d e (List.mem_of_getElem? hd) (List.mem_of_getElem? he) hde
      rw [nodeP_at h hg hd, nodeP_at h hg he] at this
      have e3 : (off b i : Int) + ((k + 1 : Nat) : Int) + 1 = (off b i : Int) + k + 2 := by omega
      rw [e3] at this
      simp only
      exact this
theorem pot_iff (h : Good b) {p : Int → Int} : Pot (linksP b) p ↔ (∀ g ∈ b.2.1, GaugeFits b p g) ∧ ∀ c ∈ b.2.2.2.2.1, p (cx b c) ≤ p (cy b c) + (saysP b c).2 ∧ p (cy b c) + (saysP b c).1 ≤ p (cx b c) := by
  constructor
  · intro hp
    refine ⟨fun g hg => ?_, fun c hc => ?_⟩
    · obtain ⟨i, hi, rfl⟩ := List.mem_iff_getElem.1 hg
      exact (gaugeFits_iff h (List.getElem?_eq_getElem hi)).1 fun l hl => hp l.1 l.2.1 l.2.2 (linksP_mem.2 (.inl ⟨i, _, List.getElem?_eq_getElem hi, hl⟩))
    · have a1 := hp _ _ _ (linksP_mem.2 (.inr ⟨c, hc, .inl rfl⟩))
      have a2 := hp _ _ _ (linksP_mem.2 (.inr ⟨c, hc, .inr rfl⟩))
      omega
  · rintro ⟨hg, hc⟩ u v m hl
    rcases linksP_mem.1 hl with ⟨i, g, hig, hl⟩ | ⟨c, hcm, hl⟩
    · exact (gaugeFits_iff h hig).2 (hg g (List.mem_of_getElem? hig)) (u, v, m) hl
    · obtain ⟨a1, a2⟩ := hc c hcm
      rcases hl with hl | hl
      · obtain ⟨rfl, rfl, rfl⟩ : u = cy b c ∧ v = cx b c ∧ m = (saysP b c).2 := by simpa using hl
        exact a1
      · obtain ⟨rfl, rfl, rfl⟩ : u = cx b c ∧ v = cy b c ∧ m = -(saysP b c).1 := by simpa using hl
        omega
end
end Go.Proofs.ZzM
end

noncomputable section
namespace Go.Proofs.ZzM
open Go Go.Am
def maxL : List Int → Int
  | [] => 0
  | [a] => a
  | a :: b :: t => max a (maxL (b :: t))
theorem maxL_spec : ∀ {l : List Int}, l ≠ [] → (∀ a ∈ l, a ≤ maxL l) ∧ maxL l ∈ l
  | [], h => absurd rfl h
  | [a], _ => ⟨fun x hx => by rw [List.mem_singleton] at hx; rw [hx]; exact Int.le_refl _, by simp [maxL]⟩
  | a :: b :: t, _ => by
    obtain ⟨h1, h2⟩ := maxL_spec (l := b :: t) (by simp)
    have e : maxL (a :: b :: t) = max a (maxL (b :: t)) := rfl
    rw [e]
    constructor
    · intro x hx
      rcases List.mem_cons.1 hx with rfl | hx
      · omega
      · have := h1 x hx; omega
    · rcases Int.le_total a (maxL (b :: t)) with h | h
      · rw [Int.max_eq_right h]; exact List.mem_cons_of_mem _ h2
      · rw [Int.max_eq_left h]; exact List.mem_cons_self
section
variable {b : Book}
def pull (b : Book) (f : Int → Int → Int) (z : Int) (v : Int) : Int := if v = 0 then z else match (nodesP b)[(v - 1).toNat]? with | some n => f n.1 n.2 | none => 0
theorem pull_zero (f : Int → Int → Int) (z : Int) : pull b f z 0 = z := by unfold pull; rw [if_pos rfl]
theorem pull_node (h : Good b) (f : Int → Int → Int) (z : Int) {g : Gauge} (hg : g ∈ b.2.1) {d : Int} (hd : d ∈ daysP b g) : pull b f z (nodeP b g.1 d) = f g.1 d := by
  obtain ⟨i, hi, rfl⟩ := List.mem_iff_getElem.1 hg
  obtain ⟨k, hk, rfl⟩ := List.mem_iff_getElem.1 hd
  have hgi := List.getElem?_eq_getElem hi
  have hdk := List.getElem?_eq_getElem hk
  rw [nodeP_at h hgi hdk]
  unfold pull
  have e : ((off b i : Int) + k + 1 - 1).toNat = off b i + k := by omega
  rw [if_neg (by omega), e, node_get hgi hdk]
def cNode (b : Book) (l : List Int) (d : Int) : Int := match l with | [] => 0 | x :: _ => nodeP b x d
theorem atP_node (l : List Int) (d : Int) : atP (nodesP b) l d = cNode b l d := by
  unfold atP cNode nodeP
  cases l <;> rfl
theorem cx_node (c : Cmp) : cx b c = cNode b (leftP c.2.2.1 c.2.2.2.1) c.2.1 := atP_node _ _
theorem cy_node (c : Cmp) : cy b c = cNode b (leftP c.2.2.2.1 c.2.2.1) c.2.1 := atP_node _ _
theorem left_day (h : Good b) {c : Cmp} (hc : c ∈ b.2.2.2.2.1) {x : Int} (hx : x ∈ leftP c.2.2.1 c.2.2.2.1 ∨ x ∈ leftP c.2.2.2.1 c.2.2.1) : ∃ g ∈ b.2.1, g.1 = x ∧ c.2.1 ∈ daysP b g := by
  have hx' : (x ∈ c.2.2.1 ∧ x ∉ c.2.2.2.1) ∨ (x ∈ c.2.2.2.1 ∧ x ∉ c.2.2.1) := by
    rcases hx with hx | hx
    · exact .inl (leftP_mem.1 hx)
    · exact .inr (leftP_mem.1 hx)
  have hm : x ∈ c.2.2.1 ++ c.2.2.2.1 := by rw [List.mem_append]; exact hx'.imp (·.1) (·.1)
  obtain ⟨⟨g, hg, _⟩, _⟩ := h.pile hc hm
  obtain ⟨hgm, hid⟩ := gaugeOf_some hg
  refine ⟨g, hgm, hid, daysP_mem.2 (.inr (.inl ⟨c, hc, ?_, rfl⟩))⟩
  rw [hid]
  intro he
  rw [Bool.eq_iff_iff, List.contains_iff_mem, List.contains_iff_mem] at he
  rcases hx' with ⟨a, e⟩ | ⟨a, e⟩
  · exact e (he.1 a)
  · exact e (he.2 a)
def fill (b : Book) (p : Int → Int) (g : Gauge) (d : Int) : Int := maxL ((daysP b g).map fun e => if d ≤ e then p (nodeP b g.1 e) else p (nodeP b g.1 e) - lossP b g e d)
theorem fill_spec {p : Int → Int} {g : Gauge} (d : Int) : (∀ e ∈ daysP b g, (if d ≤ e then p (nodeP b g.1 e) else p (nodeP b g.1 e) - lossP b g e d) ≤ fill b p g d) ∧ ∃ e ∈ daysP b g, fill b p g d = if d ≤ e then p (nodeP b g.1 e) else p (nodeP b g.1 e) - lossP b g e d := by
  have hne : ((daysP b g).map fun e => if d ≤ e then p (nodeP b g.1 e) else p (nodeP b g.1 e) - lossP b g e d) ≠ [] := by
    intro h
    have := List.map_eq_nil_iff.1 h
    have h2 := daysP_ne (b := b) g
    rw [this] at h2
    cases h2
  obtain ⟨h1, h2⟩ := maxL_spec hne
  refine ⟨fun e he => h1 _ (List.mem_map.2 ⟨e, he, rfl⟩), ?_⟩
  obtain ⟨e, he, hx⟩ := List.mem_map.1 h2
  exact ⟨e, he, hx.symm⟩
theorem fill_day (h : Good b) {p : Int → Int} {g : Gauge} (hg : g ∈ b.2.1) (hf : GaugeFits b p g) {d : Int} (hd : d ∈ daysP b g) : fill b p g d = p (nodeP b g.1 d) := by
  obtain ⟨h1, e, he, h2⟩ := fill_spec (b := b) (p := p) (g := g) d
  have h3 := h1 d hd
  rw [if_pos (Int.le_refl _)] at h3
  have h4 : fill b p g d ≤ p (nodeP b g.1 d) := by
    rw [h2]
    split
    · rename_i hde
      exact hf.down d e hd he hde
    · rename_i hde
      have := hf.loss e d he hd (by omega)
      omega
  omega
theorem fill_fits (h : Good b) {p : Int → Int} {g : Gauge} (hg : g ∈ b.2.1) (hf : GaugeFits b p g) {d e : Int} (h0 : g.2.1 ≤ d) (hde : d ≤ e) : fill b p g e ≤ fill b p g d ∧ fill b p g d ≤ fill b p g e + lossP b g d e := by
  obtain ⟨a1, x, hx, a2⟩ := fill_spec (b := b) (p := p) (g := g) d
  obtain ⟨b1, y, hy, b2⟩ := fill_spec (b := b) (p := p) (g := g) e
  have hm := (h.gaugeR hg).2.2.2.2.1
  have hl := loss_nonneg h hg (f := d) (t := e) (by omega)
  have dx := h.day hg hx
  have dy := h.day hg hy
  constructor
  · have q := a1 y hy
    rw [b2]
    by_cases c1 : e ≤ y
    · rw [if_pos c1]
      rw [if_pos (by omega)] at q
      exact q
    · rw [if_neg c1]
      by_cases c2 : d ≤ y
      · rw [if_pos c2] at q
        have := loss_nonneg h hg (f := y) (t := e) dy.2.1
        omega
      · rw [if_neg c2] at q
        have := loss_add h g (f := y) (t := d) (u := e) (by omega) hde
        omega
  · have q := b1 x hx
    rw [a2]
    by_cases c1 : d ≤ x
    · rw [if_pos c1]
      by_cases c2 : e ≤ x
      · rw [if_pos c2] at q
        omega
      · rw [if_neg c2] at q
        have := loss_add h g (f := d) (t := x) (u := e) c1 (by omega)
        have := loss_nonneg h hg (f := d) (t := x) (by omega)
        omega
    · rw [if_neg c1]
      rw [if_neg (by omega)] at q
      have := loss_add h g (f := x) (t := d) (u := e) (by omega) hde
      omega
end
end Go.Proofs.ZzM
end

noncomputable section
namespace Go.Proofs.ZzM
open Go Go.Am
section
variable {b : Book} {c : Cmp}
theorem head_eq : headLinks (more b c) = (more b c).2.1.flatMap (gaugeLinks (more b c)) ++ b.2.2.2.2.1.flatMap (compareLinks (more b c)) := by
  unfold headLinks
  have e : linksP (more b c) = ((more b c).2.1.flatMap (gaugeLinks (more b c)) ++ b.2.2.2.2.1.flatMap (compareLinks (more b c))) ++ compareLinks (more b c) c := by
    unfold linksP
    rw [show (more b c).2.2.2.2.1 = b.2.2.2.2.1 ++ [c] from rfl, List.flatMap_append, List.append_assoc]
    simp
  rw [e, List.length_append, show (compareLinks (more b c) c).length = 2 from rfl, Nat.add_sub_cancel, List.take_left]
theorem head_pot (h' : Good (more b c)) {p : Int → Int} : Pot (headLinks (more b c)) p ↔ (∀ g ∈ b.2.1, GaugeFits (more b c) p g) ∧ ∀ d ∈ b.2.2.2.2.1, p (cx (more b c) d) ≤ p (cy (more b c) d) + (saysP b d).2 ∧ p (cy (more b c) d) + (saysP b d).1 ≤ p (cx (more b c) d) := by
  rw [head_eq]
  constructor
  · intro hp
    refine ⟨fun g hg => ?_, fun d hd => ?_⟩
    · obtain ⟨i, hi, rfl⟩ := List.mem_iff_getElem.1 hg
      exact (gaugeFits_iff h' (i := i) (List.getElem?_eq_getElem hi)).1 fun l hl => hp l.1 l.2.1 l.2.2 (List.mem_append.2 (.inl (List.mem_flatMap.2 ⟨_, List.getElem_mem hi, hl⟩)))
    · have a1 := hp (cy (more b c) d) (cx (more b c) d) (saysP (more b c) d).2 (List.mem_append.2 (.inr (List.mem_flatMap.2 ⟨d, hd, by simp [compareLinks]⟩)))
      have a2 := hp (cx (more b c) d) (cy (more b c) d) (-(saysP (more b c) d).1) (List.mem_append.2 (.inr (List.mem_flatMap.2 ⟨d, hd, by simp [compareLinks]⟩)))
      have e : saysP (more b c) d = saysP b d := rfl
      rw [e] at a1 a2
      omega
  · rintro ⟨hg, hc⟩ u v m hl
    rcases List.mem_append.1 hl with hl | hl
    · obtain ⟨g, hgm, hl⟩ := List.mem_flatMap.1 hl
      obtain ⟨i, hi, rfl⟩ := List.mem_iff_getElem.1 hgm
      exact (gaugeFits_iff h' (i := i) (List.getElem?_eq_getElem hi)).2 (hg _ hgm) (u, v, m) hl
    · obtain ⟨d, hd, hl⟩ := List.mem_flatMap.1 hl
      obtain ⟨a1, a2⟩ := hc d hd
      have e : saysP (more b c) d = saysP b d := rfl
      simp only [compareLinks, List.mem_cons, List.not_mem_nil, or_false, e] at hl
      rcases hl with hl | hl
      · obtain ⟨rfl, rfl, rfl⟩ : u = cy (more b c) d ∧ v = cx (more b c) d ∧ m = (saysP b d).2 := by simpa using hl
        exact a1
      · obtain ⟨rfl, rfl, rfl⟩ : u = cx (more b c) d ∧ v = cy (more b c) d ∧ m = -(saysP b d).1 := by simpa using hl
        omega
theorem days_more {g : Gauge} {d : Int} (hd : d ∈ daysP b g) : d ∈ daysP (more b c) g := by
  rcases daysP_mem.1 hd with e | ⟨x, hx, h1, h2⟩ | hn
  · exact daysP_mem.2 (.inl e)
  · exact daysP_mem.2 (.inr (.inl ⟨x, List.mem_append.2 (.inl hx), h1, h2⟩))
  · exact daysP_mem.2 (.inr (.inr hn))
theorem loss_more (g : Gauge) (f t : Int) : lossP (more b c) g f t = lossP b g f t := rfl
theorem cNode_pull {b' : Book} (h' : Good b') {l : List Int} {day : Int} (f : Int → Int → Int) (z : Int) (hl : ∀ x ∈ l, ∃ g ∈ b'.2.1, g.1 = x ∧ day ∈ daysP b' g) : pull b' f z (cNode b' l day) = match l with | [] => z | x :: _ => f x day := by
  unfold cNode
  cases l with
  | nil => exact pull_zero f z
  | cons x t =>
    obtain ⟨g, hg, rfl, hd⟩ := hl x (by simp)
    exact pull_node h' f z hg hd
theorem open_more (h : Good b) (h' : Good (more b c)) : (∃ p, Pot (linksP b) p) ↔ ∃ p, Pot (headLinks (more b c)) p := by
  constructor
  · rintro ⟨p, hp⟩
    obtain ⟨hg, hc⟩ := (pot_iff h).1 hp
    let f : Int → Int → Int := fun id d => match gaugeOf b id with | some g => fill b p g d | none => 0
    have hfv : ∀ g ∈ b.2.1, ∀ d, f g.1 d = fill b p g d := fun g hgm d => by
      show (match gaugeOf b g.1 with | some g => fill b p g d | none => 0) = _
      rw [gaugeOf_mem h.ids hgm]
    have hq : ∀ g ∈ b.2.1, ∀ d ∈ daysP (more b c) g, pull (more b c) f (p 0) (nodeP (more b c) g.1 d) = fill b p g d := fun g hgm d hd => by
      rw [pull_node h' f (p 0) hgm hd, hfv g hgm d]
    refine ⟨pull (more b c) f (p 0), (head_pot h').2 ⟨fun g hgm => ?_, fun d hd => ?_⟩⟩
    · have gf := hg g hgm
      have hmade : g.2.1 ∈ daysP b g := daysP_ne g
      have e0 := hq g hgm g.2.1 (daysP_ne g)
      rw [fill_day h hgm gf hmade] at e0
      refine ⟨?_, ?_, fun x y hx hy hxy => ?_, fun x y hx hy hxy => ?_⟩
      · rw [e0, pull_zero]; exact gf.hi
      · rw [e0, pull_zero]; exact gf.lo
      · rw [hq g hgm x hx, hq g hgm y hy]
        exact (fill_fits h hgm gf (h'.day hgm hx).1 hxy).1
      · rw [hq g hgm x hx, hq g hgm y hy, loss_more]
        exact (fill_fits h hgm gf (h'.day hgm hx).1 hxy).2
    · have key : ∀ l : List Int, (∀ x ∈ l, ∃ g ∈ b.2.1, g.1 = x ∧ d.2.1 ∈ daysP b g) → pull (more b c) f (p 0) (cNode (more b c) l d.2.1) = p (cNode b l d.2.1) := by
        intro l hl
        rw [cNode_pull h' f (p 0) (fun x hx => by obtain ⟨g, q1, q2, q3⟩ := hl x hx; exact ⟨g, q1, q2, days_more q3⟩)]
        cases l with
        | nil => rfl
        | cons x t =>
          obtain ⟨g, q1, rfl, q3⟩ := hl x (by simp)
          show f g.1 d.2.1 = p (nodeP b g.1 d.2.1)
          rw [hfv g q1, fill_day h q1 (hg g q1) q3]
      rw [cx_node, cy_node, key _ (fun x hx => left_day h hd (.inl hx)), key _ (fun x hx => left_day h hd (.inr hx)), ← cx_node, ← cy_node]
      exact hc d hd
  · rintro ⟨p, hp⟩
    obtain ⟨hg, hc⟩ := (head_pot h').1 hp
    let f : Int → Int → Int := fun id d => p (nodeP (more b c) id d)
    have hq : ∀ g ∈ b.2.1, ∀ d ∈ daysP b g, pull b f (p 0) (nodeP b g.1 d) = p (nodeP (more b c) g.1 d) := fun g hgm d hd => pull_node h f (p 0) hgm hd
    refine ⟨pull b f (p 0), (pot_iff h).2 ⟨fun g hgm => ?_, fun d hd => ?_⟩⟩
    · have gf := hg g hgm
      have e0 := hq g hgm g.2.1 (daysP_ne g)
      refine ⟨?_, ?_, fun x y hx hy hxy => ?_, fun x y hx hy hxy => ?_⟩
      · rw [e0, pull_zero]; exact gf.hi
      · rw [e0, pull_zero]; exact gf.lo
      · rw [hq g hgm x hx, hq g hgm y hy]
        exact gf.down x y (days_more hx) (days_more hy) hxy
      · rw [hq g hgm x hx, hq g hgm y hy]
        exact gf.loss x y (days_more hx) (days_more hy) hxy
    · have key : ∀ l : List Int, (∀ x ∈ l, ∃ g ∈ b.2.1, g.1 = x ∧ d.2.1 ∈ daysP b g) → pull b f (p 0) (cNode b l d.2.1) = p (cNode (more b c) l d.2.1) := by
        intro l hl
        rw [cNode_pull h f (p 0) hl]
        cases l <;> rfl
      rw [cx_node, cy_node, key _ (fun x hx => left_day h hd (.inl hx)), key _ (fun x hx => left_day h hd (.inr hx)), ← cx_node, ← cy_node]
      exact hc d hd
end
end Go.Proofs.ZzM
end

noncomputable section
namespace Go.Proofs.ZzM
open Go Go.Am
section
variable {L : List Lk} {N : Nat}
theorem Wl.app {u v : Int} {vs : List Int} {d : Int} (h1 : Wl L (fun x => x = u) vs v d) {ws : List Int} {w e : Int} (h2 : Wl L (fun x => x = v) ws w e) : ∃ xs, Wl L (fun x => x = u) xs w (d + e) := by
  induction h2 with
  | nil h => subst h; exact ⟨vs, by rw [Int.add_zero]; exact h1⟩
  | step hw hx ih =>
    obtain ⟨xs, hi⟩ := ih
    have := Wl.step hi hx
    rw [Int.add_assoc] at this
    exact ⟨_, this⟩
def dst (L : List Lk) (N : Nat) (s t : Int) : Int := gv (boundsP L N s) t
theorem dst_le (h : SysOk L N) (ht : TiedL L N) (ho : openP L N = true) {s t : Int} (hs : 0 ≤ s ∧ s < N) (hv : 0 ≤ t ∧ t < N) : dst L N s t ≤ 9007199254740992 := by
  have h2 := h.n60
  obtain ⟨p, hp⟩ := (openP_iff h.links (by omega)).1 ho
  obtain ⟨vs, d, hw, hd⟩ := ht.from' s hs.1 hs.2
  obtain ⟨ws, e, hx, he⟩ := ht.to t hv.1 hv.2
  obtain ⟨xs, hy⟩ := Wl.app hw hx
  have := (bounds_dist h.links (by omega) hp hs).low t xs _ (one_wl.2 hy)
  unfold dst
  omega
theorem dst_ne (h : SysOk L N) (ht : TiedL L N) (ho : openP L N = true) {s t : Int} (hs : 0 ≤ s ∧ s < N) (hv : 0 ≤ t ∧ t < N) : dst L N s t ≠ Free := by
  have := dst_le h ht ho hs hv
  unfold Free
  omega
theorem dst_pot (h : SysOk L N) (ht : TiedL L N) (ho : openP L N = true) {s : Int} (hs : 0 ≤ s ∧ s < N) : Pot L (dst L N s) := by
  have h2 := h.n60
  obtain ⟨p, hp⟩ := (openP_iff h.links (by omega)).1 ho
  intro u v m hl
  have hr := h.inr _ hl
  exact (bounds_dist h.links (by omega) hp hs).pot h.inr hl (dst_ne h ht ho hs hr.1)
theorem dst_self (h : SysOk L N) (ho : openP L N = true) {s : Int} (hs : 0 ≤ s ∧ s < N) : dst L N s s = 0 := bounds_self h ho hs.1 hs.2
theorem dst_max (h : SysOk L N) (ht : TiedL L N) (ho : openP L N = true) {s t : Int} (hs : 0 ≤ s ∧ s < N) (hv : 0 ≤ t ∧ t < N) {p : Int → Int} (hp : Pot L p) : p t - p s ≤ dst L N s t := by
  have h2 := h.n60
  obtain ⟨vs, hw⟩ := (bounds_dist h.links (by omega) hp hs).att t hv.1 hv.2 (dst_ne h ht ho hs hv)
  obtain ⟨u, hu, hx⟩ := (one_wl.1 hw).pot hp
  subst hu
  exact hx
theorem dst_all (h : SysOk L N) (ht : TiedL L N) (ho : openP L N = true) {x y : Int} (hx : 0 ≤ x ∧ x < N) (hy : 0 ≤ y ∧ y < N) {t : Int} (h1 : -(dst L N x y) ≤ t) (h2 : t ≤ dst L N y x) : ∃ p, Pot L p ∧ p x - p y = t := by
  refine ⟨fun v => min (dst L N y v) (dst L N x v + t), fun u v m hl => ?_, ?_⟩
  · have a1 := dst_pot h ht ho hy u v m hl
    have a2 := dst_pot h ht ho hx u v m hl
    show min _ _ ≤ min _ _ + m
    omega
  · have e1 := dst_self h ho hx
    have e2 := dst_self h ho hy
    show min (dst L N y x) (dst L N x x + t) - min (dst L N y y) (dst L N x y + t) = t
    omega
theorem dst_order (h : SysOk L N) (ht : TiedL L N) (ho : openP L N = true) {x y : Int} (hx : 0 ≤ x ∧ x < N) (hy : 0 ≤ y ∧ y < N) : -(dst L N x y) ≤ dst L N y x := by
  have h2 := h.n60
  obtain ⟨p, hp⟩ := (openP_iff h.links (by omega)).1 ho
  have a1 := dst_max h ht ho hx hy hp
  have a2 := dst_max h ht ho hy hx hp
  omega
theorem dst_bd (h : SysOk L N) (ht : TiedL L N) (ho : openP L N = true) {s t : Int} (hs : 0 ≤ s ∧ s < N) (hv : 0 ≤ t ∧ t < N) : -9007199254740992 ≤ dst L N s t ∧ dst L N s t ≤ 9007199254740992 := by
  have a1 := dst_le h ht ho hs hv
  have a2 := dst_le h ht ho hv hs
  have a3 := dst_order h ht ho hv hs
  omega
theorem BoundP_dst (h : SysOk L N) (ht : TiedL L N) {s t : Int} (hs : 0 ≤ s ∧ s < N) (hv : 0 ≤ t ∧ t < N) : BoundP L N s t = if openP L N then (dst L N s t, 0) else (0, 9) := by
  unfold BoundP
  by_cases ho : openP L N = true
  · have hne := dst_ne h ht ho hs hv
    unfold dst at hne ⊢
    rw [if_neg (by simp [ho]), if_neg hne, if_pos ho]
  · rw [if_pos (by simpa using ho), if_neg ho]
end
section
variable {b : Book} {c : Cmp}
theorem head_gl (h' : Good (more b c)) : GL (more b c) (headLinks (more b c)) := by
  intro i g hg l hl
  rw [head_eq]
  exact List.mem_append.2 (.inl (List.mem_flatMap.2 ⟨g, List.mem_of_getElem? hg, hl⟩))
theorem head_tied (h' : Good (more b c)) : TiedL (headLinks (more b c)) ((nodesP (more b c)).length + 1) := h'.tiedL (head_gl h')
theorem head_sys (h' : Good (more b c)) : SysOk (headLinks (more b c)) ((nodesP (more b c)).length + 1) :=
  h'.sys.sub (fun l hl => List.mem_of_mem_take hl) (by unfold headLinks; rw [List.length_take]; omega)
theorem head_open (h : Good b) (h' : Good (more b c)) : openP (headLinks (more b c)) ((nodesP (more b c)).length + 1) = openP (linksP b) ((nodesP b).length + 1) := by
  have n1 := h.sys.n60
  have n2 := (head_sys h').n60
  rw [Bool.eq_iff_iff, openP_iff (head_sys h').links (by omega), openP_iff h.sys.links (by omega)]
  exact (open_more h h').symm
theorem more_mem : c ∈ (more b c).2.2.2.2.1 := by simp [more]
theorem cx_rng (h' : Good (more b c)) : 0 ≤ cx (more b c) c ∧ cx (more b c) c < ((nodesP (more b c)).length + 1 : Nat) := (cx_left h' more_mem).rng
theorem cy_rng (h' : Good (more b c)) : 0 ≤ cy (more b c) c ∧ cy (more b c) c < ((nodesP (more b c)).length + 1 : Nat) := (cy_left h' more_mem).rng
def dLo (b : Book) (c : Cmp) : Int := -(dst (headLinks (more b c)) ((nodesP (more b c)).length + 1) (cx (more b c) c) (cy (more b c) c))
def dHi (b : Book) (c : Cmp) : Int := dst (headLinks (more b c)) ((nodesP (more b c)).length + 1) (cy (more b c) c) (cx (more b c) c)
theorem PredictP_eq (h : Good b) (h' : Good (more b (zeroDiff c))) : PredictP b c = if openP (linksP b) ((nodesP b).length + 1) then shownP b (zeroDiff c) (dLo b (zeroDiff c), dHi b (zeroDiff c)) else ((0, 0), 9) := by
  have e : WithP b (zeroDiff c) = (more b (zeroDiff c), 0) := by
    unfold WithP
    rw [if_neg (by simp [(checkP_iff b).2 h]), if_neg (by simp [(checkP_iff _).2 h'])]
  unfold PredictP
  rw [e, BoundP_dst (head_sys h') (head_tied h') (cy_rng h') (cx_rng h'), BoundP_dst (head_sys h') (head_tied h') (cx_rng h') (cy_rng h'), head_open h h']
  by_cases ho : openP (linksP b) ((nodesP b).length + 1) = true
  · rw [if_pos ho, if_pos ho, if_pos ho]
    rfl
  · rw [if_neg ho, if_neg ho, if_neg ho]
    rfl
theorem PredictP_good (hp : (PredictP b c).2 = 0) : Good b ∧ Good (more b (zeroDiff c)) := by
  have hw : (WithP b (zeroDiff c)).2 = 0 := by
    unfold PredictP at hp
    by_cases hw : (WithP b (zeroDiff c)).2 = 0
    · exact hw
    · rw [if_pos hw] at hp; exact hp
  unfold WithP at hw
  by_cases hb : checkP b = 0
  · rw [if_neg (by simp [hb])] at hw
    by_cases hm : checkP (more b (zeroDiff c)) = 0
    · exact ⟨(checkP_iff b).1 hb, (checkP_iff _).1 hm⟩
    · rw [if_pos hm] at hw; exact absurd hw hm
  · rw [if_pos hb] at hw; exact absurd hw hb
theorem shownP_zero {s : Int × Int} (h : (shownP b c s).2 = 0) : lowP b c ≤ highP b c ∧ shownP b c s = ((s.1 + lowP b c, s.2 + highP b c), 0) := by
  unfold shownP at h ⊢
  split at h
  · simp at h
  · rename_i hl
    rw [if_neg hl]
    exact ⟨by omega, rfl⟩
end
end Go.Proofs.ZzM
end

noncomputable section
namespace Go.Proofs.ZzM
open Go Go.Am
def sideP (f : Int → Int → Int) (z : Int) (l : List Int) (d : Int) : Int := match l with | [] => z | x :: _ => f x d
def diffP (f : Int → Int → Int) (z : Int) (c : Cmp) : Int := sideP f z (leftP c.2.2.1 c.2.2.2.1) c.2.1 - sideP f z (leftP c.2.2.2.1 c.2.2.1) c.2.1
structure GHist (b : Book) (f : Int → Int → Int) (z : Int) (g : Gauge) : Prop where
  hi : f g.1 g.2.1 ≤ z + (g.2.2.1 + g.2.2.2.1.2)
  lo : z + (g.2.2.1 + g.2.2.2.1.1) ≤ f g.1 g.2.1
  down : ∀ d e, g.2.1 ≤ d → d ≤ e → f g.1 e ≤ f g.1 d
  loss : ∀ d e, g.2.1 ≤ d → d ≤ e → f g.1 d ≤ f g.1 e + lossP b g d e
structure Hist (b : Book) (f : Int → Int → Int) (z : Int) : Prop where
  gauge : ∀ g ∈ b.2.1, GHist b f z g
  cmp : ∀ c ∈ b.2.2.2.2.1, (saysP b c).1 ≤ diffP f z c ∧ diffP f z c ≤ (saysP b c).2
theorem fill_hist {b : Book} (h : Good b) {p : Int → Int} (hg : ∀ g ∈ b.2.1, GaugeFits b p g) : ∃ f : Int → Int → Int, (∀ g ∈ b.2.1, GHist b f (p 0) g) ∧ ∀ g ∈ b.2.1, ∀ d ∈ daysP b g, f g.1 d = p (nodeP b g.1 d) := by
  let f : Int → Int → Int := fun id d => match gaugeOf b id with | some g => fill b p g d | none => 0
  have hfv : ∀ g ∈ b.2.1, ∀ d, f g.1 d = fill b p g d := fun g hgm d => by
    show (match gaugeOf b g.1 with | some g => fill b p g d | none => 0) = _
    rw [gaugeOf_mem h.ids hgm]
  refine ⟨f, fun g hgm => ?_, fun g hgm d hd => by rw [hfv g hgm]; exact fill_day h hgm (hg g hgm) hd⟩
  have gf := hg g hgm
  have e0 : f g.1 g.2.1 = p (nodeP b g.1 g.2.1) := by rw [hfv g hgm]; exact fill_day h hgm gf (daysP_ne g)
  refine ⟨by rw [e0]; exact gf.hi, by rw [e0]; exact gf.lo, fun d e h0 hde => ?_, fun d e h0 hde => ?_⟩
  · rw [hfv g hgm, hfv g hgm]
    exact (fill_fits h hgm gf h0 hde).1
  · rw [hfv g hgm, hfv g hgm]
    exact (fill_fits h hgm gf h0 hde).2
theorem side_node {b : Book} {f : Int → Int → Int} {p : Int → Int} (hm : ∀ g ∈ b.2.1, ∀ d ∈ daysP b g, f g.1 d = p (nodeP b g.1 d)) {l : List Int} {day : Int} (hl : ∀ x ∈ l, ∃ g ∈ b.2.1, g.1 = x ∧ day ∈ daysP b g) : p (cNode b l day) = sideP f (p 0) l day := by
  cases l with
  | nil => rfl
  | cons x t =>
    obtain ⟨g, q1, rfl, q3⟩ := hl x (by simp)
    exact (hm g q1 day q3).symm
theorem diff_node {b : Book} {f : Int → Int → Int} {p : Int → Int} (hm : ∀ g ∈ b.2.1, ∀ d ∈ daysP b g, f g.1 d = p (nodeP b g.1 d)) {c : Cmp}
    (hl : ∀ x, x ∈ leftP c.2.2.1 c.2.2.2.1 ∨ x ∈ leftP c.2.2.2.1 c.2.2.1 → ∃ g ∈ b.2.1, g.1 = x ∧ c.2.1 ∈ daysP b g) : p (cx b c) - p (cy b c) = diffP f (p 0) c := by
  unfold diffP
  rw [cx_node, cy_node, side_node hm (fun x hx => hl x (.inl hx)), side_node hm (fun x hx => hl x (.inr hx))]
theorem pull_cNode {b : Book} (h : Good b) (f : Int → Int → Int) (z : Int) {l : List Int} {day : Int} (hl : ∀ x ∈ l, ∃ g ∈ b.2.1, g.1 = x ∧ day ∈ daysP b g) : pull b f z (cNode b l day) = sideP f z l day := by
  rw [cNode_pull h f z hl]
  unfold sideP
  cases l <;> rfl
theorem pull_side {b : Book} (h : Good b) {f : Int → Int → Int} {z : Int} {c : Cmp} (hl : ∀ x, x ∈ leftP c.2.2.1 c.2.2.2.1 ∨ x ∈ leftP c.2.2.2.1 c.2.2.1 → ∃ g ∈ b.2.1, g.1 = x ∧ c.2.1 ∈ daysP b g) : pull b f z (cx b c) - pull b f z (cy b c) = diffP f z c := by
  unfold diffP
  rw [cx_node, cy_node, pull_cNode h f z (fun x hx => hl x (.inl hx)), pull_cNode h f z (fun x hx => hl x (.inr hx))]
theorem pull_gauge {b : Book} (h : Good b) {f : Int → Int → Int} {z : Int} {g : Gauge} (hg : g ∈ b.2.1) (hh : GHist b f z g) : GaugeFits b (pull b f z) g := by
  have q : ∀ d ∈ daysP b g, pull b f z (nodeP b g.1 d) = f g.1 d := fun d hd => pull_node h f z hg hd
  have e0 := q g.2.1 (daysP_ne g)
  refine ⟨?_, ?_, fun d e hd he hde => ?_, fun d e hd he hde => ?_⟩
  · rw [e0, pull_zero]; exact hh.hi
  · rw [e0, pull_zero]; exact hh.lo
  · rw [q d hd, q e he]; exact hh.down d e (h.day hg hd).1 hde
  · rw [q d hd, q e he]; exact hh.loss d e (h.day hg hd).1 hde
section
variable {b : Book} {c : Cmp}
theorem pot_hist (h : Good b) {p : Int → Int} (hp : Pot (linksP b) p) : ∃ f, Hist b f (p 0) ∧ ∀ g ∈ b.2.1, ∀ d ∈ daysP b g, f g.1 d = p (nodeP b g.1 d) := by
  obtain ⟨hg, hc⟩ := (pot_iff h).1 hp
  obtain ⟨f, hf, hm⟩ := fill_hist h hg
  refine ⟨f, ⟨hf, fun c hcm => ?_⟩, hm⟩
  have := diff_node hm (c := c) (fun x hx => left_day h hcm hx)
  have := hc c hcm
  omega
theorem hist_pot (h : Good b) {f : Int → Int → Int} {z : Int} (hh : Hist b f z) : Pot (linksP b) (pull b f z) := by
  refine (pot_iff h).2 ⟨fun g hg => pull_gauge h hg (hh.gauge g hg), fun c hc => ?_⟩
  have := pull_side (f := f) (z := z) h (c := c) (fun x hx => left_day h hc hx)
  have := hh.cmp c hc
  omega
theorem day_more (h : Good b) {d : Cmp} (hd : d ∈ b.2.2.2.2.1) : ∀ x, x ∈ leftP d.2.2.1 d.2.2.2.1 ∨ x ∈ leftP d.2.2.2.1 d.2.2.1 → ∃ g ∈ (more b c).2.1, g.1 = x ∧ d.2.1 ∈ daysP (more b c) g := by
  intro x hx
  obtain ⟨g, q1, q2, q3⟩ := left_day h hd hx
  exact ⟨g, q1, q2, days_more q3⟩
theorem head_hist (h : Good b) (h' : Good (more b c)) {p : Int → Int} (hp : Pot (headLinks (more b c)) p) : ∃ f, Hist b f (p 0) ∧ p (cx (more b c) c) - p (cy (more b c) c) = diffP f (p 0) c := by
  obtain ⟨hg, hc⟩ := (head_pot h').1 hp
  obtain ⟨f, hf, hm⟩ := fill_hist h' hg
  refine ⟨f, ⟨fun g hgm => ?_, fun d hd => ?_⟩, diff_node hm fun x hx => left_day h' more_mem hx⟩
  · have := hf g hgm
    exact ⟨this.hi, this.lo, this.down, this.loss⟩
  · have := diff_node hm (c := d) (day_more h hd)
    have := hc d hd
    omega
theorem hist_head (h : Good b) (h' : Good (more b c)) {f : Int → Int → Int} {z : Int} (hh : Hist b f z) : Pot (headLinks (more b c)) (pull (more b c) f z) ∧ pull (more b c) f z (cx (more b c) c) - pull (more b c) f z (cy (more b c) c) = diffP f z c := by
  refine ⟨(head_pot h').2 ⟨fun g hg => pull_gauge h' hg ?_, fun d hd => ?_⟩, pull_side h' fun x hx => left_day h' more_mem hx⟩
  · have := hh.gauge g hg
    exact ⟨this.hi, this.lo, this.down, this.loss⟩
  · have := pull_side (f := f) (z := z) h' (c := d) (day_more h hd)
    have := hh.cmp d hd
    omega
theorem open_hist (h : Good b) : openP (linksP b) ((nodesP b).length + 1) = true ↔ ∃ f z, Hist b f z := by
  have := h.sys.n60
  rw [openP_iff h.sys.links (by omega)]
  constructor
  · rintro ⟨p, hp⟩
    obtain ⟨f, hf, _⟩ := pot_hist h hp
    exact ⟨f, _, hf⟩
  · rintro ⟨f, z, hh⟩
    exact ⟨_, hist_pot h hh⟩
theorem d_max (h : Good b) (h' : Good (more b c)) {f : Int → Int → Int} {z : Int} (hh : Hist b f z) : dLo b c ≤ diffP f z c ∧ diffP f z c ≤ dHi b c := by
  have ho : openP (headLinks (more b c)) ((nodesP (more b c)).length + 1) = true := by rw [head_open h h']; exact (open_hist h).2 ⟨f, z, hh⟩
  obtain ⟨hp, hd⟩ := hist_head h h' hh
  have a1 := dst_max (head_sys h') (head_tied h') ho (cx_rng h') (cy_rng h') hp
  have a2 := dst_max (head_sys h') (head_tied h') ho (cy_rng h') (cx_rng h') hp
  unfold dLo dHi
  omega
theorem d_all (h : Good b) (h' : Good (more b c)) (ho : openP (linksP b) ((nodesP b).length + 1) = true) {t : Int} (h1 : dLo b c ≤ t) (h2 : t ≤ dHi b c) : ∃ f z, Hist b f z ∧ diffP f z c = t := by
  rw [← head_open h h'] at ho
  obtain ⟨p, hp, hd⟩ := dst_all (head_sys h') (head_tied h') ho (cx_rng h') (cy_rng h') h1 h2
  obtain ⟨f, hf, he⟩ := head_hist h h' hp
  exact ⟨f, _, hf, by rw [← he]; exact hd⟩
theorem d_order (h : Good b) (h' : Good (more b c)) (ho : openP (linksP b) ((nodesP b).length + 1) = true) : dLo b c ≤ dHi b c := by
  rw [← head_open h h'] at ho
  exact dst_order (head_sys h') (head_tied h') ho (cx_rng h') (cy_rng h')
theorem says_low (b : Book) (c : Cmp) : (saysP b c).1 = c.2.2.2.2.1 - highP b c ∧ (saysP b c).2 = c.2.2.2.2.1 - lowP b c := by
  unfold saysP highP lowP
  constructor
  · simp only; omega
  · simp only; omega
theorem hist_more {d : Cmp} {f : Int → Int → Int} {z : Int} : Hist (more b d) f z ↔ Hist b f z ∧ (saysP b d).1 ≤ diffP f z d ∧ diffP f z d ≤ (saysP b d).2 := by
  constructor
  · intro h
    exact ⟨⟨fun g hg => by have := h.gauge g hg; exact ⟨this.hi, this.lo, this.down, this.loss⟩, fun c hc => h.cmp c (List.mem_append.2 (.inl hc))⟩, h.cmp d more_mem⟩
  · rintro ⟨h, hd⟩
    refine ⟨fun g hg => by have := h.gauge g hg; exact ⟨this.hi, this.lo, this.down, this.loss⟩, fun c hc => ?_⟩
    rcases List.mem_append.1 (show c ∈ b.2.2.2.2.1 ++ [d] from hc) with hc | hc
    · exact h.cmp c hc
    · rw [List.mem_singleton] at hc
      subst hc
      exact hd
structure Pred (b : Book) (c : Cmp) (s : Int × Int) : Prop where
  good : Good b
  good2 : Good (more b (zeroDiff c))
  order : lowP b c ≤ highP b c
  has : ∃ f z, Hist b f z
  ends : s.1 - lowP b c ≤ s.2 - highP b c
  bd : -9007199254740992 ≤ s.1 - lowP b c ∧ s.2 - highP b c ≤ 9007199254740992
  all : ∀ f z, Hist b f z → s.1 - lowP b c ≤ diffP f z c ∧ diffP f z c ≤ s.2 - highP b c
  each : ∀ t, s.1 - lowP b c ≤ t → t ≤ s.2 - highP b c → ∃ f z, Hist b f z ∧ diffP f z c = t
theorem predict_pred (hp : (PredictP b c).2 = 0) : Pred b c (PredictP b c).1 := by
  obtain ⟨h, h'⟩ := PredictP_good hp
  rw [PredictP_eq h h'] at hp ⊢
  by_cases ho : openP (linksP b) ((nodesP b).length + 1) = true
  · rw [if_pos ho] at hp ⊢
    obtain ⟨h1, h2⟩ := shownP_zero hp
    rw [h2]
    have e1 : lowP b (zeroDiff c) = lowP b c := rfl
    have e2 : highP b (zeroDiff c) = highP b c := rfl
    rw [e1, e2] at *
    have s1 : dLo b (zeroDiff c) + lowP b c - lowP b c = dLo b (zeroDiff c) := by omega
    have s2 : dHi b (zeroDiff c) + highP b c - highP b c = dHi b (zeroDiff c) := by omega
    refine ⟨h, h', h1, (open_hist h).1 ho, ?_, ?_, fun f z hh => ?_, fun t t1 t2 => ?_⟩
    · simp only
      rw [s1, s2]
      exact d_order h h' ho
    · simp only
      rw [s1, s2]
      rw [← head_open h h'] at ho
      have a1 := dst_bd (head_sys h') (head_tied h') ho (cx_rng h') (cy_rng h')
      have a2 := dst_bd (head_sys h') (head_tied h') ho (cy_rng h') (cx_rng h')
      unfold dLo dHi
      omega
    · simp only
      rw [s1, s2]
      exact d_max (c := zeroDiff c) h h' hh
    · simp only at t1 t2
      rw [s1] at t1
      rw [s2] at t2
      exact d_all (c := zeroDiff c) h h' ho t1 t2
  · rw [if_neg ho] at hp
    simp at hp
end
end Go.Proofs.ZzM
end

noncomputable section
namespace Go.Proofs.ZzM
open Go Go.Am
theorem cmp_mul {k : Int × Int} (hk : 0 < k.2) (m n : Int) : 0 < cmpP (mulP k m) (mulP k n) ↔ k.1 * n < k.1 * m := by
  obtain ⟨g, g0, _, g1, g2⟩ := red_spec (n := k.1 * m) hk
  obtain ⟨h, h0, _, h1, h2⟩ := red_spec (n := k.1 * n) hk
  have key : (mulP k n).1 * (mulP k m).2 < (mulP k m).1 * (mulP k n).2 ↔ k.1 * n < k.1 * m := by
    have e1 : (mulP k n).1 * (mulP k m).2 * ((g : Int) * h) = k.1 * n * k.2 := by
      show (redP (k.1 * n) k.2).1 * (redP (k.1 * m) k.2).2 * ((g : Int) * h) = k.1 * n * k.2
      calc _ = ((redP (k.1 * n) k.2).1 * h) * ((redP (k.1 * m) k.2).2 * g) := by ac_rfl
        _ = _ := by rw [← h1, ← g2]
    have e2 : (mulP k m).1 * (mulP k n).2 * ((g : Int) * h) = k.1 * m * k.2 := by
      show (redP (k.1 * m) k.2).1 * (redP (k.1 * n) k.2).2 * ((g : Int) * h) = k.1 * m * k.2
      calc _ = ((redP (k.1 * m) k.2).1 * g) * ((redP (k.1 * n) k.2).2 * h) := by ac_rfl
        _ = _ := by rw [← g1, ← h2]
    have pg : 0 < (g : Int) * h := Int.mul_pos (by omega) (by omega)
    constructor
    · intro hl
      have := Int.mul_lt_mul_of_pos_right hl pg
      rw [e1, e2] at this
      exact Int.lt_of_mul_lt_mul_right this (by omega)
    · intro hl
      have := Int.mul_lt_mul_of_pos_right hl hk
      rw [← e1, ← e2] at this
      exact Int.lt_of_mul_lt_mul_right this (by omega)
  rw [← key]
  unfold cmpP
  by_cases he : mulP k m = mulP k n
  · rw [if_pos he, he]
    omega
  · rw [if_neg he]
    split
    · omega
    · split <;> omega
theorem over_scale {k : Int × Int} (hk : 0 < k.2) {heat : Int × Int} (hh : heat.1 ≤ heat.2) : overP k heat = if k.1 < 0 then (mulP k heat.2, mulP k heat.1) else (mulP k heat.1, mulP k heat.2) := by
  unfold overP
  by_cases hn : k.1 < 0
  · rw [if_pos hn]
    by_cases he : heat.1 = heat.2
    · rw [he]
      split <;> rfl
    · rw [if_pos ((cmp_mul hk _ _).2 (Int.mul_lt_mul_of_neg_left (by omega) hn))]
  · rw [if_neg hn, if_neg (fun h => by
      have h1 := (cmp_mul hk _ _).1 h
      have h2 := Int.mul_le_mul_of_nonneg_left hh (show 0 ≤ k.1 by omega)
      omega)]
end Go.Proofs.ZzM
end

noncomputable section
namespace Go.Proofs.ZzM
open Go Go.Am
section
variable {b x : Book}
theorem gauge_same (h : Good b) {g g' : Gauge} (hg : g ∈ b.2.1) (hg' : g' ∈ b.2.1) (e : g.1 = g'.1) : g = g' := by
  have h1 := gaugeOf_mem h.ids hg
  have h2 := gaugeOf_mem h.ids hg'
  rw [e, h2] at h1
  exact (Option.some.inj h1).symm
theorem mem_nodes (h : Good b) {g : Gauge} (hg : g ∈ b.2.1) {d : Int} : (g.1, d) ∈ nodesP b ↔ d ∈ daysP b g := by
  unfold nodesP
  rw [List.mem_flatMap]
  constructor
  · rintro ⟨g', hg', hm⟩
    obtain ⟨d', hd', e⟩ := List.mem_map.1 hm
    simp only [Prod.mk.injEq] at e
    obtain ⟨e1, rfl⟩ := e
    rw [gauge_same h hg hg' e1.symm]
    exact hd'
  · intro hd
    exact ⟨g, hg, List.mem_map.2 ⟨d, hd, rfl⟩⟩
theorem nodeP_same (hn : nodesP x = nodesP b) (id d : Int) : nodeP x id d = nodeP b id d := by unfold nodeP; rw [hn]
theorem cNode_same (hn : nodesP x = nodesP b) (l : List Int) (d : Int) : cNode x l d = cNode b l d := by
  unfold cNode
  cases l with
  | nil => rfl
  | cons a t => exact nodeP_same hn a d
theorem nar_pot (hb : Good b) (hx : Good x) (hn : nodesP x = nodesP b)
    (hg : ∀ g ∈ b.2.1, ∃ g' ∈ x.2.1, g'.1 = g.1 ∧ g'.2.1 = g.2.1 ∧ g'.2.2.1 + g'.2.2.2.1.2 ≤ g.2.2.1 + g.2.2.2.1.2 ∧ g.2.2.1 + g.2.2.2.1.1 ≤ g'.2.2.1 + g'.2.2.2.1.1 ∧ ∀ d e, 0 ≤ d → d ≤ e → lossP x g' d e ≤ lossP b g d e)
    (hc : ∀ c ∈ b.2.2.2.2.1, ∃ c' ∈ x.2.2.2.2.1, leftP c'.2.2.1 c'.2.2.2.1 = leftP c.2.2.1 c.2.2.2.1 ∧ leftP c'.2.2.2.1 c'.2.2.1 = leftP c.2.2.2.1 c.2.2.1 ∧ c'.2.1 = c.2.1 ∧ (saysP b c).1 ≤ (saysP x c').1 ∧ (saysP x c').2 ≤ (saysP b c).2)
    {p : Int → Int} (hp : Pot (linksP x) p) : Pot (linksP b) p := by
  obtain ⟨pg, pc⟩ := (pot_iff hx).1 hp
  refine (pot_iff hb).2 ⟨fun g hgm => ?_, fun c hcm => ?_⟩
  · obtain ⟨g', hg', e1, e2, e3, e4, e5⟩ := hg g hgm
    have gf := pg g' hg'
    have hd : ∀ d, d ∈ daysP b g ↔ d ∈ daysP x g' := by
      intro d
      rw [← mem_nodes hb hgm, ← mem_nodes hx hg', hn, e1]
    have f1 := gf.hi; have f2 := gf.lo; have f3 := gf.down; have f4 := gf.loss
    rw [nodeP_same hn, e1, e2] at f1 f2
    refine ⟨by omega, by omega, fun d e q1 q2 q3 => ?_, fun d e q1 q2 q3 => ?_⟩
    · have := f3 d e ((hd d).1 q1) ((hd e).1 q2) q3
      rw [nodeP_same hn, nodeP_same hn, e1] at this
      exact this
    · have := f4 d e ((hd d).1 q1) ((hd e).1 q2) q3
      rw [nodeP_same hn, nodeP_same hn, e1] at this
      have l := e5 d e (hb.day hgm q1).2.1 q3
      omega
  · obtain ⟨c', hc', e1, e2, e3, e4, e5⟩ := hc c hcm
    have := pc c' hc'
    rw [cx_node, cy_node, e1, e2, e3, cNode_same hn, cNode_same hn, ← cx_node, ← cy_node] at this
    omega
theorem nodes_days (hg : x.2.1 = b.2.1) (hd : ∀ g ∈ b.2.1, daysP x g = daysP b g) : nodesP x = nodesP b := by
  unfold nodesP
  rw [hg]
  have : ∀ l : List Gauge, (∀ g ∈ l, g ∈ b.2.1) → (l.flatMap fun g => (daysP x g).map fun d => ((g.1, d) : Int × Int)) = l.flatMap fun g => (daysP b g).map fun d => ((g.1, d) : Int × Int) := by
    intro l
    induction l with
    | nil => intro _; rfl
    | cons g t ih =>
      intro hl
      rw [List.flatMap_cons, List.flatMap_cons, hd g (hl g (by simp)), ih fun g hg => hl g (by simp [hg])]
  exact this _ fun g hg => hg
end
section
variable {b : Book} {c d : Cmp}
theorem nodes_twice (e1 : d.2.1 = c.2.1) (e2 : d.2.2.1 = c.2.2.1) (e3 : d.2.2.2.1 = c.2.2.2.1) : nodesP (more (more b c) d) = nodesP (more b c) := by
  refine nodes_days rfl fun g hg => asc_ext (days_lt _ _) (days_lt _ _) fun y => ?_
  rw [daysP_mem, daysP_mem]
  refine or_congr Iff.rfl (or_congr ?_ Iff.rfl)
  constructor
  · rintro ⟨q, hq, h1, h2⟩
    rcases List.mem_append.1 (show q ∈ (more b c).2.2.2.2.1 ++ [d] from hq) with hq | hq
    · exact ⟨q, hq, h1, h2⟩
    · rw [List.mem_singleton] at hq
      subst hq
      exact ⟨c, more_mem, by rw [← e2, ← e3]; exact h1, by rw [← e1]; exact h2⟩
  · rintro ⟨q, hq, h1, h2⟩
    exact ⟨q, List.mem_append.2 (.inl hq), h1, h2⟩
theorem loss_refl {b : Book} {g : Gauge} : ∀ d e : Int, 0 ≤ d → d ≤ e → lossP b g d e ≤ lossP b g d e := fun _ _ _ _ => Int.le_refl _
theorem more_pot (h : Good b) (h' : Good (more b c)) (hn : nodesP (more b c) = nodesP b) {p : Int → Int} (hp : Pot (linksP (more b c)) p) : Pot (linksP b) p :=
  nar_pot h h' hn (fun g hg => ⟨g, hg, rfl, rfl, Int.le_refl _, Int.le_refl _, fun _ _ _ _ => Int.le_refl _⟩) (fun q hq => ⟨q, List.mem_append.2 (.inl hq), rfl, rfl, rfl, Int.le_refl _, Int.le_refl _⟩) hp
theorem twice_pot (h : Good (more b c)) (h' : Good (more (more b c) d)) (e1 : d.2 = c.2) {p : Int → Int} : Pot (linksP (more (more b c) d)) p ↔ Pot (linksP (more b c)) p := by
  have hn : nodesP (more (more b c) d) = nodesP (more b c) := nodes_twice (by rw [e1]) (by rw [e1]) (by rw [e1])
  constructor
  · exact more_pot h h' hn
  · refine nar_pot h' h hn.symm (fun g hg => ⟨g, hg, rfl, rfl, Int.le_refl _, Int.le_refl _, fun _ _ _ _ => Int.le_refl _⟩) (fun q hq => ?_)
    rcases List.mem_append.1 (show q ∈ (more b c).2.2.2.2.1 ++ [d] from hq) with hq | hq
    · exact ⟨q, hq, rfl, rfl, rfl, Int.le_refl _, Int.le_refl _⟩
    · rw [List.mem_singleton] at hq
      subst hq
      obtain ⟨i, q⟩ := q
      obtain ⟨j, c⟩ := c
      simp only at e1
      subst e1
      exact ⟨_, more_mem, rfl, rfl, rfl, Int.le_refl _, Int.le_refl _⟩
theorem more_fits (h : Good b) (h' : Good (more b c)) (hn : nodesP (more b c) = nodesP b) {p : Int → Int} : Pot (linksP (more b c)) p ↔ Pot (linksP b) p ∧ (saysP b c).1 ≤ p (cx b c) - p (cy b c) ∧ p (cx b c) - p (cy b c) ≤ (saysP b c).2 := by
  have ex : cx (more b c) c = cx b c := by rw [cx_node, cx_node, cNode_same hn]
  have ey : cy (more b c) c = cy b c := by rw [cy_node, cy_node, cNode_same hn]
  constructor
  · intro hp
    have := ((pot_iff h').1 hp).2 c more_mem
    rw [ex, ey] at this
    have e : saysP (more b c) c = saysP b c := rfl
    rw [e] at this
    exact ⟨more_pot h h' hn hp, by omega, by omega⟩
  · rintro ⟨hp, h1, h2⟩
    obtain ⟨pg, pc⟩ := (pot_iff h).1 hp
    refine (pot_iff h').2 ⟨fun g hg => ?_, fun q hq => ?_⟩
    · have gf := pg g hg
      have hd : ∀ y, y ∈ daysP (more b c) g ↔ y ∈ daysP b g := by
        intro y
        rw [← mem_nodes h hg, ← mem_nodes h' hg, hn]
      refine ⟨by rw [nodeP_same hn]; exact gf.hi, by rw [nodeP_same hn]; exact gf.lo, fun y z q1 q2 q3 => ?_, fun y z q1 q2 q3 => ?_⟩
      · rw [nodeP_same hn, nodeP_same hn]; exact gf.down y z ((hd y).1 q1) ((hd z).1 q2) q3
      · rw [nodeP_same hn, nodeP_same hn]; exact gf.loss y z ((hd y).1 q1) ((hd z).1 q2) q3
    · rcases List.mem_append.1 (show q ∈ b.2.2.2.2.1 ++ [c] from hq) with hq | hq
      · have := pc q hq
        rw [cx_node, cy_node, cNode_same hn, cNode_same hn, ← cx_node, ← cy_node]
        exact this
      · rw [List.mem_singleton] at hq
        subst hq
        rw [ex, ey]
        have e : saysP (more b q) q = saysP b q := rfl
        rw [e]
        omega
end
def Pt {α : Type} (R : α → α → Prop) (l m : List α) : Prop := m.length = l.length ∧ ∀ (i : Nat) (a c : α), l[i]? = some a → m[i]? = some c → R a c
theorem pt_refl {α : Type} {R : α → α → Prop} (h : ∀ a, R a a) (l : List α) : Pt R l l := ⟨rfl, fun i a c h1 h2 => by rw [h1] at h2; cases h2; exact h a⟩
theorem pt_set {α : Type} {R : α → α → Prop} (h : ∀ a, R a a) {l : List α} {i : Nat} {a c : α} (ha : l[i]? = some a) (hr : R a c) : Pt R l (l.set i c) := by
  refine ⟨List.length_set, fun j x y h1 h2 => ?_⟩
  rw [List.getElem?_set] at h2
  by_cases e : i = j
  · subst e
    rw [if_pos rfl, if_pos (List.getElem?_eq_some_iff.1 ha).1] at h2
    rw [ha] at h1
    cases h1; cases h2
    exact hr
  · rw [if_neg e, h1] at h2
    cases h2
    exact h x
theorem pt_get {α : Type} {R : α → α → Prop} {l m : List α} (h : Pt R l m) {a : α} (ha : a ∈ l) : ∃ c ∈ m, R a c := by
  obtain ⟨i, hi, rfl⟩ := List.mem_iff_getElem.1 ha
  have hm : i < m.length := by rw [h.1]; exact hi
  exact ⟨m[i], List.getElem_mem _, h.2 i _ _ (List.getElem?_eq_getElem hi) (List.getElem?_eq_getElem hm)⟩
theorem pt_back {α : Type} {R : α → α → Prop} {l m : List α} (h : Pt R l m) {c : α} (hc : c ∈ m) : ∃ a ∈ l, R a c := by
  obtain ⟨i, hi, rfl⟩ := List.mem_iff_getElem.1 hc
  have hm : i < l.length := by rw [← h.1]; exact hi
  exact ⟨l[i], List.getElem_mem _, h.2 i _ _ (List.getElem?_eq_getElem hm) (List.getElem?_eq_getElem hi)⟩
def NarG (g g' : Gauge) : Prop := g'.1 = g.1 ∧ g'.2.1 = g.2.1 ∧ g'.2.2.1 = g.2.2.1 ∧ g.2.2.2.1.1 ≤ g'.2.2.2.1.1 ∧ g'.2.2.2.1.2 ≤ g.2.2.2.1.2 ∧ g'.2.2.2.2.1 = g.2.2.2.2.1 ∧ g'.2.2.2.2.2 ≤ g.2.2.2.2.2
def NarL (l l' : Loan) : Prop := l'.1 = l.1 ∧ l'.2.1 = l.2.1 ∧ l'.2.2 ≤ l.2.2
def NarC (c c' : Cmp) : Prop := c'.2.1 = c.2.1 ∧ c'.2.2.1 = c.2.2.1 ∧ c'.2.2.2.1 = c.2.2.2.1 ∧ c'.2.2.2.2.1 = c.2.2.2.2.1 ∧ c'.2.2.2.2.2.1 ≤ c.2.2.2.2.2.1 ∧ c.2.2.2.2.2.2.1 ≤ c'.2.2.2.2.2.2.1 ∧ c'.2.2.2.2.2.2.2 ≤ c.2.2.2.2.2.2.2
structure Nar (b x : Book) : Prop where
  film : b.1.1 ≤ x.1.1 ∧ x.1.2 ≤ b.1.2
  gauges : Pt NarG b.2.1 x.2.1
  uses : x.2.2.1 = b.2.2.1
  loans : Pt NarL b.2.2.2.1 x.2.2.2.1
  compares : Pt NarC b.2.2.2.2.1 x.2.2.2.2.1
  looks : x.2.2.2.2.2 = b.2.2.2.2.2
theorem NarG.refl (g : Gauge) : NarG g g := ⟨rfl, rfl, rfl, Int.le_refl _, Int.le_refl _, rfl, Int.le_refl _⟩
theorem NarL.refl (l : Loan) : NarL l l := ⟨rfl, rfl, Int.le_refl _⟩
theorem NarC.refl (c : Cmp) : NarC c c := ⟨rfl, rfl, rfl, rfl, Int.le_refl _, Int.le_refl _, Int.le_refl _⟩
theorem Nar.refl (b : Book) : Nar b b := ⟨⟨Int.le_refl _, Int.le_refl _⟩, pt_refl NarG.refl _, rfl, pt_refl NarL.refl _, pt_refl NarC.refl _, rfl⟩
theorem mul_floor {k : Int × Int} (hk : 0 < k.2) (n : Int) : (mulP k n).1 / (mulP k n).2 = k.1 * n / k.2 ∧ -(mulP k n).1 / (mulP k n).2 = -(k.1 * n) / k.2 := by
  obtain ⟨g, g0, _, g1, g2⟩ := red_spec (n := k.1 * n) hk
  have hg : (0 : Int) < g := by omega
  have key : ∀ q d : Int, k.1 * n = q * g → k.2 = d * g → q / d = k.1 * n / k.2 ∧ -q / d = -(k.1 * n) / k.2 := by
    intro q d h1 h2
    rw [h1, h2]
    refine ⟨(Int.mul_ediv_mul_of_pos_left _ _ hg).symm, ?_⟩
    rw [← Int.neg_mul]
    exact (Int.mul_ediv_mul_of_pos_left _ _ hg).symm
  exact key _ _ g1 g2
theorem over_narrow {k : Int × Int} (hk : 0 < k.2) {h h' : Int × Int} (h0 : h.1 ≤ h.2) (h0' : h'.1 ≤ h'.2) (h1 : h.1 ≤ h'.1) (h2 : h'.2 ≤ h.2) :
    ceilP (overP k h).1 ≤ ceilP (overP k h').1 ∧ (overP k h').2.1 / (overP k h').2.2 ≤ (overP k h).2.1 / (overP k h).2.2 := by
  have mono : ∀ {m n : Int}, k.1 * m ≤ k.1 * n → (mulP k m).1 / (mulP k m).2 ≤ (mulP k n).1 / (mulP k n).2 ∧ ceilP (mulP k m) ≤ ceilP (mulP k n) := by
    intro m n hmn
    unfold ceilP
    rw [(mul_floor hk m).1, (mul_floor hk m).2, (mul_floor hk n).1, (mul_floor hk n).2]
    have a1 := Int.ediv_le_ediv hk hmn
    have a2 := Int.ediv_le_ediv hk (show -(k.1 * n) ≤ -(k.1 * m) by omega)
    omega
  rw [over_scale hk h0, over_scale hk h0']
  by_cases hn : k.1 < 0
  · rw [if_pos hn, if_pos hn]
    exact ⟨(mono (Int.mul_le_mul_of_nonpos_left (by omega) h2)).2, (mono (Int.mul_le_mul_of_nonpos_left (by omega) h1)).1⟩
  · rw [if_neg hn, if_neg hn]
    exact ⟨(mono (Int.mul_le_mul_of_nonneg_left h1 (by omega))).2, (mono (Int.mul_le_mul_of_nonneg_left h2 (by omega))).1⟩
section
variable {b x : Book}
theorem nar_days (hn : Nar b x) {g g' : Gauge} (h : NarG g g') : daysP x g' = daysP b g := by
  refine asc_ext (days_lt _ _) (days_lt _ _) fun y => ?_
  rw [daysP_mem, daysP_mem, h.1, h.2.1, hn.looks]
  refine or_congr Iff.rfl (or_congr ?_ Iff.rfl)
  constructor
  · rintro ⟨q, hq, h1, h2⟩
    obtain ⟨c, hc, r⟩ := pt_back hn.compares hq
    exact ⟨c, hc, by rw [← r.2.1, ← r.2.2.1]; exact h1, by rw [← r.1]; exact h2⟩
  · rintro ⟨q, hq, h1, h2⟩
    obtain ⟨c, hc, r⟩ := pt_get hn.compares hq
    exact ⟨c, hc, by rw [r.2.1, r.2.2.1]; exact h1, by rw [r.1]; exact h2⟩
theorem nar_nodes (hn : Nar b x) : nodesP x = nodesP b := by
  unfold nodesP
  have : ∀ l m : List Gauge, Pt NarG l m → (m.flatMap fun g => (daysP x g).map fun d => ((g.1, d) : Int × Int)) = l.flatMap fun g => (daysP b g).map fun d => ((g.1, d) : Int × Int) := by
    intro l
    induction l with
    | nil =>
      intro m hm
      have : m = [] := List.length_eq_zero_iff.1 hm.1
      subst this; rfl
    | cons g t ih =>
      intro m hm
      cases m with
      | nil => have := hm.1; simp at this
      | cons g' t' =>
        have r := hm.2 0 g g' rfl rfl
        rw [List.flatMap_cons, List.flatMap_cons, nar_days hn r, r.1, ih t' ⟨by have := hm.1; simpa using this, fun i a c h1 h2 => hm.2 (i + 1) a c (by simpa using h1) (by simpa using h2)⟩]
  exact this _ _ hn.gauges
theorem nar_loss (hn : Nar b x) {g g' : Gauge} (h : NarG g g') (f t : Int) : lossP x g' f t ≤ lossP b g f t := by
  unfold lossP
  have hu : useDays x g'.1 f t = useDays b g.1 f t := by unfold useDays; rw [hn.uses, h.1]
  rw [hu, h.1]
  have hl : ∀ l m : List Loan, Pt NarL l m → loanLoss g.1 f t m ≤ loanLoss g.1 f t l := by
    intro l
    induction l with
    | nil =>
      intro m hm
      have : m = [] := List.length_eq_zero_iff.1 hm.1
      subst this; exact Int.le_refl _
    | cons a s ih =>
      intro m hm
      cases m with
      | nil => have := hm.1; simp at this
      | cons a' s' =>
        have r := hm.2 0 a a' rfl rfl
        have i := ih s' ⟨by have := hm.1; simpa using this, fun i a c h1 h2 => hm.2 (i + 1) a c (by simpa using h1) (by simpa using h2)⟩
        simp only [loanLoss]
        have e : loanDays a' f t = loanDays a f t := by unfold loanDays; rw [r.2.1]
        rw [e, r.1]
        split
        · rename_i hc
          have := Int.mul_le_mul_of_nonneg_left r.2.2 (show 0 ≤ loanDays a f t by omega)
          omega
        · omega
  have h1 := hl _ _ hn.loans
  have h2 := Int.mul_le_mul_of_nonneg_left h.2.2.2.2.2.2 (show (0 : Int) ≤ ((setI (useDays b g.1 f t)).length : Int) by omega)
  omega
theorem nar_rate (hn : Nar b x) (hb : Good b) (hx : Good x) (l : List Int) : rateP (shelf x) l = rateP (shelf b) l := by
  unfold rateP
  cases l with
  | nil => rfl
  | cons a t =>
    simp only
    rw [mget_shelf hx.ids, mget_shelf hb.ids]
    cases h1 : gaugeOf b a with
    | none =>
      cases h2 : gaugeOf x a with
      | none => rfl
      | some g' =>
        obtain ⟨q1, q2⟩ := gaugeOf_some h2
        obtain ⟨g, hg, r⟩ := pt_back hn.gauges q1
        have := gaugeOf_mem hb.ids hg
        rw [← r.1, q2, h1] at this
        cases this
    | some g =>
      obtain ⟨q1, q2⟩ := gaugeOf_some h1
      obtain ⟨g', hg, r⟩ := pt_get hn.gauges q1
      have := gaugeOf_mem hx.ids hg
      rw [r.1, q2] at this
      rw [this]
      exact r.2.2.2.2.2.1
theorem nar_says (hn : Nar b x) (hb : Good b) (hx : Good x) {c c' : Cmp} (hc : c ∈ b.2.2.2.2.1) (hc' : c' ∈ x.2.2.2.2.1) (r : NarC c c') : (saysP b c).1 ≤ (saysP x c').1 ∧ (saysP x c').2 ≤ (saysP b c).2 := by
  obtain ⟨e1, e2, e3, e4, e5, e6, e7⟩ := r
  have n1 := (numsP_iff c).1 (hb.nums hc)
  have n2 := (numsP_iff c').1 (hx.nums hc')
  have s1 := n1.2.2.2.2.1
  have s2 := n2.2.2.2.2.1
  simp only [spanP, Bool.and_eq_true, decide_eq_true_eq] at s1 s2
  have hk : 0 < (rateK (shelf b) c).2 := (sub_rat (hb.rates hc).1 (hb.rates hc).2).pos
  have ek : rateK (shelf x) c' = rateK (shelf b) c := by unfold rateK; rw [nar_rate hn hb hx, nar_rate hn hb hx, e2, e3]
  obtain ⟨g1, g2⟩ := over_narrow hk s1.2.1 s2.2.1 e6 e7
  rw [← ek] at g2
  have g2' : (growthP x c').2.1 / (growthP x c').2.2 ≤ (growthP b c).2.1 / (growthP b c).2.2 := by unfold growthP; rw [← ek]; exact g2
  have g1' : ceilP (growthP b c).1 ≤ ceilP (growthP x c').1 := by unfold growthP; rw [ek]; exact g1
  have f1 : (filmsP b c).1 ≤ (filmsP x c').1 ∧ (filmsP x c').2 ≤ (filmsP b c).2 := by
    unfold filmsP
    rw [e2, e3]
    have p : ∀ (n : Nat) {y z : Int}, y ≤ z → (n : Int) * y ≤ (n : Int) * z := fun n y z h => Int.mul_le_mul_of_nonneg_left h (by omega)
    have q1 := p (c.2.2.1.length - 1) hn.film.1
    have q2 := p (c.2.2.1.length - 1) hn.film.2
    have q3 := p (c.2.2.2.1.length - 1) hn.film.1
    have q4 := p (c.2.2.2.1.length - 1) hn.film.2
    simp only
    omega
  unfold saysP
  rw [e4]
  simp only
  omega
theorem nar_fits (hn : Nar b x) (hb : Good b) (hx : Good x) {p : Int → Int} (hp : Pot (linksP x) p) : Pot (linksP b) p := by
  refine nar_pot hb hx (nar_nodes hn) (fun g hg => ?_) (fun c hc => ?_) hp
  · obtain ⟨g', hg', r⟩ := pt_get hn.gauges hg
    exact ⟨g', hg', r.1, r.2.1, by have := r.2.2.1; have := r.2.2.2.2.1; omega, by have := r.2.2.1; have := r.2.2.2.1; omega, fun d e _ _ => nar_loss hn r d e⟩
  · obtain ⟨c', hc', r⟩ := pt_get hn.compares hc
    have := nar_says hn hb hx hc hc' r
    exact ⟨c', hc', by rw [r.2.1, r.2.2.1], by rw [r.2.1, r.2.2.1], r.1, this.1, this.2⟩
end
end Go.Proofs.ZzM
end

noncomputable section
namespace Go.Proofs.ZzM
open Go Go.Am
theorem NodesP_good' {b : Book} (h : Good b) : NodesP b = (nodesP b, 0) := by
  unfold NodesP
  rw [if_neg (by simp [(checkP_iff b).2 h])]
theorem WithP_zero {b : Book} {c : Cmp} (h : (WithP b c).2 = 0) : Good b ∧ Good (more b c) ∧ WithP b c = (more b c, 0) := by
  unfold WithP at h ⊢
  by_cases hb : checkP b = 0
  · rw [if_neg (by simp [hb])] at h ⊢
    by_cases hm : checkP (more b c) = 0
    · rw [if_neg (by simp [hm])]
      exact ⟨(checkP_iff b).1 hb, (checkP_iff _).1 hm, rfl⟩
    · rw [if_pos hm] at h; exact absurd h hm
  · rw [if_pos hb] at h; exact absurd h hb
end Go.Proofs.ZzM
end

noncomputable section
namespace Go.Proofs.ZzM
open Go Go.Am
theorem brief_ok (c : Cmp) : f_w5_brief c = some (decide (c.2.2.1.length ≤ 9) && decide (c.2.2.2.1.length ≤ 9)) := by
  unfold f_w5_brief m_w5_brief
  rw [ilen_eq, ilen_eq, ifb_eq]
  by_cases h : c.2.2.1.length ≤ 9
  · rw [if_pos (by simp [ile]; omega)]
    simp [ile, h]
    omega
  · rw [if_neg (by simp [ile]; omega)]
    simp [h]
end Go.Proofs.ZzM
end

noncomputable section
namespace Go.Proofs.ZzM
open Go Go.Am
def apartP (b : Book) (c : Cmp) (x : List Int) : Int := gv (0 :: x) (cx b c) - gv (0 :: x) (cy b c)
def ShowsP (b : Book) (i : Int) (x : List Int) : (Int × Int) × Int :=
  if (whichP b i).2 ≠ 0 then ((0, 0), (whichP b i).2) else if !lengthsP b x then ((0, 0), 1) else shownP b (whichP b i).1 (apartP b (whichP b i).1 x, apartP b (whichP b i).1 x)
theorem gv_bd {x : List Int} {m : Int} (hm : 0 ≤ m) (h : ∀ a ∈ x, -m ≤ a ∧ a ≤ m) (v : Int) : -m ≤ gv x v ∧ gv x v ≤ m := by
  unfold gv
  cases hv : x[v.toNat]? with
  | none => simp only [Option.getD_none]; omega
  | some a => simp only [Option.getD_some]; exact h a (List.mem_of_getElem? hv)
theorem apart_bd {b : Book} {x : List Int} (hx : lengthsP b x = true) (c : Cmp) : (∀ v, -4503599627370496 ≤ gv (0 :: x) v ∧ gv (0 :: x) v ≤ 4503599627370496) ∧ -9007199254740992 ≤ apartP b c x ∧ apartP b c x ≤ 9007199254740992 := by
  have h := (lengthsP_iff.1 hx).2
  have hb : ∀ v, -4503599627370496 ≤ gv (0 :: x) v ∧ gv (0 :: x) v ≤ 4503599627370496 := gv_bd (by omega) fun a ha => by
    rcases List.mem_cons.1 ha with rfl | ha
    · omega
    · exact h a ha
  refine ⟨hb, ?_⟩
  have h1 := hb (cx b c)
  have h2 := hb (cy b c)
  unfold apartP
  omega
theorem Shows_ok {b : Book} (h : In b) (i : Int) (x : List Int) : f_c_Shows b i x = some (ShowsP b i x) := by
  unfold f_c_Shows m_c_Shows ShowsP
  rw [which_ok h, bindF_some]
  by_cases hw : (whichP b i).2 = 0
  · obtain ⟨g, hm, _, _⟩ := whichP_zero hw
    have hN := g.nodes
    have hn := (numsP_iff _).1 (g.nums hm)
    have ha := pileP_len hn.2.2.2.2.2.1
    have hb := pileP_len hn.2.2.2.2.2.2
    rw [ifb_f (by simp [ine, hw]), if_neg (show ¬ ((whichP b i).2 ≠ 0) from fun h => h hw), made_ok' g, bindF_some, lengths_ok (by dsimp only; omega), bindF_some]
    rw [show (decide (x.length = (b, nodesP b, (((nodesP b).length : Int) + 1, linksP b), sourcesP b).2.1.length) && x.all fun n => inP n (-4503599627370496) 4503599627370496) = lengthsP b x from rfl]
    cases hl : lengthsP b x with
    | false => rfl
    | true =>
      obtain ⟨hv, hd⟩ := apart_bd hl (whichP b i).1
      have hlen := (lengthsP_iff.1 hl).1
      have rx := (cx_left g hm).rng
      have ry := (cy_left g hm).rng
      have hol : olen ([0] ++ x) = (((nodesP b).length + 1 : Nat) : Int) := by
        show (((([0] ++ x : List Int)).length : Nat) : Int) = _
        simp only [List.length_append, List.length_singleton]
        omega
      rw [if_pos rfl, ifb_f (by rfl), okLen_of (by simp only [List.length_singleton]; omega), Am.iff_true, left_ok (by omega) (by omega), bindF_some, at_ok _ _ _ (by dsimp only; omega), bindF_some]
      dsimp only
      rw [show atP (nodesP b) (leftP (whichP b i).1.2.2.1 (whichP b i).1.2.2.2.1) (whichP b i).1.2.1 = cx b (whichP b i).1 from rfl, hol, iff_rng rx.1 rx.2, nget_gv (by simp only [List.length_append, List.length_singleton]; omega), left_ok (by omega) (by omega), bindF_some, at_ok _ _ _ (by dsimp only; omega), bindF_some]
      dsimp only
      rw [show atP (nodesP b) (leftP (whichP b i).1.2.2.2.1 (whichP b i).1.2.2.1) (whichP b i).1.2.1 = cy b (whichP b i).1 from rfl, iff_rng ry.1 ry.2, nget_gv (by simp only [List.length_append, List.length_singleton]; omega)]
      rw [show gv ([0] ++ x) (cx b (whichP b i).1) = gv (0 :: x) (cx b (whichP b i).1) from rfl, show gv ([0] ++ x) (cy b (whichP b i).1) = gv (0 :: x) (cy b (whichP b i).1) from rfl]
      rw [show gv (0 :: x) (cx b (whichP b i).1) - gv (0 :: x) (cy b (whichP b i).1) = apartP b (whichP b i).1 x from rfl, ck_ok (by omega) (by omega), shown_ok g.size g.film (g.cmp hm) (by dsimp only; omega) (by dsimp only; omega), bindF_some]
      rfl
  · rw [ifb_t (by simp [ine, hw]), if_pos hw]
end Go.Proofs.ZzM
end

noncomputable section
namespace Go.Proofs.ZzM
open Go Go.Am
theorem same_none {α : Type} [DecidableEq α] {l m : List α} (hl : l.length = m.length) (h : firstO (fun i a => if m[i]? = some a then none else some false) 0 l = none) : l = m := by
  have := firstO_none.1 h
  refine List.ext_getElem hl fun i h1 h2 => ?_
  have h3 := this i l[i] (List.getElem?_eq_getElem h1)
  rw [Nat.zero_add] at h3
  split at h3
  · rename_i h4
    rw [List.getElem?_eq_getElem h2] at h4
    exact (Option.some.inj h4).symm
  · cases h3
theorem same_some {α : Type} [DecidableEq α] {l m : List α} {b : Bool} (h : firstO (fun i a => if m[i]? = some a then none else some false) 0 l = some b) : b = false ∧ l ≠ m := by
  constructor
  · have : ∀ (k : Nat) (x : List α) (b : Bool), firstO (fun i a => if m[i]? = some a then none else some false) k x = some b → b = false := by
      intro k x
      induction x generalizing k with
      | nil => intro b h; cases h
      | cons a t ih =>
        intro b h
        unfold firstO at h
        split at h
        · rename_i c hc
          split at hc
          · cases hc
          · cases hc; cases h; rfl
        · exact ih _ _ h
    exact this _ _ _ h
  · intro e
    subst e
    rw [firstO_none.2 fun j a ha => by rw [Nat.zero_add, if_pos ha]] at h
    cases h
end Go.Proofs.ZzM
end

noncomputable section
namespace Go.Proofs.ZzM
open Go Go.Am
theorem SameNodes_ok {l m : List (Int × Int)} (hn : l.length ≤ 1000000) : f_r5_SameNodes l m = some (decide (l = m)) := by
  unfold f_r5_SameNodes m_r5_SameNodes
  rw [ilen_eq, ilen_eq]
  by_cases hl : l.length = m.length
  · rw [ifb_f (by simp [ine, hl])]
    refine Eq.trans (loop_first l (fun i a => if m[i]? = some a then none else some false) some (some true) (fun i a hi ha kn => ?_) (fun kn => ?_)) ?_
    · try dsimp only
      unfold m_r5_SameNodes_L0
      have hm : m[i]? = some m[i] := List.getElem?_eq_getElem (by omega)
      rw [ifb_lt' hi, iget_nat ha, iget_nat hm, ck_succ hi (by omega), hm, ifb_eq]
      have e : (!(dieq a.1 m[i].1 && (dieq a.2 m[i].2 && true))) = decide (¬ (m[i] = a)) := by
        rw [Bool.eq_iff_iff]
        simp only [dieq, Bool.and_true, Bool.not_eq_true', Bool.and_eq_false_iff, decide_eq_false_iff_not, decide_eq_true_eq]
        constructor
        · intro h e; rw [e] at h; simp at h
        · intro h
          by_cases h1 : a.1 = m[i].1
          · by_cases h2 : a.2 = m[i].2
            · exact absurd (Prod.ext h1 h2).symm h
            · exact .inr h2
          · exact .inl h1
      rw [e]
      by_cases h : m[i] = a
      · simp [h]
      · simp [h]
    · try dsimp only
      unfold m_r5_SameNodes_L0
      rw [ifb_ge]
    · cases h : firstO (fun i a => if m[i]? = some a then none else some false) 0 l with
      | none => simp [same_none hl h]
      | some b =>
        obtain ⟨h1, h2⟩ := same_some h
        simp [h1, h2]
  · rw [ifb_t (by simp [ine]; omega)]
    have : l ≠ m := fun e => hl (by rw [e])
    simp [this]
end Go.Proofs.ZzM
end

noncomputable section
namespace Go.Proofs.ZzM
open Go Go.Am
section
variable {b : Book} {c d : Cmp} {s : Int × Int}
theorem pred_open (h : Pred b c s) (hd : zeroDiff d = zeroDiff c) (h' : Good (more b d)) : openP (linksP (more b d)) ((nodesP (more b d)).length + 1) = true ↔ s.1 ≤ d.2.2.2.2.1 ∧ d.2.2.2.2.1 ≤ s.2 := by
  have e1 : lowP b d = lowP b c := show lowP b (zeroDiff d) = lowP b (zeroDiff c) by rw [hd]
  have e2 : highP b d = highP b c := show highP b (zeroDiff d) = highP b (zeroDiff c) by rw [hd]
  have e3 : ∀ f z, diffP f z d = diffP f z c := fun f z => show diffP f z (zeroDiff d) = diffP f z (zeroDiff c) by rw [hd]
  obtain ⟨l1, l2⟩ := says_low b d
  rw [e2] at l1
  rw [e1] at l2
  rw [open_hist h']
  constructor
  · rintro ⟨f, z, hf⟩
    obtain ⟨h1, h2⟩ := hist_more.1 hf
    have a := h.all f z h1
    rw [e3] at h2
    omega
  · rintro ⟨h1, h2⟩
    have o := h.order
    have n := h.ends
    obtain ⟨f, z, hf, ht⟩ := h.each (max (s.1 - lowP b c) (d.2.2.2.2.1 - highP b c)) (by omega) (by omega)
    refine ⟨f, z, hist_more.2 ⟨hf, ?_⟩⟩
    rw [e3]
    omega
theorem pred_bd (h : Pred b c s) : -10000000000000000 ≤ s.1 ∧ s.1 ≤ s.2 ∧ s.2 ≤ 10000000000000000 := by
  have q := h.good2.cmp (more_mem (c := zeroDiff c))
  obtain ⟨_, _, b1, b2, b3⟩ := shown_bounds (b := b) h.good.film (c := zeroDiff c) ⟨q.nums, q.r1, q.r2⟩
  have e1 : lowP b c = ceilP (growthP b (zeroDiff c)).1 + (filmsP b (zeroDiff c)).1 - (zeroDiff c).2.2.2.2.2.1 := rfl
  have e2 : highP b c = (growthP b (zeroDiff c)).2.1 / (growthP b (zeroDiff c)).2.2 + (filmsP b (zeroDiff c)).2 + (zeroDiff c).2.2.2.2.2.1 := rfl
  have o := h.order
  have n := h.ends
  have bd := h.bd
  omega
theorem shown_fits (h : Good b) (h' : Good (more b d)) (hn : nodesP (more b d) = nodesP b) {x : List Int} (hf : fitsP b x = true) : fitsP (more b d) x = decide (apartP (more b d) d x + lowP b d ≤ d.2.2.2.2.1 ∧ d.2.2.2.2.1 ≤ apartP (more b d) d x + highP b d) := by
  obtain ⟨l1, l2⟩ := says_low b d
  have ex : cx (more b d) d = cx b d := by rw [cx_node, cx_node, cNode_same hn]
  have ey : cy (more b d) d = cy b d := by rw [cy_node, cy_node, cNode_same hn]
  rw [Bool.eq_iff_iff, decide_eq_true_eq]
  show fitsL _ _ = true ↔ _
  have hp := fitsL_iff.1 (show fitsL (linksP b) (0 :: x) = true from hf)
  rw [fitsL_iff, more_fits h h' hn]
  unfold apartP
  rw [ex, ey]
  constructor
  · rintro ⟨_, a1, a2⟩
    omega
  · rintro ⟨a1, a2⟩
    exact ⟨hp, by omega, by omega⟩
def roundD {ρ : Type} (b : Book) (x : List Int) (fits : Bool) (e : Int) (d : Cmp) (D : Int) (ins : Bool) (CK K0 : Option ρ) : Option ρ :=
  bindF (f_c_With b d) fun r18 => ifb (ine r18.2 (0 : Int)) CK (bindF (f_c_System r18.1) fun r20 => bindF (f_h_Consistent r20.1) fun r21 => ifb (ine r20.2.2 (0 : Int)) K0 (ifb (ine r21.2 (0 : Int)) K0 (ifb (!(r21.1 == ins)) K0 (bindF (f_c_Nodes b) fun r22 => bindF (f_c_Nodes r18.1) fun r23 => ifb (ine r22.2 (0 : Int)) CK (ifb (ine r23.2 (0 : Int)) CK (ifb (!fits) CK (ifb (ine e (0 : Int)) CK (bindF (f_r5_SameNodes r22.1 r23.1) fun r28 => ifb (!r28) CK (ck ((ilen r18.1.2.2.2.2.1) - (1 : Int)) fun n30 => bindF (f_c_Shows r18.1 n30 x) fun r31 => bindF (f_c_Fits r18.1 x) fun r32 => ifb (ine r32.2 (0 : Int)) K0 (ifb (ieq r31.2 (0 : Int)) (ifb (ile r31.1.1 D) (ifb (!(r32.1 == (ile D r31.1.2))) K0 CK) (ifb (!(r32.1 == false)) K0 CK)) (ifb (!(r32.1 == false)) K0 CK)))))))))))
set_option maxHeartbeats 2000000 in
theorem roundD_ok {ρ : Type} (hI : In b) (h : Pred b c s) (hd : zeroDiff d = zeroDiff c) (x : List Int) {D : Int} (hD : D = d.2.2.2.2.1) {ins : Bool} (hins : ins = decide (s.1 ≤ d.2.2.2.2.1 ∧ d.2.2.2.2.1 ≤ s.2)) (CK K0 : Option ρ) : roundD b x (FitsP b x).1 (FitsP b x).2 d D ins CK K0 = CK := by
  subst hD
  have g := h.good
  have hC := g.nC
  have hN := g.nodes
  have hpl : d.2.2.1.length ≤ 1000 ∧ d.2.2.2.1.length ≤ 1000 := by
    have := h.good2.size.piles (zeroDiff c) more_mem
    rw [← hd] at this
    exact this
  unfold roundD
  rw [With_ok hI.size hI.num hpl.1 hpl.2, bindF_some]
  by_cases h1 : (WithP b d).2 = 0
  · obtain ⟨_, g1, e1⟩ := WithP_zero h1
    have hI1 : In (more b d) := ⟨g1.size, hI.num⟩
    have hS : SystemP (more b d) = ((((nodesP (more b d)).length : Int) + 1, linksP (more b d)), sourcesP (more b d), 0) := by unfold SystemP; rw [if_neg (by simp [(checkP_iff _).2 g1])]
    rw [ifb_f (by simp [ine, h1]), e1]
    dsimp only
    rw [System_ok hI1, bindF_some, hS]
    dsimp only
    rw [show (((nodesP (more b d)).length : Int) + 1) = (((nodesP (more b d)).length + 1 : Nat) : Int) by push_cast; rfl, Consistent_ok g1.sys, bindF_some, ifb_f (by rfl), ifb_f (by rfl)]
    have ho : openP (linksP (more b d)) ((nodesP (more b d)).length + 1) = ins := by
      rw [hins, Bool.eq_iff_iff, decide_eq_true_eq]
      exact pred_open h hd g1
    dsimp only
    rw [ho, ifb_f (by simp), Nodes_ok hI, bindF_some, NodesP_good' g, Nodes_ok hI1, bindF_some, NodesP_good' g1]
    dsimp only
    rw [ifb_f (by rfl), ifb_f (by rfl)]
    cases hf : (FitsP b x).1 with
    | false => rfl
    | true =>
      rw [ifb_f (by rfl)]
      by_cases he : (FitsP b x).2 = 0
      · obtain ⟨_, hx, hfit⟩ := FitsP_iff.1 (show FitsP b x = (true, 0) from Prod.ext hf he)
        rw [ifb_f (by simp [ine, he]), SameNodes_ok (by omega), bindF_some]
        by_cases hn : nodesP b = nodesP (more b d)
        · have hx1 : lengthsP (more b d) x = true := by
            unfold lengthsP at hx ⊢
            rw [← hn]; exact hx
          have hlen : (more b d).2.2.2.2.1.length = b.2.2.2.2.1.length + 1 := by simp [more]
          have hw : whichP (more b d) (b.2.2.2.2.1.length : Int) = (d, 0) := by
            unfold whichP
            rw [if_neg (by simp [(checkP_iff _).2 g1]), if_neg (by rw [hlen]; omega), Int.toNat_natCast]
            have : (more b d).2.2.2.2.1[b.2.2.2.2.1.length]? = some d := by
              show (b.2.2.2.2.1 ++ [d])[b.2.2.2.2.1.length]? = some d
              simp
            rw [this]
            rfl
          have hF : FitsP (more b d) x = (fitsP (more b d) x, 0) := by
            unfold FitsP
            rw [if_neg (by simp [(checkP_iff _).2 g1]), if_pos hx1]
          have hSh : ShowsP (more b d) (b.2.2.2.2.1.length : Int) x = shownP b d (apartP (more b d) d x, apartP (more b d) d x) := by
            unfold ShowsP
            rw [hw, if_neg (by simp), if_neg (by simp [hx1])]
            rfl
          have hfd := shown_fits g g1 hn.symm hfit
          rw [decide_eq_true hn, ifb_f (by rfl), ilen_eq, hlen, ck_ok (by omega) (by omega), show (((b.2.2.2.2.1.length + 1 : Nat) : Int) - 1) = (b.2.2.2.2.1.length : Int) by omega, Shows_ok hI1, bindF_some, hSh, Fits_ok hI1.size hI1.num, bindF_some, hF]
          dsimp only
          rw [ifb_f (by rfl), hfd]
          unfold shownP
          by_cases hlt : highP b d < lowP b d
          · rw [if_pos hlt, ifb_f (by rfl), decide_eq_false (by omega)]
            rfl
          · rw [if_neg hlt, ifb_t (by rfl), ifb_eq]
            dsimp only
            by_cases q1 : apartP (more b d) d x + lowP b d ≤ d.2.2.2.2.1
            · rw [if_pos (by simpa [ile] using q1)]
              by_cases q2 : d.2.2.2.2.1 ≤ apartP (more b d) d x + highP b d
              · rw [decide_eq_true ⟨q1, q2⟩, show ile d.2.2.2.2.1 (apartP (more b d) d x + highP b d) = true by simpa [ile] using q2]
                rfl
              · rw [decide_eq_false (fun h => q2 h.2), show ile d.2.2.2.2.1 (apartP (more b d) d x + highP b d) = false by simpa [ile] using q2]
                rfl
            · rw [if_neg (by simpa [ile] using q1), decide_eq_false (fun h => q1 h.1)]
              rfl
        · rw [decide_eq_false hn, ifb_t (by rfl)]
      · rw [ifb_t (by simp [ine, he])]
  · rw [ifb_t (by simp [ine, h1])]
end
theorem wrap_nonneg (n : Int) : 0 ≤ IntKind.wrap .u64 n := by
  simp only [IntKind.wrap, IntKind.bits, IntKind.signed]
  simp
  omega
theorem shows_own {b : Book} (h : Good b) {x : List Int} (hx : lengthsP b x = true) (hf : fitsP b x = true) {i : Nat} {c : Cmp} (hc : b.2.2.2.2.1[i]? = some c) : (ShowsP b i x).2 = 0 ∧ (ShowsP b i x).1.1 ≤ c.2.2.2.2.1 ∧ c.2.2.2.2.1 ≤ (ShowsP b i x).1.2 := by
  have hi := (List.getElem?_eq_some_iff.1 hc).1
  have hw : whichP b (i : Int) = (c, 0) := by
    unfold whichP
    rw [if_neg (by simp [(checkP_iff b).2 h]), if_neg (by omega), Int.toNat_natCast, hc]
    rfl
  have hp := fitsL_iff.1 (show fitsL (linksP b) (0 :: x) = true from hf)
  have := ((pot_iff h).1 hp).2 c (List.mem_of_getElem? hc)
  obtain ⟨l1, l2⟩ := says_low b c
  unfold ShowsP
  rw [hw, if_neg (by simp), if_neg (by simp [hx])]
  dsimp only
  unfold shownP
  have e : apartP b c x = gv (0 :: x) (cx b c) - gv (0 :: x) (cy b c) := rfl
  rw [if_neg (by omega)]
  refine ⟨rfl, ?_, ?_⟩ <;> simp only <;> omega
def shownR (b : Book) (x : List Int) (c : Cmp) (by' : Int) : Option Bool :=
  bindF (f_c_Predict b c) fun r13 => ifb (ine r13.2 (0 : Int)) (some true) (ifb (igt r13.1.1 r13.1.2) (some false) (ck (r13.1.2 - r13.1.1) fun n15 => ck (n15 + (1 : Int)) fun n16 => ifb (dieq (IntKind.wrap .u64 n16) 0) (none) (ck (r13.1.1 + (IntKind.wrap .i64 (Int.tmod (IntKind.wrap .u64 by') (IntKind.wrap .u64 n16)))) fun n17 => loopT (fun (v113 : Int) kk115 => m_w5_CompareShown_L1 x (FitsP b x).1 (FitsP b x).2 b.1.1 b.1.2 b.2.1 b.2.2.1 b.2.2.2.1 b.2.2.2.2.1 b.2.2.2.2.2 c.1 c.2.1 c.2.2.1 c.2.2.2.1 n17 c.2.2.2.2.2.1 c.2.2.2.2.2.2.1 c.2.2.2.2.2.2.2 r13.1.1 r13.1.2 v113 (fun u114 => kk115 u114) (fun z110 => some z110) (fun _ => some true)) (0 : Int))))
set_option maxHeartbeats 4000000 in
theorem shownR_ok {b : Book} (hI : In b) (x : List Int) {c : Cmp} (hA : c.2.2.1.length ≤ 1000) (hB : c.2.2.2.1.length ≤ 1000) (by' : Int) : shownR b x c by' = some true := by
  unfold shownR
  rw [Predict_ok hI.size hI.num hA hB, bindF_some]
  by_cases hp : (PredictP b c).2 = 0
  · have P := predict_pred hp
    generalize (PredictP b c).1 = s at P ⊢
    have bd := pred_bd P
    have hw := wrap_nonneg by'
    obtain ⟨w, hw'⟩ := Int.eq_ofNat_of_zero_le hw
    obtain ⟨n, hn⟩ := Int.eq_ofNat_of_zero_le (show 0 ≤ s.2 - s.1 + 1 by omega)
    rw [ifb_f (by simp [ine, hp]), ifb_f (by simp [igt]; omega), ck_ok (by omega) (by omega), ck_ok (by omega) (by omega), hn, wrapU (by omega), ifb_f (by simp [dieq]; omega), hw']
    have e1 : Int.tmod (w : Int) (n : Int) = ((w % n : Nat) : Int) := by
      rw [Int.tmod_eq_emod_of_nonneg (by omega)]
      rfl
    have e2 := Nat.mod_lt w (show 0 < n by omega)
    rw [e1, wrapI (by omega), ck_ok (by omega) (by omega)]
    generalize hr : s.1 + ((w % n : Nat) : Int) = r
    have hrb : s.1 ≤ r ∧ r ≤ s.2 := by omega
    refine loop_inv (fun v : Int => ∃ i : Nat, i ≤ 5 ∧ v = i) (fun v => 5 - v.toNat) ?_ ⟨0, by omega, rfl⟩
    rintro v ⟨i, hi, rfl⟩
    rcases Nat.lt_or_ge i 5 with hlt | hge
    · refine .inr ⟨((i + 1 : Nat) : Int), ⟨i + 1, hlt, rfl⟩, by simp only [Int.toNat_natCast]; omega, fun kn => ?_⟩
      have key : ∀ (D : Int) (ins : Bool) (K0 : Option Bool), ins = decide (s.1 ≤ D ∧ D ≤ s.2) → roundD b x (FitsP b x).1 (FitsP b x).2 (c.1, c.2.1, c.2.2.1, c.2.2.2.1, D, c.2.2.2.2.2.1, c.2.2.2.2.2.2.1, c.2.2.2.2.2.2.2) D ins (ck ((i : Int) + 1) fun n => kn n) K0 = kn ((i + 1 : Nat) : Int) := by
        intro D ins K0 hins
        rw [roundD_ok hI P (d := (c.1, c.2.1, c.2.2.1, c.2.2.2.1, D, c.2.2.2.2.2.1, c.2.2.2.2.2.2.1, c.2.2.2.2.2.2.2)) rfl x rfl hins, ck_ok (by omega) (by omega)]
        rfl
      try dsimp only
      unfold m_w5_CompareShown_L1
      rw [ifb_t (by simp [ilt]; omega), ifb_eq (ieq (i : Int) 1), ifb_eq (ieq (i : Int) 2), ifb_eq (ieq (i : Int) 3), ifb_eq (ieq (i : Int) 4)]
      by_cases i1 : i = 1
      · rw [if_pos (by simp [ieq, i1])]
        exact key s.1 true (some false) (by rw [decide_eq_true (by omega)])
      rw [if_neg (by simp [ieq]; omega)]
      by_cases i2 : i = 2
      · rw [if_pos (by simp [ieq, i2])]
        exact key s.2 true (some false) (by rw [decide_eq_true (by omega)])
      rw [if_neg (by simp [ieq]; omega)]
      by_cases i3 : i = 3
      · rw [if_pos (by simp [ieq, i3]), ck_ok (by omega) (by omega)]
        exact key (s.1 - 1) false (some false) (by rw [decide_eq_false (by omega)])
      rw [if_neg (by simp [ieq]; omega)]
      by_cases i4 : i = 4
      · rw [if_pos (by simp [ieq, i4]), ck_ok (by omega) (by omega)]
        exact key (s.2 + 1) false (some false) (by rw [decide_eq_false (by omega)])
      rw [if_neg (by simp [ieq]; omega)]
      exact key r true (some false) (by rw [decide_eq_true (by omega)])
    · have : i = 5 := by omega
      subst this
      refine .inl fun kn => ?_
      try dsimp only
      unfold m_w5_CompareShown_L1
      rw [ifb_f (by simp [ilt])]
  · rw [ifb_t (by simp [ine, hp])]
set_option maxHeartbeats 2000000 in
theorem shown_law {b : Book} (hn : ∀ g ∈ b.2.1, I64 g.2.2.2.2.1.1) (x : List Int) (c : Cmp) (by' : Int) : f_w5_CompareShown b x c by' = some true := by
  unfold f_w5_CompareShown m_w5_CompareShown
  rw [small_ok, bindF_some, sanity_ok]
  by_cases hs : smallP b = true
  · obtain ⟨hsz, hC, _⟩ := small_size hs
    have hI : In b := ⟨hsz, hn⟩
    rw [ifb_f (by simp [hs]), brief_ok, bindF_some]
    by_cases hbr : c.2.2.1.length ≤ 9 ∧ c.2.2.2.1.length ≤ 9
    · rw [ifb_f (by simp [hbr.1, hbr.2]), ilen_eq x]
      by_cases h70 : 70 < x.length
      · rw [ifb_t (by simp [igt]; omega), bindF_some]
      have R := shownR_ok hI x (c := c) (by omega) (by omega) by'
      rw [ifb_f (by simp [igt]; omega), Fits_ok hsz hn, bindF_some]
      simp only [bindF_some]
      by_cases he : (FitsP b x).2 = 0
      · rw [ifb_t (by simp [ieq, he])]
        cases hf : (FitsP b x).1 with
        | false =>
          unfold shownR at R
          rw [hf] at R
          rw [ifb_false]
          exact R
        | true =>
          obtain ⟨hg, hx, hfit⟩ := FitsP_iff.1 (show FitsP b x = (true, 0) from Prod.ext hf he)
          rw [ifb_true]
          refine Eq.trans (loop_find b.2.2.2.2.1 (fun _ => false) (fun _ => some false) (some true) (fun i a hi ha kn => ?_) (fun kn => ?_)) ?_
          · try dsimp only
            unfold m_w5_CompareShown_L0
            obtain ⟨q1, q2, q3⟩ := shows_own hg hx hfit ha
            rw [ifb_lt' hi]
            rw [show f_c_Shows ((b.1.1, b.1.2), b.2.1, b.2.2.1, b.2.2.2.1, b.2.2.2.2.1, b.2.2.2.2.2) (i : Int) x = f_c_Shows b i x from rfl, Shows_ok hI, bindF_some, ifb_f (by simp [ine, q1]), iget_nat ha, ifb_f (by simpa [ilt] using q2), iget_nat ha, ifb_f (by simpa [igt] using q3), ck_succ hi (by omega)]
            rfl
          · try dsimp only
            unfold m_w5_CompareShown_L0
            unfold shownR at R
            rw [hf] at R
            rw [ifb_ge]
            exact R
          · rw [List.findIdx?_eq_none_iff.2 (by simp)]
      · rw [ifb_f (by simp [ieq, he])]
        exact R
    · have : (decide (c.2.2.1.length ≤ 9) && decide (c.2.2.2.1.length ≤ 9)) = false := by
        rw [Bool.eq_false_iff]
        intro h'
        simp only [Bool.and_eq_true, decide_eq_true_eq] at h'
        exact hbr h'
      rw [ifb_t (by rw [this]; rfl), bindF_some]
  · rw [ifb_t (by simp [hs]), bindF_some]
end Go.Proofs.ZzM
end
