/- lemmas: PlL0 PlK0 PlP6 PlP4 PlDay PlUsed PlWears PlShows PlR1 PlR2 PlR3 PlR4 PlR5 PlR6 PlR7 PlR8 PlR9 PlR10 PlRFits PlRWears PlSame0 PlSameI PlFitsL -/
import Derived.Test.YtfkfjebiaelniaaGreatPlB
import Derived.Test.YtfkfjebiaelniaaGreatMdT
import Derived.Test.YtfkfjebiaelniaaGreatPlA
set_option linter.all false
set_option linter.unusedSectionVars false
set_option linter.unusedVariables false
set_option linter.unusedSimpArgs false
noncomputable section
namespace Go.Proofs.ZzM
open Go Go.Am
def smallP (b : Book) : Bool :=
  !((b.2.2.2.2.1.take 60).any fun c => decide (9 < c.2.2.1.length) || decide (9 < c.2.2.2.1.length)) && (decide (b.2.1.length ≤ 14) && (decide (b.2.2.1.length ≤ 42) && (decide (b.2.2.2.1.length ≤ 14) && (decide (b.2.2.2.2.1.length ≤ 42) && decide (b.2.2.2.2.2.length ≤ 12)))))
theorem small_ok (b : Book) : f_w5_small b = some (smallP b) := by
  unfold f_w5_small m_w5_small
  have last : (ifb (ile (ilen b.2.1) (14 : Int)) (ifb (ile (ilen b.2.2.1) (42 : Int)) (ifb (ile (ilen b.2.2.2.1) (14 : Int)) (ifb (ile (ilen b.2.2.2.2.1) (42 : Int)) (some (ile (ilen b.2.2.2.2.2) (12 : Int))) (some false)) (some false)) (some false)) (some false)) =
      some (decide (b.2.1.length ≤ 14) && (decide (b.2.2.1.length ≤ 42) && (decide (b.2.2.2.1.length ≤ 14) && (decide (b.2.2.2.2.1.length ≤ 42) && decide (b.2.2.2.2.2.length ≤ 12))))) := by
    have e : ∀ (n m : Nat), ile (n : Int) (m : Int) = decide (n ≤ m) := fun n m => by simp [ile]
    rw [ilen_eq, ilen_eq, ilen_eq, ilen_eq, ilen_eq, show (14 : Int) = ((14 : Nat) : Int) from rfl, show (42 : Int) = ((42 : Nat) : Int) from rfl, show (12 : Int) = ((12 : Nat) : Int) from rfl, e, e, e, e, e]
    generalize decide (b.2.1.length ≤ 14) = x1
    generalize decide (b.2.2.1.length ≤ 42) = x2
    generalize decide (b.2.2.2.1.length ≤ 14) = x3
    generalize decide (b.2.2.2.2.1.length ≤ 42) = x4
    cases x1 <;> cases x2 <;> cases x3 <;> cases x4 <;> rfl
  refine Eq.trans (loop_any (b.2.2.2.2.1.take 60) (fun c => decide (9 < c.2.2.1.length) || decide (9 < c.2.2.2.1.length)) (fun _ => some false) (some false) (some (decide (b.2.1.length ≤ 14) && (decide (b.2.2.1.length ≤ 42) && (decide (b.2.2.2.1.length ≤ 14) && (decide (b.2.2.2.2.1.length ≤ 42) && decide (b.2.2.2.2.2.length ≤ 12)))))) (fun _ => rfl) (fun i c hi hc kn => ?_) (fun kn => ?_)) ?_
  · try dsimp only
    unfold m_w5_small_L0
    rw [List.length_take] at hi
    have hc' : b.2.2.2.2.1[i]? = some c := by rw [List.getElem?_take] at hc; split at hc <;> simp_all
    rw [ifb_lt' (show i < b.2.2.2.2.1.length by omega), ifb_t (by simp [ilt]; omega), iget_nat hc', iget_nat hc', ck_ok (by omega) (by omega), ifb_eq, ilen_eq, ilen_eq]
    by_cases h1 : 9 < c.2.2.1.length
    · rw [if_pos (by simp [igt]; omega), if_pos (by simp [h1])]
    · rw [if_neg (by simp [igt]; omega), ifb_eq]
      by_cases h2 : 9 < c.2.2.2.1.length
      · rw [if_pos (by simp [igt]; omega), if_pos (by simp [h2])]
      · rw [if_neg (by simp [igt]; omega), if_neg (by simp [h1, h2])]
  · try dsimp only
    unfold m_w5_small_L0
    rw [last, List.length_take, ifb_eq]
    split
    · rename_i h
      have h' : 60 < b.2.2.2.2.1.length := by rw [ilen_eq] at h; simp [ilt] at h; omega
      rw [ifb_f (by simp [ilt]; omega)]
    · rfl
  · unfold smallP
    cases List.any (List.take 60 b.2.2.2.2.1) (fun c => decide (9 < c.2.2.1.length) || decide (9 < c.2.2.2.1.length)) <;> rfl
theorem small_size {b : Book} (h : smallP b = true) : SizeOk b ∧ b.2.2.2.2.1.length ≤ 42 ∧ ∀ c ∈ b.2.2.2.2.1, c.2.2.1.length ≤ 9 ∧ c.2.2.2.1.length ≤ 9 := by
  simp only [smallP, Bool.and_eq_true, Bool.not_eq_true', decide_eq_true_eq] at h
  obtain ⟨h0, h1, h2, h3, h4, h5⟩ := h
  have hp : ∀ c ∈ b.2.2.2.2.1, c.2.2.1.length ≤ 9 ∧ c.2.2.2.1.length ≤ 9 := by
    intro c hc
    rw [List.take_of_length_le (by omega)] at h0
    have := List.any_eq_false.1 h0 c hc
    simp at this
    omega
  exact ⟨⟨by omega, by omega, by omega, by omega, by omega, fun c hc => by have := hp c hc; omega⟩, h4, hp⟩
theorem FitsP_iff {b : Book} {x : List Int} : FitsP b x = (true, 0) ↔ Good b ∧ lengthsP b x = true ∧ fitsP b x = true := by
  unfold FitsP
  constructor
  · intro h
    split at h
    · cases h
    · rename_i hc
      have hc0 : checkP b = 0 := by simpa using hc
      split at h
      · rename_i hl
        simp only [Prod.mk.injEq, and_true] at h
        exact ⟨(checkP_iff b).1 hc0, hl, h⟩
      · cases h
  · rintro ⟨h1, h2, h3⟩
    rw [if_neg (by simp [(checkP_iff b).2 h1]), if_pos h2, h3]
theorem lengthsP_iff {b : Book} {x : List Int} : lengthsP b x = true ↔ x.length = (nodesP b).length ∧ ∀ n ∈ x, -4503599627370496 ≤ n ∧ n ≤ 4503599627370496 := by
  simp [lengthsP, inP]
theorem fitsL_iff {L : List Lk} {x : List Int} : fitsL L x = true ↔ Pot L (gv x) := by
  simp only [fitsL, List.all_eq_true, decide_eq_true_eq, Pot]
  exact ⟨fun h u v m hl => h (u, v, m) hl, fun h l hl => h l.1 l.2.1 l.2.2 hl⟩
theorem gv_cons (a : Int) (x : List Int) {v : Int} (hv : 0 ≤ v) : gv (a :: x) v = if v = 0 then a else gv x (v - 1) := by
  unfold gv
  by_cases h : v = 0
  · subst h; rfl
  · obtain ⟨n, rfl⟩ := Int.eq_ofNat_of_zero_le hv
    cases n with
    | zero => simp at h
    | succ n =>
      have e : (((n + 1 : Nat) : Int) - 1).toNat = n := by omega
      rw [if_neg h, e]
      simp
theorem gv_zip {f : Int → Int → Int} {x y : List Int} (hl : x.length = y.length) {v : Int} (h0 : 0 ≤ v) (h1 : v < x.length) : gv (List.zipWith f x y) v = f (gv x v) (gv y v) := by
  obtain ⟨n, rfl⟩ := Int.eq_ofNat_of_zero_le h0
  have hx : n < x.length := by omega
  have hy : n < y.length := by omega
  unfold gv
  rw [Int.toNat_natCast, List.getElem?_eq_getElem (show n < (List.zipWith f x y).length by simp; omega), List.getElem?_eq_getElem hx, List.getElem?_eq_getElem hy, List.getElem_zipWith]
  rfl
theorem zip_fits {b : Book} (h : Good b) {f : Int → Int → Int} (hf0 : f 0 0 = 0) (hfb : ∀ a c, -4503599627370496 ≤ a ∧ a ≤ 4503599627370496 → -4503599627370496 ≤ c ∧ c ≤ 4503599627370496 → -4503599627370496 ≤ f a c ∧ f a c ≤ 4503599627370496) (hfp : ∀ a a' c c' m : Int, a' ≤ a + m → c' ≤ c + m → f a' c' ≤ f a c + m)
    {x y : List Int} (hx : lengthsP b x = true) (hy : lengthsP b y = true) (fx : fitsP b x = true) (fy : fitsP b y = true) : FitsP b (List.zipWith f x y) = (true, 0) := by
  rw [FitsP_iff]
  obtain ⟨lx, bx⟩ := lengthsP_iff.1 hx
  obtain ⟨ly, by'⟩ := lengthsP_iff.1 hy
  refine ⟨h, lengthsP_iff.2 ⟨by simp; omega, fun n hn => ?_⟩, ?_⟩
  · obtain ⟨i, hi, rfl⟩ := List.mem_iff_getElem.1 hn
    simp only [List.length_zipWith] at hi
    rw [List.getElem_zipWith]
    exact hfb _ _ (bx _ (List.getElem_mem _)) (by' _ (List.getElem_mem _))
  · have px := fitsL_iff.1 (show fitsL (linksP b) (0 :: x) = true from fx)
    have py := fitsL_iff.1 (show fitsL (linksP b) (0 :: y) = true from fy)
    refine fitsL_iff.2 fun u v m hl => ?_
    have hr := h.sys.inr _ hl
    have key : ∀ v : Int, 0 ≤ v → v < ((nodesP b).length + 1 : Nat) → gv (0 :: List.zipWith f x y) v = f (gv (0 :: x) v) (gv (0 :: y) v) := by
      intro v h0 h1
      rw [gv_cons _ _ h0, gv_cons _ _ h0, gv_cons _ _ h0]
      by_cases hv : v = 0
      · simp [hv, hf0]
      · simp only [hv, if_false]
        exact gv_zip (by omega) (by omega) (by omega)
    rw [key v hr.2.1 hr.2.2, key u hr.1.1 hr.1.2]
    exact hfp _ _ _ _ _ (px u v m hl) (py u v m hl)
def nearF (a c : Int) : Int := a + (if c < a then -1 else if a < c then 1 else 0)
theorem zip_take {f : Int → Int → Int} {x y : List Int} {i : Nat} {a c : Int} (ha : x[i]? = some a) (hc : y[i]? = some c) : List.zipWith f (x.take (i + 1)) (y.take (i + 1)) = List.zipWith f (x.take i) (y.take i) ++ [f a c] := by
  obtain ⟨h1, _⟩ := List.getElem?_eq_some_iff.1 ha
  obtain ⟨h2, _⟩ := List.getElem?_eq_some_iff.1 hc
  rw [take_succ ha, take_succ hc, List.zipWith_append (by rw [List.length_take, List.length_take]; omega)]
  rfl
end Go.Proofs.ZzM
end

noncomputable section
namespace Go.Proofs.ZzM
open Go Go.Am
section
variable {b : Book}
theorem off_all : off b b.2.1.length = (nodesP b).length := by unfold off nodesP; rw [List.take_length]
theorem off_find : ∀ n, n ≤ b.2.1.length → ∀ j, j < off b n → ∃ (i : Nat) (g : Gauge) (k : Nat), b.2.1[i]? = some g ∧ k < (daysP b g).length ∧ j = off b i + k := by
  intro n
  induction n with
  | zero => intro _ j hj; simp [off] at hj
  | succ n ih =>
    intro hn j hj
    have hg : b.2.1[n]? = some b.2.1[n] := List.getElem?_eq_getElem (by omega)
    rw [off_succ hg] at hj
    by_cases h : j < off b n
    · exact ih (by omega) j h
    · exact ⟨n, _, j - off b n, hg, by omega, by omega⟩
theorem node_split {v : Int} (h0 : 1 ≤ v) (h1 : v < ((nodesP b).length + 1 : Nat)) : ∃ (i : Nat) (g : Gauge) (k : Nat), b.2.1[i]? = some g ∧ k < (daysP b g).length ∧ v = (off b i : Int) + k + 1 := by
  obtain ⟨i, g, k, h2, h3, h4⟩ := off_find (b := b) b.2.1.length (Nat.le_refl _) (v - 1).toNat (by rw [off_all]; omega)
  exact ⟨i, g, k, h2, h3, by omega⟩
def GL (b : Book) (L : List Lk) : Prop := ∀ (i : Nat) (g : Gauge), b.2.1[i]? = some g → ∀ l ∈ gaugeLinks b g, l ∈ L
theorem gl_links : GL b (linksP b) := fun i g hg l hl => linksP_mem.2 (.inl ⟨i, g, hg, hl⟩)
theorem tied_to {L : List Lk} (h : Good b) (hL : GL b L) {v : Int} (h0 : 0 ≤ v) (h1 : v < ((nodesP b).length + 1 : Nat)) : ∃ vs d, Wl L (fun u => u = 0) vs v d ∧ d ≤ 4503599627370496 := by
  by_cases hv : v = 0
  · exact ⟨[], 0, .nil hv, by omega⟩
  obtain ⟨i, g, k, hg, hk, rfl⟩ := node_split (by omega) h1
  have hr := h.gaugeR (List.mem_of_getElem? hg)
  have r1 := hr.2.2.2.2.2.1
  have r2 := hr.2.2.2.2.2.2.1
  have key : ∀ k : Nat, k < (daysP b g).length → ∃ vs, Wl L (fun u => u = 0) vs ((off b i : Int) + k + 1) (g.2.2.1 + g.2.2.2.1.2) := by
    intro k
    induction k with
    | zero =>
      intro _
      have hw : Wl L (fun u => u = 0) [0] ((off b i : Int) + 1) (0 + (g.2.2.1 + g.2.2.2.1.2)) := Wl.step (.nil rfl) (hL i g hg _ ((gaugeLinks_mem h hg).2 (.inl rfl)))
      rw [Int.zero_add] at hw
      exact ⟨[0], by simpa using hw⟩
    | succ k ih =>
      intro hk
      obtain ⟨vs, hw⟩ := ih (by omega)
      have hw' := Wl.step hw (hL i g hg _ ((gaugeLinks_mem h hg).2 (.inr (.inr ⟨k, _, _, List.getElem?_eq_getElem (show k < _ by omega), List.getElem?_eq_getElem hk, .inl rfl⟩))))
      rw [Int.add_zero] at hw'
      have e : (off b i : Int) + ((k + 1 : Nat) : Int) + 1 = (off b i : Int) + k + 2 := by push_cast; omega
      exact ⟨_, by rw [e]; exact hw'⟩
  obtain ⟨vs, hw⟩ := key k hk
  exact ⟨vs, _, hw, by omega⟩
theorem tied_from {L : List Lk} (h : Good b) (hL : GL b L) {v : Int} (h0 : 0 ≤ v) (h1 : v < ((nodesP b).length + 1 : Nat)) : ∃ vs d, Wl L (fun u => u = v) vs 0 d ∧ d ≤ 4503599627370496 := by
  by_cases hv : v = 0
  · exact ⟨[], 0, .nil hv.symm, by omega⟩
  obtain ⟨i, g, k, hg, hk, rfl⟩ := node_split (by omega) h1
  have hgm := List.mem_of_getElem? hg
  have hr := h.gaugeR hgm
  have r1 := hr.2.2.2.2.2.1
  have r2 := hr.2.2.2.2.2.2.1
  have hd := days_len h hgm
  have key : ∀ m : Nat, m ≤ k → ∃ vs d, Wl L (fun u => u = (off b i : Int) + k + 1) vs ((off b i : Int) + (k - m : Nat) + 1) d ∧ d ≤ m * (12 * (20001 * 1048576) + 40 * 1048576) := by
    intro m
    induction m with
    | zero => intro _; exact ⟨[], 0, .nil (by simp), by simp⟩
    | succ m ih =>
      intro hm
      obtain ⟨vs, d, hw, hd⟩ := ih (by omega)
      have e1 : ((k - m : Nat) : Int) = ((k - (m + 1) : Nat) : Int) + 1 := by omega
      have hl : (((off b i : Int) + (k - (m + 1) : Nat) + 2, (off b i : Int) + (k - (m + 1) : Nat) + 1, lossP b g ((daysP b g)[k - (m + 1)]'(by omega)) ((daysP b g)[k - (m + 1) + 1]'(by omega))) : Lk) ∈ L :=
        hL i g hg _ ((gaugeLinks_mem h hg).2 (.inr (.inr ⟨k - (m + 1), _, _, List.getElem?_eq_getElem (by omega), List.getElem?_eq_getElem (by omega), .inr rfl⟩)))
      have hb := lossP_bound h hgm (f := (daysP b g)[k - (m + 1)]'(by omega)) (t := (daysP b g)[k - (m + 1) + 1]'(by omega)) (h.day hgm (List.getElem_mem _)).2.1
      have e2 : (off b i : Int) + (k - m : Nat) + 1 = (off b i : Int) + (k - (m + 1) : Nat) + 2 := by omega
      rw [e2] at hw
      exact ⟨_, _, .step hw hl, by push_cast; omega⟩
  obtain ⟨vs, d, hw, hdb⟩ := key k (Nat.le_refl _)
  have e : (off b i : Int) + (k - k : Nat) + 1 = (off b i : Int) + 1 := by omega
  rw [e] at hw
  have hw' := Wl.step hw (hL i g hg _ ((gaugeLinks_mem h hg).2 (.inr (.inl rfl))))
  exact ⟨_, _, hw', by omega⟩
theorem pot_near (h : Good b) {p : Int → Int} (hp : Pot (linksP b) p) {v : Int} (h0 : 0 ≤ v) (h1 : v < ((nodesP b).length + 1 : Nat)) : -4503599627370496 ≤ p v - p 0 ∧ p v - p 0 ≤ 4503599627370496 := by
  obtain ⟨vs, d, hw, hd⟩ := tied_to h gl_links h0 h1
  obtain ⟨ws, e, hx, he⟩ := tied_from h gl_links h0 h1
  obtain ⟨s, rfl, hs⟩ := hw.pot hp
  obtain ⟨t, rfl, ht⟩ := hx.pot hp
  omega
end
structure TiedL (L : List Lk) (N : Nat) : Prop where
  to : ∀ v : Int, 0 ≤ v → v < N → ∃ vs d, Wl L (fun u => u = 0) vs v d ∧ d ≤ 4503599627370496
  from' : ∀ v : Int, 0 ≤ v → v < N → ∃ vs d, Wl L (fun u => u = v) vs 0 d ∧ d ≤ 4503599627370496
theorem Good.tied {b : Book} (h : Good b) : TiedL (linksP b) ((nodesP b).length + 1) := ⟨fun v h0 h1 => tied_to h gl_links h0 h1, fun v h0 h1 => tied_from h gl_links h0 h1⟩
theorem Good.tiedL {b : Book} {L : List Lk} (h : Good b) (hL : GL b L) : TiedL L ((nodesP b).length + 1) := ⟨fun v h0 h1 => tied_to h hL h0 h1, fun v h0 h1 => tied_from h hL h0 h1⟩
section
variable {L : List Lk} {N : Nat}
theorem one_wl {L : List Lk} {s : Int} {vs : List Int} {v d : Int} : Wl L (fun v => oneS s v = true) vs v d ↔ Wl L (fun u => u = s) vs v d :=
  ⟨fun h => h.mono fun u hu => by simpa [oneS] using hu, fun h => h.mono fun u hu => by simpa [oneS] using hu⟩
def leastP (L : List Lk) (N : Nat) : List Int := (List.range N).map fun (n : Nat) => -(gv (boundsP L N n) 0)
theorem boundsP_len (s : Int) : (boundsP L N s).length = N := by unfold boundsP; rw [passes_length, start_length]
theorem leastP_len : (leastP L N).length = N := by simp [leastP]
theorem leastP_gv {v : Int} (h0 : 0 ≤ v) (h1 : v < N) : gv (leastP L N) v = -(gv (boundsP L N v) 0) := by
  unfold gv leastP
  rw [List.getElem?_map, List.getElem?_range (by omega)]
  simp only [Option.map_some, Option.getD_some, Int.toNat_of_nonneg h0]
  rfl
theorem bounds0_ne (h : SysOk L N) (ht : TiedL L N) (ho : openP L N = true) {v : Int} (h0 : 0 ≤ v) (h1 : v < N) : gv (boundsP L N 0) v ≤ 4503599627370496 := by
  have h2 := h.n60
  have h3 := h.n1
  obtain ⟨p, hp⟩ := (openP_iff h.links (by omega)).1 ho
  obtain ⟨vs, d, hw, hd⟩ := ht.to v h0 h1
  have := (bounds_dist h.links (by omega) hp (s := 0) ⟨by omega, by omega⟩).low v vs d (one_wl.2 hw)
  omega
theorem boundsV_ne (h : SysOk L N) (ht : TiedL L N) (ho : openP L N = true) {v : Int} (h0 : 0 ≤ v) (h1 : v < N) : gv (boundsP L N v) 0 ≤ 4503599627370496 := by
  have h2 := h.n60
  have h3 := h.n1
  obtain ⟨p, hp⟩ := (openP_iff h.links (by omega)).1 ho
  obtain ⟨vs, d, hw, hd⟩ := ht.from' v h0 h1
  have := (bounds_dist h.links (by omega) hp (s := v) ⟨h0, h1⟩).low 0 vs d (one_wl.2 hw)
  omega
theorem bounds_self (h : SysOk L N) (ho : openP L N = true) {v : Int} (h0 : 0 ≤ v) (h1 : v < N) : gv (boundsP L N v) v = 0 := by
  have h2 := h.n60
  obtain ⟨p, hp⟩ := (openP_iff h.links (by omega)).1 ho
  have hd := bounds_dist h.links (by omega) hp (s := v) ⟨h0, h1⟩
  have h3 := hd.low v [] 0 (.nil (by simp [oneS]))
  obtain ⟨vs, hw⟩ := hd.att v h0 h1 (by unfold Free; omega)
  obtain ⟨s, hs, hx⟩ := (one_wl.1 hw).pot hp
  subst hs
  omega
theorem bounds0_pot (h : SysOk L N) (ht : TiedL L N) (ho : openP L N = true) : Pot L (gv (boundsP L N 0)) := by
  have h2 := h.n60
  have h3 := h.n1
  obtain ⟨p, hp⟩ := (openP_iff h.links (by omega)).1 ho
  intro u v m hl
  have hr := h.inr _ hl
  have := bounds0_ne h ht ho hr.1.1 hr.1.2
  exact (bounds_dist h.links (by omega) hp (s := 0) ⟨by omega, by omega⟩).pot h.inr hl (by simp only at this; unfold Free; omega)
theorem Wl.cons {u v m : Int} (hl : (u, v, m) ∈ L) {vs : List Int} {w d : Int} (hw : Wl L (fun x => x = v) vs w d) : ∃ vs', Wl L (fun x => x = u) vs' w (m + d) := by
  induction hw with
  | nil h =>
    subst h
    have := Wl.step (S := fun x => x = u) (.nil rfl) hl
    rw [Int.zero_add] at this
    exact ⟨_, by rw [Int.add_zero]; exact this⟩
  | @step vs x y n d hw hx ih =>
    obtain ⟨vs', h'⟩ := ih
    have := Wl.step h' hx
    rw [Int.add_assoc] at this
    exact ⟨_, this⟩
theorem least_pot (h : SysOk L N) (ht : TiedL L N) (ho : openP L N = true) : Pot L (gv (leastP L N)) := by
  have h2 := h.n60
  obtain ⟨p, hp⟩ := (openP_iff h.links (by omega)).1 ho
  intro u v m hl
  have hr := h.inr _ hl
  rw [leastP_gv hr.2.1 hr.2.2, leastP_gv hr.1.1 hr.1.2]
  have hf := boundsV_ne h ht ho hr.2.1 hr.2.2
  have h3 := h.n1
  obtain ⟨vs, hw⟩ := (bounds_dist h.links (by omega) hp (s := v) ⟨hr.2.1, hr.2.2⟩).att 0 (by omega) (by omega) (by simp only at hf; unfold Free; omega)
  obtain ⟨vs', hw'⟩ := Wl.cons hl (one_wl.1 hw)
  have := (bounds_dist h.links (by omega) hp (s := u) ⟨hr.1.1, hr.1.2⟩).low 0 vs' _ (one_wl.2 hw')
  simp only
  omega
theorem least_zero (h : SysOk L N) (ho : openP L N = true) : gv (leastP L N) 0 = 0 := by
  have h3 := h.n1
  rw [leastP_gv (by omega) (by omega), bounds_self h ho (by omega) (by omega)]
  rfl
end
end Go.Proofs.ZzM
end

noncomputable section
namespace Go.Proofs.ZzM
open Go Go.Am
def usedP (b : Book) (id day : Int) : Bool := b.2.2.1.any fun u => u.1 == id && u.2 == day
def dayLoss (b : Book) (g : Gauge) (d : Int) : Int := match awayP b g.1 d with | some l => l.2.2 | none => if usedP b g.1 d then g.2.2.2.2.2 else 0
theorem loan_term (l : Loan) (id : Int) {f t : Int} (hft : f ≤ t) : (if l.1 = id ∧ 0 < loanDays l f (t + 1) then loanDays l f (t + 1) * l.2.2 else 0) = (if l.1 = id ∧ 0 < loanDays l f t then loanDays l f t * l.2.2 else 0) + (if l.1 = id ∧ l.2.1.1 ≤ t ∧ t ≤ l.2.1.2 then l.2.2 else 0) := by
  by_cases hid : l.1 = id
  · by_cases h1 : l.2.1.1 ≤ t ∧ t ≤ l.2.1.2
    · have e : loanDays l f (t + 1) = loanDays l f t + 1 := by unfold loanDays; omega
      have p : 0 ≤ loanDays l f t := by unfold loanDays; omega
      rw [e, if_pos ⟨hid, by omega⟩, if_pos (show l.1 = id ∧ l.2.1.1 ≤ t ∧ t ≤ l.2.1.2 from ⟨hid, h1⟩), Int.add_mul, Int.one_mul]
      by_cases hp : 0 < loanDays l f t
      · rw [if_pos ⟨hid, hp⟩]
      · rw [if_neg (fun h => hp h.2)]
        have : loanDays l f t = 0 := by omega
        rw [this]
        omega
    · rw [if_neg (show ¬ (l.1 = id ∧ l.2.1.1 ≤ t ∧ t ≤ l.2.1.2) from fun h => h1 h.2), Int.add_zero]
      by_cases hlo : l.2.1.1 ≤ t
      · have e : loanDays l f (t + 1) = loanDays l f t := by unfold loanDays; omega
        rw [e]
      · have p1 : ¬ 0 < loanDays l f (t + 1) := by unfold loanDays; omega
        have p2 : ¬ 0 < loanDays l f t := by unfold loanDays; omega
        rw [if_neg (fun h => p1 h.2), if_neg (fun h => p2 h.2)]
  · rw [if_neg (fun h => hid h.1), if_neg (fun h => hid h.1), if_neg (fun h => hid h.1)]
    rfl
theorem loans_step (id : Int) {f t : Int} (hft : f ≤ t) : ∀ {x : List Loan}, x.Pairwise (fun a c => ¬ (a.1 = c.1 ∧ a.2.1.1 ≤ c.2.1.2 ∧ c.2.1.1 ≤ a.2.1.2)) →
    loanLoss id f (t + 1) x = loanLoss id f t x + (match x.find? (fun l => l.1 == id && inP t l.2.1.1 l.2.1.2) with | some l => l.2.2 | none => 0)
  | [], _ => rfl
  | l :: r, hp => by
    rw [List.pairwise_cons] at hp
    have ih := loans_step id hft hp.2
    simp only [loanLoss]
    rw [ih, loan_term l id hft, List.find?_cons]
    by_cases hm : l.1 = id ∧ l.2.1.1 ≤ t ∧ t ≤ l.2.1.2
    · have e : (l.1 == id && inP t l.2.1.1 l.2.1.2) = true := by simp [inP, hm.1, hm.2.1, hm.2.2]
      have hn : r.find? (fun l => l.1 == id && inP t l.2.1.1 l.2.1.2) = none := by
        rw [List.find?_eq_none]
        intro c hc hcm
        simp only [inP, Bool.and_eq_true, beq_iff_eq, decide_eq_true_eq] at hcm
        exact hp.1 c hc ⟨by rw [hm.1, hcm.1], by omega, by omega⟩
      rw [if_pos hm, e, hn]
      simp only
      omega
    · have e : (l.1 == id && inP t l.2.1.1 l.2.1.2) = false := by
        rw [Bool.eq_false_iff]
        intro h
        simp only [inP, Bool.and_eq_true, beq_iff_eq, decide_eq_true_eq] at h
        exact hm h
      rw [if_neg hm, e]
      simp only
      omega
section
variable {b : Book}
theorem Good.apart (h : Good b) : b.2.2.2.1.Pairwise (fun a c => ¬ (a.1 = c.1 ∧ a.2.1.1 ≤ c.2.1.2 ∧ c.2.1.1 ≤ a.2.1.2)) := by
  rw [List.pairwise_iff_getElem]
  intro i j hi hj hij ⟨h1, h2, h3⟩
  have hz := h.loans j _ (List.getElem?_eq_getElem hj)
  unfold loanE at hz
  have hany : (b.2.2.2.1.take j).any (fun x => x.1 == b.2.2.2.1[j].1 && (decide (x.2.1.1 ≤ b.2.2.2.1[j].2.1.2) && decide (b.2.2.2.1[j].2.1.1 ≤ x.2.1.2))) = true := by
    rw [List.any_eq_true]
    exact ⟨b.2.2.2.1[i], List.mem_iff_getElem.2 ⟨i, by rw [List.length_take]; omega, by rw [List.getElem_take]⟩, by simp [h1, h2, h3]⟩
  rw [hany] at hz
  (repeat' split at hz) <;> first | omega | simp_all
theorem Good.notUsed (h : Good b) {id d : Int} {l : Loan} (hl : awayP b id d = some l) : usedP b id d = false := by
  have hm := List.mem_of_find?_eq_some hl
  have hp := List.find?_some hl
  simp only [inP, Bool.and_eq_true, beq_iff_eq, decide_eq_true_eq] at hp
  obtain ⟨j, hj, rfl⟩ := List.mem_iff_getElem.1 hm
  have hz := h.loans j _ (List.getElem?_eq_getElem hj)
  rw [Bool.eq_false_iff]
  intro hu
  obtain ⟨u, hu, hue⟩ := List.any_eq_true.1 hu
  simp only [Bool.and_eq_true, beq_iff_eq] at hue
  have hany : b.2.2.1.any (fun u => u.1 == b.2.2.2.1[j].1 && inP u.2 b.2.2.2.1[j].2.1.1 b.2.2.2.1[j].2.1.2) = true := by
    rw [List.any_eq_true]
    exact ⟨u, hu, by simp only [inP, Bool.and_eq_true, beq_iff_eq, decide_eq_true_eq]; exact ⟨by rw [hue.1, hp.1], by omega, by omega⟩⟩
  unfold loanE at hz
  rw [hany] at hz
  (repeat' split at hz) <;> first | omega | simp_all
theorem useDays_step {id f t : Int} (hft : f ≤ t) : setI (useDays b id f (t + 1)) = setI (useDays b id f t) ++ if usedP b id t then [t] else [] := by
  have hm : ∀ t x, x ∈ useDays b id f t ↔ usedP b id x = true ∧ f ≤ x ∧ x < t := by
    intro t x
    unfold useDays usedP
    simp only [List.mem_map, List.mem_filter, List.any_eq_true, inP, Bool.and_eq_true, beq_iff_eq, decide_eq_true_eq]
    constructor
    · rintro ⟨u, ⟨h1, h2, h3, h4⟩, rfl⟩
      exact ⟨⟨u, h1, h2, rfl⟩, h3, by omega⟩
    · rintro ⟨⟨u, h1, h2, rfl⟩, h3, h4⟩
      exact ⟨u, ⟨h1, h2, h3, by omega⟩, rfl⟩
  refine asc_ext (setI_lt _) ?_ fun x => ?_
  · rw [List.pairwise_append]
    refine ⟨setI_lt _, by split <;> simp, fun a ha c hc => ?_⟩
    rw [setI_mem, hm] at ha
    split at hc
    · rw [List.mem_singleton] at hc; omega
    · cases hc
  · rw [setI_mem, hm, List.mem_append, setI_mem, hm]
    by_cases hu : usedP b id t = true
    · rw [if_pos hu, List.mem_singleton]
      constructor
      · rintro ⟨h1, h2, h3⟩
        by_cases he : x = t
        · exact .inr he
        · exact .inl ⟨h1, h2, by omega⟩
      · rintro (⟨h1, h2, h3⟩ | rfl)
        · exact ⟨h1, h2, by omega⟩
        · exact ⟨hu, hft, by omega⟩
    · rw [if_neg hu]
      constructor
      · rintro ⟨h1, h2, h3⟩
        refine .inl ⟨h1, h2, ?_⟩
        by_cases he : x = t
        · rw [he] at h1; exact absurd h1 hu
        · omega
      · rintro (⟨h1, h2, h3⟩ | h)
        · exact ⟨h1, h2, by omega⟩
        · cases h
theorem loss_step (h : Good b) (g : Gauge) {f t : Int} (hft : f ≤ t) : lossP b g f (t + 1) = lossP b g f t + dayLoss b g t := by
  unfold lossP dayLoss
  rw [loans_step g.1 hft h.apart, useDays_step hft]
  show loanLoss g.1 f t b.2.2.2.1 + (match awayP b g.1 t with | some l => l.2.2 | none => 0) + _ = _
  cases ha : awayP b g.1 t with
  | some l =>
    rw [h.notUsed ha]
    simp only [Bool.false_eq_true, if_false, List.append_nil]
    omega
  | none =>
    simp only
    cases usedP b g.1 t with
    | true => simp only [if_true, List.length_append, List.length_singleton, Int.natCast_add, Int.add_mul]; omega
    | false => simp only [Bool.false_eq_true, if_false, List.append_nil]; omega
theorem loss_none (g : Gauge) {f t : Int} (hft : t ≤ f) : lossP b g f t = 0 := by
  unfold lossP
  have h1 : ∀ x : List Loan, loanLoss g.1 f t x = 0 := by
    intro x
    induction x with
    | nil => rfl
    | cons l r ih =>
      simp only [loanLoss]
      rw [ih, if_neg (by unfold loanDays; omega)]
      rfl
  have h2 : useDays b g.1 f t = [] := by
    unfold useDays
    rw [List.filter_eq_nil_iff.2 fun u hu hc => by
      simp only [inP, Bool.and_eq_true, beq_iff_eq, decide_eq_true_eq] at hc
      omega]
    rfl
  rw [h1, h2]
  have h3 : setI ([] : List Int) = [] := rfl
  rw [h3]
  simp
theorem dayLoss_bound (h : Good b) {g : Gauge} (hg : g ∈ b.2.1) (d : Int) : 0 ≤ dayLoss b g d ∧ dayLoss b g d ≤ 1048576 := by
  have hr := (h.gaugeR hg).2.2.2.2.2.2.2
  unfold dayLoss
  cases ha : awayP b g.1 d with
  | some l => exact (loanE_zero h (List.mem_of_find?_eq_some ha)).2
  | none => simp only; split <;> omega
end
end Go.Proofs.ZzM
end

noncomputable section
namespace Go.Proofs.ZzM
open Go Go.Am
theorem cmp_mul {k : Int × Int} (hk : 0 < k.2) (m n : Int) : 0 < cmpP (mulP k m) (mulP k n) ↔ k.1 * n < k.1 * m := by
  obtain ⟨g, g0, _, g1, g2⟩ := red_spec (n := k.1 * m) hk
  obtain ⟨h, h0, _, h1, h2⟩ := red_spec (n := k.1 * n) hk
  have key : (mulP k n).1 * (mulP k m).2 < (mulP k m).1 * (mulP k n).2 ↔ k.1 * n < k.1 * m := by
    have e1 : (mulP k n).1 * (mulP k m).2 * ((g : Int) * h) = k.1 * n * k.2 := by
      show (redP (k.1 * n) k.2).1 * (redP (k.1 * m) k.2).2 * ((g : Int) * h) = k.1 * n * k.2
      calc _ = ((redP (k.1 * n) k.2).1 * h) * ((redP (k.1 * m) k.2).2 * g) := by ac_rfl
        _ = _ := by rw [← h1, ← g2]
    have e2 : (mulP k m).1 * (mulP k n).2 * ((g : Int) * h) = k.1 * m * k.2 := by
      show (redP (k.1 * m) k.2).1 * (redP (k.1 * n) k.2).2 * ((g : Int) * h) = k.1 * m * k.2
      calc _ = ((redP (k.1 * m) k.2).1 * g) * ((redP (k.1 * n) k.2).2 * h) := by ac_rfl
        _ = _ := by rw [← g1, ← h2]
    have pg : 0 < (g : Int) * h := Int.mul_pos (by omega) (by omega)
    constructor
    · intro hl
      have := Int.mul_lt_mul_of_pos_right hl pg
      rw [e1, e2] at this
      exact Int.lt_of_mul_lt_mul_right this (by omega)
    · intro hl
      have := Int.mul_lt_mul_of_pos_right hl hk
      rw [← e1, ← e2] at this
      exact Int.lt_of_mul_lt_mul_right this (by omega)
  rw [← key]
  unfold cmpP
  by_cases he : mulP k m = mulP k n
  · rw [if_pos he, he]
    omega
  · rw [if_neg he]
    split
    · omega
    · split <;> omega
theorem over_scale {k : Int × Int} (hk : 0 < k.2) {heat : Int × Int} (hh : heat.1 ≤ heat.2) : overP k heat = if k.1 < 0 then (mulP k heat.2, mulP k heat.1) else (mulP k heat.1, mulP k heat.2) := by
  unfold overP
  by_cases hn : k.1 < 0
  · rw [if_pos hn]
    by_cases he : heat.1 = heat.2
    · rw [he]
      split <;> rfl
    · rw [if_pos ((cmp_mul hk _ _).2 (Int.mul_lt_mul_of_neg_left (by omega) hn))]
  · rw [if_neg hn, if_neg (fun h => by
      have h1 := (cmp_mul hk _ _).1 h
      have h2 := Int.mul_le_mul_of_nonneg_left hh (show 0 ≤ k.1 by omega)
      omega)]
end Go.Proofs.ZzM
end

noncomputable section
namespace Go.Proofs.ZzM
open Go Go.Am
section
variable {b : Book}
theorem loss_add (h : Good b) (g : Gauge) {f t u : Int} (h1 : f ≤ t) (h2 : t ≤ u) : lossP b g f u = lossP b g f t + lossP b g t u := by
  obtain ⟨n, rfl⟩ : ∃ n : Nat, u = t + n := ⟨(u - t).toNat, by omega⟩
  clear h2
  induction n with
  | zero => simp [loss_none]
  | succ n ih =>
    have e : t + ((n + 1 : Nat) : Int) = (t + n) + 1 := by omega
    rw [e, loss_step h g (show f ≤ t + (n : Int) by omega), loss_step h g (show t ≤ t + (n : Int) by omega), ih]
    omega
theorem loss_nonneg (h : Good b) {g : Gauge} (hg : g ∈ b.2.1) {f t : Int} (hf : 0 ≤ f) : 0 ≤ lossP b g f t := (lossP_bound h hg hf).1
def nodeP (b : Book) (id d : Int) : Int := match nodeIdx (nodesP b) id d with | some j => (j : Int) + 1 | none => 0
theorem nodeP_at (h : Good b) {i : Nat} {g : Gauge} (hg : b.2.1[i]? = some g) {k : Nat} {d : Int} (hk : (daysP b g)[k]? = some d) : nodeP b g.1 d = (off b i : Int) + k + 1 := by
  unfold nodeP
  rw [node_at h hg hk]
  simp only
  omega
structure GaugeFits (b : Book) (p : Int → Int) (g : Gauge) : Prop where
  hi : p (nodeP b g.1 g.2.1) ≤ p 0 + (g.2.2.1 + g.2.2.2.1.2)
  lo : p 0 + (g.2.2.1 + g.2.2.2.1.1) ≤ p (nodeP b g.1 g.2.1)
  down : ∀ d e, d ∈ daysP b g → e ∈ daysP b g → d ≤ e → p (nodeP b g.1 e) ≤ p (nodeP b g.1 d)
  loss : ∀ d e, d ∈ daysP b g → e ∈ daysP b g → d ≤ e → p (nodeP b g.1 d) ≤ p (nodeP b g.1 e) + lossP b g d e
theorem gaugeFits_iff (h : Good b) {i : Nat} {g : Gauge} (hg : b.2.1[i]? = some g) {p : Int → Int} : (∀ l ∈ gaugeLinks b g, p l.2.1 ≤ p l.1 + l.2.2) ↔ GaugeFits b p g := by
  have hgm := List.mem_of_getElem? hg
  obtain ⟨tl, htl⟩ := days_head h hgm
  have h0 : nodeP b g.1 g.2.1 = (off b i : Int) + 1 := by
    have := nodeP_at h hg (k := 0) (d := g.2.1) (by rw [htl]; rfl)
    rw [this]
    omega
  constructor
  · intro hl
    have e1 := hl _ ((gaugeLinks_mem h hg).2 (.inl rfl))
    have e2 := hl _ ((gaugeLinks_mem h hg).2 (.inr (.inl rfl)))
    simp only at e1 e2
    have step : ∀ (k : Nat) (d e : Int), (daysP b g)[k]? = some d → (daysP b g)[k + 1]? = some e → p (nodeP b g.1 e) ≤ p (nodeP b g.1 d) ∧ p (nodeP b g.1 d) ≤ p (nodeP b g.1 e) + lossP b g d e := by
      intro k d e hd he
      have a1 := hl _ ((gaugeLinks_mem h hg).2 (.inr (.inr ⟨k, d, e, hd, he, .inl rfl⟩)))
      have a2 := hl _ ((gaugeLinks_mem h hg).2 (.inr (.inr ⟨k, d, e, hd, he, .inr rfl⟩)))
      simp only at a1 a2
      rw [nodeP_at h hg hd, nodeP_at h hg he]
      have e3 : (off b i : Int) + ((k + 1 : Nat) : Int) + 1 = (off b i : Int) + k + 2 := by omega
      rw [e3]
      exact ⟨by omega, a2⟩
    have pair : ∀ (n k : Nat) (d e : Int), (daysP b g)[k]? = some d → (daysP b g)[k + n]? = some e → p (nodeP b g.1 e) ≤ p (nodeP b g.1 d) ∧ p (nodeP b g.1 d) ≤ p (nodeP b g.1 e) + lossP b g d e := by
      intro n
      induction n with
      | zero =>
        intro k d e hd he
        rw [Nat.add_zero, hd] at he
        cases he
        rw [loss_none g (Int.le_refl _)]
        omega
      | succ n ih =>
        intro k d e hd he
        have hlt := (List.getElem?_eq_some_iff.1 he).1
        have hm : (daysP b g)[k + n]? = some ((daysP b g)[k + n]'(by omega)) := List.getElem?_eq_getElem (by omega)
        obtain ⟨a1, a2⟩ := ih k d _ hd hm
        obtain ⟨a3, a4⟩ := step (k + n) _ e hm he
        have o1 : d ≤ (daysP b g)[k + n]'(by omega) := by
          obtain ⟨hkl, hkd⟩ := List.getElem?_eq_some_iff.1 hd
          rcases Nat.eq_zero_or_pos n with rfl | hn
          · rw [← hkd]; exact Int.le_of_eq (by congr 1)
          · have := (List.pairwise_iff_getElem.1 (days_lt b g)) k (k + n) hkl (by omega) (by omega)
            rw [hkd] at this; omega
        have o2 : (daysP b g)[k + n]'(by omega) ≤ e := by
          obtain ⟨hel, hee⟩ := List.getElem?_eq_some_iff.1 he
          have := (List.pairwise_iff_getElem.1 (days_lt b g)) (k + n) (k + (n + 1)) (by omega) hel (by omega)
          rw [hee] at this; omega
        have := loss_add h g o1 o2
        omega
    have any : ∀ d e, d ∈ daysP b g → e ∈ daysP b g → d ≤ e → p (nodeP b g.1 e) ≤ p (nodeP b g.1 d) ∧ p (nodeP b g.1 d) ≤ p (nodeP b g.1 e) + lossP b g d e := by
      intro d e hd he hde
      obtain ⟨k, hk, rfl⟩ := List.mem_iff_getElem.1 hd
      obtain ⟨m, hm, rfl⟩ := List.mem_iff_getElem.1 he
      have hkm : k ≤ m := by
        rcases Nat.lt_or_ge m k with hlt | hge
        · have := (List.pairwise_iff_getElem.1 (days_lt b g)) m k hm hk hlt; omega
        · exact hge
      exact pair (m - k) k _ _ (List.getElem?_eq_getElem hk) (by rw [show k + (m - k) = m by omega]; exact List.getElem?_eq_getElem hm)
    exact ⟨by rw [h0]; omega, by rw [h0]; omega, fun d e hd he hde => (any d e hd he hde).1, fun d e hd he hde => (any d e hd he hde).2⟩
  · intro hf l hl
    rcases (gaugeLinks_mem h hg).1 hl with rfl | rfl | ⟨k, d, e, hd, he, rfl | rfl⟩
    · have := hf.hi; rw [h0] at this; simp only; omega
    · have := hf.lo; rw [h0] at this; simp only; omega
    · have hde : d ≤ e := by
        obtain ⟨a1, a2⟩ := List.getElem?_eq_some_iff.1 hd
        obtain ⟨a3, a4⟩ := List.getElem?_eq_some_iff.1 he
        have := (List.pairwise_iff_getElem.1 (days_lt b g)) k (k + 1) a1 a3 (by omega)
        rw [a2, a4] at this; omega
      have := hf.down d e (List.mem_of_getElem? hd) (List.mem_of_getElem? he) hde
      rw [nodeP_at h hg hd, nodeP_at h hg he] at this
      have e3 : (off b i : Int) + ((k + 1 : Nat) : Int) + 1 = (off b i : Int) + k + 2 := by omega
      rw [e3] at this
      simp only
      omega
    · have hde : d ≤ e := by
        obtain ⟨a1, a2⟩ := List.getElem?_eq_some_iff.1 hd
        obtain ⟨a3, a4⟩ := List.getElem?_eq_some_iff.1 he
        have := (List.pairwise_iff_getElem.1 (days_lt b g)) k (k + 1) a1 a3 (by omega)
        rw [a2, a4] at this; omega
      have := hf.loss d e (List.mem_of_getElem? hd) (List.mem_of_getElem? he) hde
      rw [nodeP_at h hg hd, nodeP_at h hg he] at this
      have e3 : (off b i : Int) + ((k + 1 : Nat) : Int) + 1 = (off b i : Int) + k + 2 := by omega
      rw [e3] at this
      simp only
      exact this
theorem pot_iff (h : Good b) {p : Int → Int} : Pot (linksP b) p ↔ (∀ g ∈ b.2.1, GaugeFits b p g) ∧ ∀ c ∈ b.2.2.2.2.1, p (cx b c) ≤ p (cy b c) + (saysP b c).2 ∧ p (cy b c) + (saysP b c).1 ≤ p (cx b c) := by
  constructor
  · intro hp
    refine ⟨fun g hg => ?_, fun c hc => ?_⟩
    · obtain ⟨i, hi, rfl⟩ := List.mem_iff_getElem.1 hg
      exact (gaugeFits_iff h (List.getElem?_eq_getElem hi)).1 fun l hl => hp l.1 l.2.1 l.2.2 (linksP_mem.2 (.inl ⟨i, _, List.getElem?_eq_getElem hi, hl⟩))
    · have a1 := hp _ _ _ (linksP_mem.2 (.inr ⟨c, hc, .inl rfl⟩))
      have a2 := hp _ _ _ (linksP_mem.2 (.inr ⟨c, hc, .inr rfl⟩))
      omega
  · rintro ⟨hg, hc⟩ u v m hl
    rcases linksP_mem.1 hl with ⟨i, g, hig, hl⟩ | ⟨c, hcm, hl⟩
    · exact (gaugeFits_iff h hig).2 (hg g (List.mem_of_getElem? hig)) (u, v, m) hl
    · obtain ⟨a1, a2⟩ := hc c hcm
      rcases hl with hl | hl
      · obtain ⟨rfl, rfl, rfl⟩ : u = cy b c ∧ v = cx b c ∧ m = (saysP b c).2 := by simpa using hl
        exact a1
      · obtain ⟨rfl, rfl, rfl⟩ : u = cx b c ∧ v = cy b c ∧ m = -(saysP b c).1 := by simpa using hl
        omega
end
end Go.Proofs.ZzM
end

noncomputable section
namespace Go.Proofs.ZzM
open Go Go.Am
theorem used_ok {b : Book} (hn : b.2.2.1.length ≤ 1000000) (id day : Int) : f_c_used b id day = some (usedP b id day) := by
  unfold f_c_used m_c_used f_s_Contains_api_Use_api_Use m_s_Contains_api_Use_api_Use f_s_Index_api_Use_api_Use m_s_Index_api_Use_api_Use
  have e : loopT (fun (v5 : Int) kk7 => m_s_Index_api_Use_api_Use_L0 b.2.2.1 (ilen b.2.2.1) id day v5 (fun u6 => kk7 u6) (fun z3 => some z3) (fun _ => some (-1 : Int))) (0 : Int) = match b.2.2.1.findIdx? (fun u => u.1 == id && u.2 == day) with | some j => some (j : Int) | none => some (-1) := by
    refine loop_find b.2.2.1 (fun u => u.1 == id && u.2 == day) (fun z => some z) (some (-1)) (fun i a hi ha kn => ?_) (fun kn => ?_)
    · try dsimp only
      unfold m_s_Index_api_Use_api_Use_L0
      rw [ifb_lt' hi, iget_nat ha, ck_succ hi (by omega), ifb_eq, Bool.and_true]
      have e : (dieq id a.1 && dieq day a.2) = (a.1 == id && a.2 == day) := by
        rw [Bool.eq_iff_iff]
        simp only [dieq, Bool.and_eq_true, decide_eq_true_eq, beq_iff_eq]
        exact and_congr eq_comm eq_comm
      rw [e]
    · try dsimp only
      unfold m_s_Index_api_Use_api_Use_L0
      rw [ifb_ge]
  rw [e]
  unfold usedP
  cases h : b.2.2.1.findIdx? (fun u => u.1 == id && u.2 == day) with
  | none =>
    have : b.2.2.1.any (fun u => u.1 == id && u.2 == day) = false := by
      rw [List.any_eq_false]
      intro x hx
      have := List.findIdx?_eq_none_iff.1 h x hx
      simp [this]
    rw [this]
    rfl
  | some j =>
    obtain ⟨hj, hp, _⟩ := List.findIdx?_eq_some_iff_getElem.1 h
    have : b.2.2.1.any (fun u => u.1 == id && u.2 == day) = true := List.any_eq_true.2 ⟨_, List.getElem_mem hj, hp⟩
    rw [this]
    simp [ige]
end Go.Proofs.ZzM
end

noncomputable section
namespace Go.Proofs.ZzM
open Go Go.Am
section
variable {b : Book}
theorem lossOf_ok (hs : SizeOk b) (g : Gauge) (d : Int) : f_c_lossOf b g d = some (dayLoss b g d) := by
  have h1 := hs.loans; have h2 := hs.uses
  unfold f_c_lossOf m_c_lossOf dayLoss
  rw [away_ok (by omega), bindF_some]
  cases awayP b g.1 d with
  | some l => rfl
  | none =>
    simp only
    rw [ifb_f (by rfl), used_ok (by omega), bindF_some]
    cases usedP b g.1 d <;> rfl
def spreadP (b : Book) (g : Gauge) : Nat → Int → Int → List Int
  | 0, _, _ => []
  | n + 1, d, r => min r (dayLoss b g d) :: spreadP b g n (d + 1) (r - min r (dayLoss b g d))
theorem spread_len (g : Gauge) : ∀ (n : Nat) (d r : Int), (spreadP b g n d r).length = n
  | 0, _, _ => rfl
  | n + 1, d, r => by simp [spreadP, spread_len g n]
def restP (b : Book) (g : Gauge) : Nat → Int → Int → Int
  | 0, _, r => r
  | n + 1, d, r => restP b g n (d + 1) (r - min r (dayLoss b g d))
theorem spread_snoc (g : Gauge) : ∀ (n : Nat) (d r : Int), spreadP b g (n + 1) d r = spreadP b g n d r ++ [min (restP b g n d r) (dayLoss b g (d + n))] ∧ restP b g (n + 1) d r = restP b g n d r - min (restP b g n d r) (dayLoss b g (d + n))
  | 0, d, r => by simp [spreadP, restP]
  | n + 1, d, r => by
    obtain ⟨h1, h2⟩ := spread_snoc g n (d + 1) (r - min r (dayLoss b g d))
    have e : d + 1 + (n : Int) = d + ((n + 1 : Nat) : Int) := by omega
    rw [e] at h1 h2
    constructor
    · show min r (dayLoss b g d) :: spreadP b g (n + 1) (d + 1) (r - min r (dayLoss b g d)) = _
      rw [h1]
      rfl
    · exact h2
theorem rest_bd (h : Good b) {g : Gauge} (hg : g ∈ b.2.1) : ∀ (n : Nat) (d r : Int), 0 ≤ r → 0 ≤ restP b g n d r ∧ restP b g n d r ≤ r ∧ restP b g n d r = r - (spreadP b g n d r).sum ∧ (0 ≤ d → r ≤ lossP b g d (d + n) → restP b g n d r = 0)
  | 0, d, r, hr => by
    refine ⟨hr, Int.le_refl _, by simp [restP, spreadP], fun _ h1 => ?_⟩
    rw [loss_none g (by omega)] at h1
    simp only [restP]
    omega
  | n + 1, d, r, hr => by
    have db := dayLoss_bound h hg d
    obtain ⟨a1, a2, a3, a4⟩ := rest_bd h hg n (d + 1) (r - min r (dayLoss b g d)) (by omega)
    simp only [restP, spreadP, List.sum_cons]
    refine ⟨a1, by omega, by omega, fun h0 h1 => ?_⟩
    refine a4 (by omega) ?_
    have e1 : d + ((n + 1 : Nat) : Int) = d + 1 + n := by omega
    have e2 := loss_add h g (f := d) (t := d + 1) (u := d + 1 + n) (by omega) (by omega)
    have e3 := loss_step h g (Int.le_refl d)
    rw [loss_none g (Int.le_refl d)] at e3
    have e4 := loss_nonneg h hg (f := d + 1) (t := d + 1 + n) (by omega)
    rw [e1] at h1
    omega
theorem spread_bd (h : Good b) {g : Gauge} (hg : g ∈ b.2.1) : ∀ (n : Nat) (d r : Int), 0 ≤ r → ∀ (j : Nat) (a : Int), (spreadP b g n d r)[j]? = some a → 0 ≤ a ∧ a ≤ dayLoss b g (d + j)
  | 0, _, _, _, j, a, ha => by simp [spreadP] at ha
  | n + 1, d, r, hr, j, a, ha => by
    have db := dayLoss_bound h hg d
    cases j with
    | zero =>
      simp only [spreadP, List.getElem?_cons_zero, Option.some.injEq] at ha
      subst ha
      have e : d + ((0 : Nat) : Int) = d := by omega
      rw [e]
      omega
    | succ j =>
      simp only [spreadP, List.getElem?_cons_succ] at ha
      have := spread_bd h hg n (d + 1) (r - min r (dayLoss b g d)) (by omega) j a ha
      have e : d + 1 + (j : Int) = d + ((j + 1 : Nat) : Int) := by omega
      rw [e] at this
      exact this
def dayAt (b : Book) (g : Gauge) (k : Nat) : Int := (daysP b g)[k]?.getD 0
def wearsK (b : Book) (g : Gauge) (o : Nat) (x : List Int) (k : Nat) : List Int :=
  (List.range k).flatMap fun (k : Nat) => spreadP b g (dayAt b g (k + 1) - dayAt b g k).toNat (dayAt b g k) (gv x ((o : Int) + k) - gv x ((o : Int) + k + 1))
def offP (b : Book) (g : Gauge) : Nat := (nodeP b g.1 g.2.1 - 1).toNat
theorem offP_eq (h : Good b) {i : Nat} {g : Gauge} (hg : b.2.1[i]? = some g) : offP b g = off b i := by
  obtain ⟨tl, htl⟩ := days_head h (List.mem_of_getElem? hg)
  have := nodeP_at h hg (k := 0) (d := g.2.1) (by rw [htl]; rfl)
  unfold offP
  rw [this]
  omega
def wearsG (b : Book) (g : Gauge) (x : List Int) : List Int := wearsK b g (offP b g) x ((daysP b g).length - 1)
def WearsP (b : Book) (id : Int) (x : List Int) : List Int × Int :=
  if askedP b id [] ≠ 0 then ([], askedP b id []) else if !lengthsP b x then ([], 1) else if !fitsP b x then ([], 8) else
  match gaugeOf b id with
  | some g => if 2000 < dayAt b g ((daysP b g).length - 1) - g.2.1 then ([], 2) else (wearsG b g x, 0)
  | none => ([], 0)
theorem dayAt_get {g : Gauge} {k : Nat} (hk : k < (daysP b g).length) : (daysP b g)[k]? = some (dayAt b g k) := by
  unfold dayAt
  rw [List.getElem?_eq_getElem hk]
  rfl
theorem dayAt_zero (h : Good b) {g : Gauge} (hg : g ∈ b.2.1) : dayAt b g 0 = g.2.1 := by
  obtain ⟨tl, htl⟩ := days_head h hg
  unfold dayAt
  rw [htl]
  rfl
theorem dayAt_lt {g : Gauge} {j k : Nat} (hjk : j < k) (hk : k < (daysP b g).length) : dayAt b g j < dayAt b g k := by
  have hj : j < (daysP b g).length := by omega
  have := (List.pairwise_iff_getElem.1 (days_lt b g)) j k hj hk hjk
  unfold dayAt
  rw [List.getElem?_eq_getElem hj, List.getElem?_eq_getElem hk]
  exact this
theorem wearsK_succ (g : Gauge) (o : Nat) (x : List Int) (k : Nat) : wearsK b g o x (k + 1) = wearsK b g o x k ++ spreadP b g (dayAt b g (k + 1) - dayAt b g k).toNat (dayAt b g k) (gv x ((o : Int) + k) - gv x ((o : Int) + k + 1)) := by
  unfold wearsK
  rw [range_flat]
theorem wearsK_len (h : Good b) {g : Gauge} (hg : g ∈ b.2.1) (o : Nat) (x : List Int) : ∀ k, k < (daysP b g).length → ((wearsK b g o x k).length : Int) = dayAt b g k - g.2.1
  | 0, _ => by rw [dayAt_zero h hg]; simp [wearsK]
  | k + 1, hk => by
    have ih := wearsK_len h hg o x k (by omega)
    have := dayAt_lt (b := b) (g := g) (show k < k + 1 by omega) hk
    rw [wearsK_succ, List.length_append, spread_len]
    omega
theorem fit_step (h : Good b) {i : Nat} {g : Gauge} (hg : b.2.1[i]? = some g) {x : List Int} (hx : lengthsP b x = true) (hf : fitsP b x = true) {k : Nat} (hk : k + 1 < (daysP b g).length) :
    0 ≤ gv x ((off b i : Int) + k) - gv x ((off b i : Int) + k + 1) ∧ gv x ((off b i : Int) + k) - gv x ((off b i : Int) + k + 1) ≤ lossP b g (dayAt b g k) (dayAt b g (k + 1)) := by
  have hp := fitsL_iff.1 (show fitsL (linksP b) (0 :: x) = true from hf)
  have hgm := List.mem_of_getElem? hg
  have gf := ((pot_iff h).1 hp).1 g hgm
  have d1 := dayAt_get (b := b) (g := g) (show k < _ by omega)
  have d2 := dayAt_get (b := b) (g := g) hk
  have a1 := gf.down _ _ (List.mem_of_getElem? d1) (List.mem_of_getElem? d2) (by have := dayAt_lt (b := b) (g := g) (show k < k + 1 by omega) hk; omega)
  have a2 := gf.loss _ _ (List.mem_of_getElem? d1) (List.mem_of_getElem? d2) (by have := dayAt_lt (b := b) (g := g) (show k < k + 1 by omega) hk; omega)
  rw [nodeP_at h hg d1, nodeP_at h hg d2, gv_cons _ _ (by omega), gv_cons _ _ (by omega), if_neg (by omega), if_neg (by omega)] at a1 a2
  have e1 : (off b i : Int) + k + 1 - 1 = (off b i : Int) + k := by omega
  have e2 : (off b i : Int) + ((k + 1 : Nat) : Int) + 1 - 1 = (off b i : Int) + k + 1 := by omega
  rw [e1, e2] at a1 a2
  omega
theorem wears_inner (h : Good b) {g : Gauge} (hg : g ∈ b.2.1) {k : Nat} (hk : k + 1 < (daysP b g).length) {r : Int} (hr0 : 0 ≤ r) (hr1 : r ≤ 9007199254740992) {out : List Int} (ho : out.length ≤ 20001) (K : List Int → Option (List Int × Int)) :
    loopT (fun (v27 : Int × Int × List Int) kk31 => m_c_Wears_L1 (daysP b g) ((k + 1 : Nat) : Int) b.1.1 b.1.2 b.2.1 b.2.2.1 b.2.2.2.1 b.2.2.2.2.1 b.2.2.2.2.2 g.1 g.2.1 g.2.2.1 g.2.2.2.1.1 g.2.2.2.1.2 g.2.2.2.2.1.1 g.2.2.2.2.1.2 g.2.2.2.2.2 v27.1 v27.2.1 v27.2.2 (fun u28 u29 u30 => kk31 (u28, u29, u30)) K) (r, dayAt b g k, out) = K (out ++ spreadP b g (dayAt b g (k + 1) - dayAt b g k).toNat (dayAt b g k) r) := by
  have hd2 := dayAt_get hk
  have hlt := dayAt_lt (b := b) (g := g) (show k < k + 1 by omega) hk
  have b1 := h.day hg (List.mem_of_getElem? (dayAt_get (b := b) (g := g) (show k < _ by omega)))
  have b2 := h.day hg (List.mem_of_getElem? hd2)
  obtain ⟨n, hn⟩ := Int.eq_ofNat_of_zero_le (show 0 ≤ dayAt b g (k + 1) - dayAt b g k by omega)
  rw [hn, Int.toNat_natCast]
  refine loop_inv (fun s : Int × Int × List Int => ∃ j : Nat, j ≤ n ∧ s = (restP b g j (dayAt b g k) r, dayAt b g k + j, out ++ spreadP b g j (dayAt b g k) r)) (fun s => (dayAt b g (k + 1) - s.2.1).toNat) ?_ ⟨0, by omega, by simp [restP, spreadP]⟩
  rintro s ⟨j, hj, rfl⟩
  have rb := rest_bd h hg j (dayAt b g k) r hr0
  have db := dayLoss_bound h hg (dayAt b g k + j)
  rcases Nat.lt_or_ge j n with hlt | hge
  · refine .inr ⟨(restP b g (j + 1) (dayAt b g k) r, dayAt b g k + ((j + 1 : Nat) : Int), out ++ spreadP b g (j + 1) (dayAt b g k) r), ⟨j + 1, hlt, rfl⟩, by simp only; omega, fun kn => ?_⟩
    obtain ⟨s1, s2⟩ := spread_snoc (b := b) g j (dayAt b g k) r
    have hsl := spread_len (b := b) g j (dayAt b g k) r
    try dsimp only
    unfold m_c_Wears_L1
    rw [iget_nat hd2, ifb_t (by simp [ilt]; omega)]
    rw [show f_c_lossOf ((b.1.1, b.1.2), b.2.1, b.2.2.1, b.2.2.2.1, b.2.2.2.2.1, b.2.2.2.2.2) (g.1, g.2.1, g.2.2.1, (g.2.2.2.1.1, g.2.2.2.1.2), (g.2.2.2.2.1.1, g.2.2.2.2.1.2), g.2.2.2.2.2) (dayAt b g k + j) = f_c_lossOf b g (dayAt b g k + j) from rfl, lossOf_ok h.size, bindF_some, imin_eq, ck_ok (by omega) (by omega), okLen_of (by simp only [List.length_append, List.length_singleton]; omega), Am.iff_true, ck_ok (by omega) (by omega), s1, s2, List.append_assoc]
    have e : dayAt b g k + (j : Int) + 1 = dayAt b g k + ((j + 1 : Nat) : Int) := by omega
    rw [e]
  · have : j = n := by omega
    subst this
    refine .inl fun kn => ?_
    try dsimp only
    unfold m_c_Wears_L1
    rw [iget_nat hd2, ifb_f (by simp [ilt]; omega)]
set_option maxHeartbeats 1000000 in
theorem Wears_ok (hI : In b) (id : Int) (x : List Int) : f_c_Wears b id x = some (WearsP b id x) := by
  unfold f_c_Wears m_c_Wears WearsP
  rw [askedC_ok hI id (by simp), bindF_some]
  by_cases ha : askedP b id [] = 0
  · obtain ⟨h, _, g, hg, hm⟩ := askedP_zero ha
    have hN := h.nodes
    rw [ifb_f (by simp [ine, ha]), if_neg (show ¬ (askedP b id [] ≠ 0) from fun h => h ha), made_ok' h, bindF_some, lengths_ok (by dsimp only; omega), bindF_some]
    rw [show (decide (x.length = (b, nodesP b, (((nodesP b).length : Int) + 1, linksP b), sourcesP b).2.1.length) && x.all fun n => inP n (-4503599627370496) 4503599627370496) = lengthsP b x from rfl]
    cases hl : lengthsP b x with
    | false => rfl
    | true =>
      rw [if_pos rfl, ifb_f (by rfl), makerFits_ok h hl, bindF_some]
      cases hf : fitsP b x with
      | false => rfl
      | true =>
        obtain ⟨hgm, hid⟩ := gaugeOf_some hg
        obtain ⟨i, hi, hgi⟩ := List.mem_iff_getElem.1 hgm
        have hgi' : b.2.1[i]? = some g := by rw [List.getElem?_eq_getElem hi, hgi]
        have hdl := days_len h hgm
        have hp := List.length_pos_of_mem (daysP_ne (b := b) g)
        have hlast := dayAt_get (b := b) (g := g) (k := (daysP b g).length - 1) (by omega)
        have bl := h.day hgm (List.mem_of_getElem? hlast)
        have hr := h.gaugeR hgm
        rw [ifb_f (by rfl), shelved_ok h.size.gauges, bindF_some]
        simp only [lget, hm, hg]
        rw [days_ok h.size, bindF_some, ilen_eq, ck_ok (by omega) (by omega), show ((daysP b g).length : Int) - 1 = (((daysP b g).length - 1 : Nat) : Int) by omega, iget_nat hlast, ck_ok (by omega) (by omega), ifb_eq]
        by_cases h2 : 2000 < dayAt b g ((daysP b g).length - 1) - g.2.1
        · rw [if_pos (by simpa [igt] using h2), if_pos h2]
          rfl
        · rw [if_neg (by simpa [igt] using h2), if_neg h2, at_ok _ _ _ (by dsimp only; omega), bindF_some]
          dsimp only
          rw [← hid, at_gauge h hgi']
          have ho := off_len h hgi'
          rw [ck_ok (by omega) (by omega), show (off b i : Int) + 1 - 1 = (off b i : Int) by omega]
          obtain ⟨lx, bx⟩ := lengthsP_iff.1 hl
          have hxb : ∀ v, -4503599627370496 ≤ gv x v ∧ gv x v ≤ 4503599627370496 := fun v => by
            unfold gv
            cases hv : x[v.toNat]? with
            | none => simp only [Option.getD_none]; omega
            | some a => simp only [Option.getD_some]; exact bx a (List.mem_of_getElem? hv)
          unfold wearsG
          rw [offP_eq h hgi']
          refine loop_inv (fun s : Int × List Int => ∃ k : Nat, k < (daysP b g).length ∧ s = (((k + 1 : Nat) : Int), wearsK b g (off b i) x k)) (fun s => (daysP b g).length - s.1.toNat) ?_ ⟨0, hp, rfl⟩
          rintro s ⟨k, hk, rfl⟩
          rcases Nat.lt_or_ge (k + 1) (daysP b g).length with hlt | hge
          · refine .inr ⟨(((k + 2 : Nat) : Int), wearsK b g (off b i) x (k + 1)), ⟨k + 1, hlt, rfl⟩, by simp only [Int.toNat_natCast]; omega, fun kn => ?_⟩
            have fs := fit_step h hgi' hl hf hlt
            have x1 := hxb ((off b i : Int) + k)
            have x2 := hxb ((off b i : Int) + k + 1)
            have wl := wearsK_len h hgm (off b i) x k (by omega)
            have bk := h.day hgm (List.mem_of_getElem? (dayAt_get (b := b) (g := g) (k := k) (by omega)))
            try dsimp only
            unfold m_c_Wears_L0
            rw [ifb_lt' hlt, ck_ok (by omega) (by omega), ck_ok (by omega) (by omega), show (off b i : Int) + ((k + 1 : Nat) : Int) - 1 = (off b i : Int) + k by omega, iget_gv (by omega) (by omega), ck_ok (by omega) (by omega), show (off b i : Int) + ((k + 1 : Nat) : Int) = (off b i : Int) + k + 1 by omega, iget_gv (by omega) (by omega), ck_ok (by omega) (by omega), ck_ok (by omega) (by omega), show ((k + 1 : Nat) : Int) - 1 = (k : Int) by omega, iget_nat (dayAt_get (b := b) (g := g) (k := k) (by omega))]
            refine Eq.trans (wears_inner h hgm hlt fs.1 (by omega) (by omega) _) ?_
            rw [ck_ok (by omega) (by omega), wearsK_succ, show ((k + 1 : Nat) : Int) + 1 = ((k + 2 : Nat) : Int) by omega]
          · have e : (daysP b g).length - 1 = k := by omega
            refine .inl fun kn => ?_
            try dsimp only
            unfold m_c_Wears_L0
            rw [show (k + 1) = (daysP b g).length by omega, ifb_ge, e]
            simp
  · rw [ifb_t (by simp [ine, ha]), if_pos ha]
end
end Go.Proofs.ZzM
end

noncomputable section
namespace Go.Proofs.ZzM
open Go Go.Am
def apartP (b : Book) (c : Cmp) (x : List Int) : Int := gv (0 :: x) (cx b c) - gv (0 :: x) (cy b c)
def ShowsP (b : Book) (i : Int) (x : List Int) : (Int × Int) × Int :=
  if (whichP b i).2 ≠ 0 then ((0, 0), (whichP b i).2) else if !lengthsP b x then ((0, 0), 1) else shownP b (whichP b i).1 (apartP b (whichP b i).1 x, apartP b (whichP b i).1 x)
theorem gv_bd {x : List Int} {m : Int} (hm : 0 ≤ m) (h : ∀ a ∈ x, -m ≤ a ∧ a ≤ m) (v : Int) : -m ≤ gv x v ∧ gv x v ≤ m := by
  unfold gv
  cases hv : x[v.toNat]? with
  | none => simp only [Option.getD_none]; omega
  | some a => simp only [Option.getD_some]; exact h a (List.mem_of_getElem? hv)
theorem apart_bd {b : Book} {x : List Int} (hx : lengthsP b x = true) (c : Cmp) : (∀ v, -4503599627370496 ≤ gv (0 :: x) v ∧ gv (0 :: x) v ≤ 4503599627370496) ∧ -9007199254740992 ≤ apartP b c x ∧ apartP b c x ≤ 9007199254740992 := by
  have h := (lengthsP_iff.1 hx).2
  have hb : ∀ v, -4503599627370496 ≤ gv (0 :: x) v ∧ gv (0 :: x) v ≤ 4503599627370496 := gv_bd (by omega) fun a ha => by
    rcases List.mem_cons.1 ha with rfl | ha
    · omega
    · exact h a ha
  refine ⟨hb, ?_⟩
  have h1 := hb (cx b c)
  have h2 := hb (cy b c)
  unfold apartP
  omega
theorem Shows_ok {b : Book} (h : In b) (i : Int) (x : List Int) : f_c_Shows b i x = some (ShowsP b i x) := by
  unfold f_c_Shows m_c_Shows ShowsP
  rw [which_ok h, bindF_some]
  by_cases hw : (whichP b i).2 = 0
  · obtain ⟨g, hm, _, _⟩ := whichP_zero hw
    have hN := g.nodes
    have hn := (numsP_iff _).1 (g.nums hm)
    have ha := pileP_len hn.2.2.2.2.2.1
    have hb := pileP_len hn.2.2.2.2.2.2
    rw [ifb_f (by simp [ine, hw]), if_neg (show ¬ ((whichP b i).2 ≠ 0) from fun h => h hw), made_ok' g, bindF_some, lengths_ok (by dsimp only; omega), bindF_some]
    rw [show (decide (x.length = (b, nodesP b, (((nodesP b).length : Int) + 1, linksP b), sourcesP b).2.1.length) && x.all fun n => inP n (-4503599627370496) 4503599627370496) = lengthsP b x from rfl]
    cases hl : lengthsP b x with
    | false => rfl
    | true =>
      obtain ⟨hv, hd⟩ := apart_bd hl (whichP b i).1
      have hlen := (lengthsP_iff.1 hl).1
      have rx := (cx_left g hm).rng
      have ry := (cy_left g hm).rng
      have hol : olen ([0] ++ x) = (((nodesP b).length + 1 : Nat) : Int) := by
        show (((([0] ++ x : List Int)).length : Nat) : Int) = _
        simp only [List.length_append, List.length_singleton]
        omega
      rw [if_pos rfl, ifb_f (by rfl), okLen_of (by simp only [List.length_singleton]; omega), Am.iff_true, left_ok (by omega) (by omega), bindF_some, at_ok _ _ _ (by dsimp only; omega), bindF_some]
      dsimp only
      rw [show atP (nodesP b) (leftP (whichP b i).1.2.2.1 (whichP b i).1.2.2.2.1) (whichP b i).1.2.1 = cx b (whichP b i).1 from rfl, hol, iff_rng rx.1 rx.2, nget_gv (by simp only [List.length_append, List.length_singleton]; omega), left_ok (by omega) (by omega), bindF_some, at_ok _ _ _ (by dsimp only; omega), bindF_some]
      dsimp only
      rw [show atP (nodesP b) (leftP (whichP b i).1.2.2.2.1 (whichP b i).1.2.2.1) (whichP b i).1.2.1 = cy b (whichP b i).1 from rfl, iff_rng ry.1 ry.2, nget_gv (by simp only [List.length_append, List.length_singleton]; omega)]
      rw [show gv ([0] ++ x) (cx b (whichP b i).1) = gv (0 :: x) (cx b (whichP b i).1) from rfl, show gv ([0] ++ x) (cy b (whichP b i).1) = gv (0 :: x) (cy b (whichP b i).1) from rfl]
      rw [show gv (0 :: x) (cx b (whichP b i).1) - gv (0 :: x) (cy b (whichP b i).1) = apartP b (whichP b i).1 x from rfl, ck_ok (by omega) (by omega), shown_ok g.size g.film (g.cmp hm) (by dsimp only; omega) (by dsimp only; omega), bindF_some]
      rfl
  · rw [ifb_t (by simp [ine, hw]), if_pos hw]
end Go.Proofs.ZzM
end

noncomputable section
namespace Go.Proofs.ZzM
open Go Go.Am
theorem RIn_ok (n lo hi : Int) : f_r5_In n lo hi = some (inP n lo hi) := by
  unfold f_r5_In m_r5_In inP ige ile
  cases h : decide (lo ≤ n) <;> simp_all
theorem RDay_ok (n : Int) : f_r5_Day n = some (dayP n) := by
  unfold f_r5_Day m_r5_Day
  rw [RIn_ok]; rfl
theorem Rspanned_ok (s : Int × Int) (lo hi : Int) : f_r5_spanned s lo hi = some (spanP s lo hi) := by
  unfold f_r5_spanned m_r5_spanned spanP ile
  cases decide (lo ≤ s.1) <;> cases decide (s.1 ≤ s.2) <;> rfl
theorem RHas_ok {l : List Int} (hn : l.length ≤ 1000000) (x : Int) : f_r5_Has l x = some (l.contains x) := by
  unfold f_r5_Has m_r5_Has
  refine Eq.trans (loop_any l (fun a => a == x) (fun _ => some true) (some true) (some false) (fun _ => rfl) (fun i a hi ha kn => ?_) (fun kn => ?_)) ?_
  · try dsimp only
    unfold m_r5_Has_L0
    rw [ifb_lt' hi, iget_nat ha, ck_succ hi (by omega), ifb_eq]
  · try dsimp only
    unfold m_r5_Has_L0
    rw [ifb_ge]
  · have : l.any (fun a => a == x) = l.contains x := by
      rw [Bool.eq_iff_iff, List.any_eq_true, List.contains_iff_mem]
      constructor
      · rintro ⟨a, ha, e⟩; rw [← eq_of_beq e]; exact ha
      · intro h; exact ⟨x, h, by simp⟩
    rw [this]
    cases l.contains x <;> rfl
theorem leftP_take {a b : List Int} {i : Nat} {x : Int} (h : a[i]? = some x) : leftP (a.take (i + 1)) b = leftP (a.take i) b ++ if b.contains x then [] else [x] := by
  rw [take_succ h, leftP, leftP, List.filter_append]
  congr 1
  cases hx : b.contains x <;> simp only [List.filter_cons, hx, Bool.not_true, Bool.not_false, Bool.false_eq_true, if_false, if_true, List.filter_nil]
theorem RLeft_ok {a b : List Int} (ha : a.length ≤ 1000000) (hb : b.length ≤ 1000000) : f_r5_Left a b = some (leftP a b) := by
  unfold f_r5_Left m_r5_Left
  refine loop_acc a (fun i => leftP (a.take i) b) _ rfl (fun i x hi hx kn => ?_) (fun kn => ?_)
  · try dsimp only
    unfold m_r5_Left_L0
    have hl : (leftP (a.take i) b).length ≤ 1000000 := by
      have := leftP_len (a.take i) b
      rw [List.length_take] at this
      omega
    rw [ifb_lt' hi, iget_nat hx, RHas_ok hb, bindF_some, leftP_take hx]
    cases b.contains x with
    | true => rw [ifb_f (by rfl), ck_succ hi (by omega)]; simp
    | false => rw [ifb_t (by rfl), iget_nat hx, okLen_of (by simp only [List.length_singleton]; omega), Am.iff_true, ck_succ hi (by omega)]; simp
  · try dsimp only
    unfold m_r5_Left_L0
    rw [ifb_ge, List.take_length]
def oneP (a b : List Int) : Int := (leftP a b).head?.getD 0
theorem Rone_ok {a b : List Int} (ha : a.length ≤ 1000000) (hb : b.length ≤ 1000000) : f_r5_one a b = some (oneP a b) := by
  unfold f_r5_one m_r5_one oneP
  rw [RLeft_ok ha hb, bindF_some, ilen_eq]
  cases h : leftP a b with
  | nil => rfl
  | cons x t =>
    rw [ifb_f (by simp [ieq]; omega)]
    exact iget_nat (i := 0) rfl _
theorem RFind_ok {b : Book} (hn : b.2.1.length ≤ 1000000) (id : Int) : f_r5_Find b id = some (match b.2.1.findIdx? (fun g => g.1 == id) with | some j => (j : Int) | none => -1) := by
  unfold f_r5_Find m_r5_Find
  refine Eq.trans (loop_find b.2.1 (fun g => g.1 == id) (fun z => some z) (some (-1)) (fun i a hi ha kn => ?_) (fun kn => ?_)) ?_
  · try dsimp only
    unfold m_r5_Find_L0
    rw [ifb_lt' hi, iget_nat ha, ck_succ hi (by omega), ifb_eq]
  · try dsimp only
    unfold m_r5_Find_L0
    rw [ifb_ge]
  · cases List.findIdx? (fun g : Gauge => g.1 == id) b.2.1 <;> rfl
theorem find_gauge {b : Book} {id : Int} : (∃ j g, b.2.1.findIdx? (fun g => g.1 == id) = some j ∧ b.2.1[j]? = some g ∧ gaugeOf b id = some g) ∨ (b.2.1.findIdx? (fun g => g.1 == id) = none ∧ gaugeOf b id = none) := by
  unfold gaugeOf
  rw [find_idx]
  cases h : b.2.1.findIdx? (fun g => g.1 == id) with
  | none => exact .inr ⟨rfl, rfl⟩
  | some j =>
    obtain ⟨hj, _, _⟩ := List.findIdx?_eq_some_iff_getElem.1 h
    exact .inl ⟨j, _, rfl, List.getElem?_eq_getElem hj, List.getElem?_eq_getElem hj⟩
def sinceP (b : Book) (id day : Int) : Int := match gaugeOf b id with | some g => if day < g.2.1 then 4 else 0 | none => 5
theorem RSince_ok {b : Book} (hn : b.2.1.length ≤ 1000000) (id day : Int) : f_r5_Since b id day = some (sinceP b id day) := by
  unfold f_r5_Since m_r5_Since sinceP
  rw [RFind_ok hn, bindF_some]
  rcases find_gauge (b := b) (id := id) with ⟨j, g, h1, h2, h3⟩ | ⟨h1, h2⟩
  · rw [h1, h3]
    try dsimp only
    rw [ifb_f (by simp [ilt]), iget_nat h2, ifb_eq]
    by_cases hd : day < g.2.1
    · rw [if_pos (by simpa [ilt] using hd), if_pos hd]
    · rw [if_neg (by simpa [ilt] using hd), if_neg hd]
  · rw [h1, h2]
    rfl
theorem sinceP_made {b : Book} (hi : b.2.1.Pairwise fun a b => a.1 < b.1) (id day : Int) : sinceP b id day = madeE (shelf b) id day := by
  unfold sinceP madeE
  rw [mget_shelf hi]
  cases gaugeOf b id <;> rfl
theorem RLent_ok {b : Book} (hn : b.2.2.2.1.length ≤ 1000000) (id day : Int) : f_r5_Lent b id day = some (match awayP b id day with | some l => (l, true) | none => ((0, (0, 0), 0), false)) := by
  unfold f_r5_Lent m_r5_Lent
  refine loop_accE b.2.2.2.1 (fun _ => ((0 : Int), (0 : Int), (0 : Int), (0 : Int))) _ (fun i => ∀ l ∈ b.2.2.2.1.take i, (l.1 == id && inP day l.2.1.1 l.2.1.2) = false) rfl (by simp) (fun i a hi ha hP kn => ?_) (fun hP kn => ?_)
  · try dsimp only
    unfold m_r5_Lent_L0
    rw [ifb_lt' hi, iget_nat ha]
    by_cases hm : (a.1 == id && inP day a.2.1.1 a.2.1.2) = true
    · refine .inl ?_
      have hm2 := hm
      simp only [inP, Bool.and_eq_true, beq_iff_eq, decide_eq_true_eq] at hm2
      rw [ifb_t (by simp [ieq, hm2.1]), ifb_t (by simp [ile, hm2.2.1]), ifb_t (by simp [ile, hm2.2.2])]
      have hf : awayP b id day = some a := by
        unfold awayP
        obtain ⟨hi', rfl⟩ := List.getElem?_eq_some_iff.1 ha
        rw [List.find?_eq_some_iff_getElem]
        refine ⟨hm, i, hi', rfl, fun j hj => ?_⟩
        have := hP b.2.2.2.1[j] (List.mem_iff_getElem.2 ⟨j, by rw [List.length_take]; omega, by rw [List.getElem_take]⟩)
        simp [this]
      rw [hf]
    · refine .inr ⟨fun l hl => ?_, ?_⟩
      · rw [take_succ ha, List.mem_append, List.mem_singleton] at hl
        rcases hl with hl | rfl
        · exact hP l hl
        · simpa using hm
      · have hm2 := hm
        simp only [inP, Bool.and_eq_true, beq_iff_eq, decide_eq_true_eq] at hm2
        by_cases h1 : a.1 = id
        · by_cases h2 : a.2.1.1 ≤ day
          · rw [ifb_t (by simp [ieq, h1]), ifb_t (by simp [ile, h2]), ifb_f (by simp [ile]; exact Int.lt_of_not_ge fun h3 => hm2 ⟨h1, h2, h3⟩), ck_succ hi (by omega)]
          · rw [ifb_t (by simp [ieq, h1]), ifb_f (by simp [ile]; omega), ck_succ hi (by omega)]
        · rw [ifb_f (by simp [ieq, h1]), ck_succ hi (by omega)]
  · try dsimp only
    unfold m_r5_Lent_L0
    rw [ifb_ge]
    have : awayP b id day = none := by
      unfold awayP
      rw [List.find?_eq_none]
      intro l hl
      have := hP l (by rw [List.take_length]; exact hl)
      simp [this]
    rw [this]
theorem RUsed_ok {b : Book} (hn : b.2.2.1.length ≤ 1000000) (id day : Int) : f_r5_Used b id day = some (usedP b id day) := by
  unfold f_r5_Used m_r5_Used
  refine Eq.trans (loop_any b.2.2.1 (fun u => u.1 == id && u.2 == day) (fun _ => some true) (some true) (some false) (fun _ => rfl) (fun i a hi ha kn => ?_) (fun kn => ?_)) ?_
  · try dsimp only
    unfold m_r5_Used_L0
    rw [ifb_lt' hi, iget_nat ha, iget_nat ha, ck_succ hi (by omega)]
    cases h1 : (a.1 == id) with
    | false => have : ieq a.1 id = false := h1; simp [this]
    | true =>
      have : ieq a.1 id = true := h1
      rw [this]
      cases h2 : (a.2 == day) with
      | false => have : ieq a.2 day = false := h2; simp [this]
      | true => have : ieq a.2 day = true := h2; simp [this]
  · try dsimp only
    unfold m_r5_Used_L0
    rw [ifb_ge]
  · unfold usedP
    cases b.2.2.1.any _ <;> rfl
theorem RGcd_ok (a b : Nat) : f_r1_Gcd a b = some ((Nat.gcd a b : Nat) : Int) := by
  unfold f_r1_Gcd m_r1_Gcd
  refine loop_inv (fun x : Int × Int => ∃ c d : Nat, x = ((c : Int), (d : Int)) ∧ Nat.gcd c d = Nat.gcd a b) (fun x => x.2.toNat) ?_ ⟨a, b, rfl, rfl⟩
  rintro x ⟨c, d, rfl, hg⟩
  cases d with
  | zero =>
    refine .inl fun kn => ?_
    rw [Nat.gcd_zero_right] at hg
    unfold m_r1_Gcd_L0
    simp [hg, ine]
  | succ d =>
    refine .inr ⟨(((d + 1 : Nat) : Int), ((c % (d + 1) : Nat) : Int)), ⟨d + 1, c % (d + 1), rfl, ?_⟩, ?_, fun kn => ?_⟩
    · rw [← hg, Nat.gcd_comm c (d + 1), Nat.gcd_rec (d + 1) c, Nat.gcd_comm]
    · have := Nat.mod_lt c (Nat.succ_pos d)
      simp only [Int.toNat_natCast]
      omega
    · unfold m_r1_Gcd_L0
      have h1 : ine ((d + 1 : Nat) : Int) 0 = true := by simp [ine]; omega
      have h2 : dieq ((d + 1 : Nat) : Int) 0 = false := by simp [dieq]; omega
      simp only [h1, ifb_t ifb_f h2]
      congr 1
theorem RAbs_ok {n : Int} (h : -9223372036854775807 ≤ n ∧ n ≤ 9223372036854775807) : f_r1_Abs n = some (n.natAbs : Int) := by
  unfold f_r1_Abs m_r1_Abs
  by_cases hn : n < 0
  · rw [ifb_t (by simpa [ilt] using hn), ck_ok (by omega) (by omega)]
    congr 1
    omega
  · rw [ifb_f (by simpa [ilt] using hn)]
    congr 1
    omega
theorem RValid_ok (r : Int × Int) : f_r1_Valid r = some (ratP r) := by
  unfold f_r1_Valid m_r1_Valid ratP
  by_cases h1 : 1 ≤ r.2
  · rw [ifb_f (by simp [ilt]; omega)]
    by_cases h2 : r.2 ≤ 2147483647
    · rw [ifb_f (by simp [igt]; omega)]
      by_cases h3 : r.1 < -2147483647
      · rw [ifb_t (by simp [ilt]; omega)]
        have : ¬ ((r.1.natAbs : Int) ≤ 2147483647) := by omega
        simp [this]
      · rw [ifb_f (by simp [ilt]; omega)]
        by_cases h4 : 2147483647 < r.1
        · rw [ifb_t (by simp [igt]; omega)]
          have : ¬ ((r.1.natAbs : Int) ≤ 2147483647) := by omega
          simp [this]
        · rw [ifb_f (by simp [igt]; omega), RAbs_ok ⟨by omega, by omega⟩, bindF_some]
          have h5 : r.2 = ((r.2.natAbs : Nat) : Int) := by omega
          have h6 : ((r.1.natAbs : Int) ≤ 2147483647) := by omega
          rw [h5, RGcd_ok, bindF_some, ← h5]
          congr 1
          rw [Bool.eq_iff_iff]
          simp only [ieq, beq_iff_eq, h1, h2, h6, decide_true, Bool.true_and, decide_eq_true_eq]
          omega
    · rw [ifb_t (by simp [igt]; omega)]
      simp [h2]
  · rw [ifb_t (by simp [ilt]; omega)]
    simp [h1]
theorem Rgauge_ok (g : Gauge) : f_r5_gauge g = some (gaugeP g) := by
  unfold f_r5_gauge m_r5_gauge gaugeP
  rw [RValid_ok, RIn_ok, RIn_ok, RDay_ok, RIn_ok, Rspanned_ok, RIn_ok]
  simp only [bindF_some]
  have e : igt g.2.2.2.2.1.2 100 = !decide (g.2.2.2.2.1.2 ≤ 100) := by
    rw [Bool.eq_iff_iff]; simp [igt]
  rw [e]
  cases ratP g.2.2.2.2.1 <;> cases inP g.2.2.2.2.1.1 (-1000) 1000 <;> cases decide (g.2.2.2.2.1.2 ≤ 100) <;> cases inP g.1 1 1099511627776 <;> cases dayP g.2.1 <;> cases inP g.2.2.1 1 1125899906842624 <;> cases spanP g.2.2.2.1 (-1073741824) 1073741824 <;> rfl
end Go.Proofs.ZzM
end

noncomputable section
namespace Go.Proofs.ZzM
open Go Go.Am
theorem pileE_false {l : List Int} : ∀ (m : List Int) (j : Nat) (x : Bool), firstO (pileE l) j m = some x → x = false := by
  intro m
  induction m with
  | nil => intro j x h; cases h
  | cons a m ih =>
    intro j x h
    unfold firstO at h
    cases hp : pileE l j a with
    | none => rw [hp] at h; exact ih _ _ h
    | some y =>
      rw [hp] at h
      cases h
      unfold pileE at hp
      split at hp
      · cases hp; rfl
      · split at hp
        · cases hp; rfl
        · cases hp
theorem RPile_ok {l : List Int} (hn : l.length ≤ 1000000) : f_r5_Pile l = some (pileP l) := by
  unfold f_r5_Pile m_r5_Pile
  refine Eq.trans (loop_first l (pileE l) some (some (decide (l.length ≤ 6))) (fun i a hi ha kn => ?_) (fun kn => ?_)) ?_
  · try dsimp only
    unfold m_r5_Pile_L0
    rw [ifb_lt' hi, iget_nat ha, RIn_ok, bindF_some]
    unfold pileE
    cases inP a 1 1099511627776 with
    | false => rfl
    | true =>
      simp only [Bool.not_true, ifb_false, Bool.false_eq_true, if_false]
      rcases Nat.eq_zero_or_pos i with h0 | h0
      · subst h0
        have : igt ((0 : Nat) : Int) 0 = false := by simp [igt]
        rw [ifb_f this, ck_succ hi (by omega)]
        simp [backE]
      · obtain ⟨q, hq⟩ := prev_some hi h0
        have h1 : igt (i : Int) 0 = true := by simp [igt]; omega
        rw [ifb_t h1, iget_nat ha, ck_pred h0 (by omega), iget_pred h0 hq]
        simp only [backE, h0, decide_true, Bool.true_and, hq, Option.any_some]
        unfold ile
        cases h2 : decide (a ≤ q) with
        | true => rfl
        | false =>
          rw [ifb_false, ck_succ hi (by omega)]
          rfl
  · try dsimp only
    unfold m_r5_Pile_L0
    rw [ifb_ge, ilen_eq]
    simp [ile]
    omega
  · unfold pileP
    cases h : firstO (pileE l) 0 l with
    | none => rfl
    | some x => rw [pileE_false _ _ _ h]
theorem Rplain_ok {c : Cmp} (hA : c.2.2.1.length ≤ 1000000) (hB : c.2.2.2.1.length ≤ 1000000) : f_r5_plain c = some (numsP c) := by
  unfold f_r5_plain m_r5_plain numsP
  rw [RPile_ok hA, RPile_ok hB, RIn_ok, RDay_ok, RIn_ok, RIn_ok, Rspanned_ok]
  simp only [bindF_some]
  cases pileP c.2.2.1 <;> cases pileP c.2.2.2.1 <;> cases inP c.1 1 1099511627776 <;> cases dayP c.2.1 <;> cases inP c.2.2.2.2.1 (-1125899906842624) 1125899906842624 <;> cases inP c.2.2.2.2.2.1 0 1073741824 <;> cases spanP c.2.2.2.2.2.2 (-10000) 10000 <;> rfl
def useP (b : Book) (u : Int × Int) : Int := if !dayP u.2 then 1 else sinceP b u.1 u.2
theorem useP_E {b : Book} (hi : b.2.1.Pairwise fun a b => a.1 < b.1) (u : Int × Int) : useP b u = useE (shelf b) u.1 u.2 := by
  unfold useP useE
  rw [sinceP_made hi]
def errO (e : Int) : Option Int := if e = 0 then none else some e
theorem first_errs {α : Type} (E : Nat → α → Int) : ∀ (k : Nat) (l : List α), firstO (fun i a => errO (E i a)) k l = (l.mapIdx fun i a => E (i + k) a).find? (fun e => e != 0)
  | _, [] => rfl
  | k, a :: t => by
    unfold firstO
    rw [first_errs E (k + 1) t, List.mapIdx_cons, List.find?_cons]
    unfold errO
    by_cases h : E k a = 0
    · simp only [h, if_true, Nat.zero_add]
      have : ((0 : Int) != 0) = false := rfl
      rw [this]
      have e : (fun (i : Nat) (a : α) => E (i + (k + 1)) a) = fun i a => E (i + 1 + k) a := by
        funext i a
        congr 1
        omega
      rw [e]
    · simp only [h, if_false, Nat.zero_add]
      have : (E k a != 0) = true := by simpa using h
      rw [this]
theorem first_errs0 {α : Type} (E : Nat → α → Int) (l : List α) : firstO (fun i a => errO (E i a)) 0 l = (l.mapIdx E).find? (fun e => e != 0) := first_errs E 0 l
theorem first_errs' {α : Type} (E : α → Int) (l : List α) : firstO (fun _ a => errO (E a)) 0 l = (l.map E).find? (fun e => e != 0) := by
  rw [first_errs (fun _ a => E a) 0 l]
  congr 1
  exact List.ext_getElem (by simp) fun i h1 h2 => by simp
theorem Ruses_ok {b : Book} (hs : SizeOk b) : f_r5_uses b = some (((b.2.2.1.map (useP b)).find? (fun e => e != 0)).getD 0) := by
  have h1 := hs.gauges
  have h2 := hs.uses
  unfold f_r5_uses m_r5_uses
  refine Eq.trans (loop_first b.2.2.1 (fun _ u => errO (useP b u)) some (some 0) (fun i a hi ha kn => ?_) (fun kn => ?_)) ?_
  · try dsimp only
    unfold m_r5_uses_L0
    rw [ifb_lt' hi, iget_nat ha, RDay_ok, bindF_some]
    unfold useP errO
    cases dayP a.2 with
    | false => rfl
    | true =>
      rw [ifb_f (by rfl), iget_nat ha, iget_nat ha, RSince_ok (b := ((b.1.1, b.1.2), b.2.1, b.2.2.1, b.2.2.2.1, b.2.2.2.2.1, b.2.2.2.2.2)) (by simp only; omega), bindF_some, ck_succ hi (by omega)]
      have e : sinceP ((b.1.1, b.1.2), b.2.1, b.2.2.1, b.2.2.2.1, b.2.2.2.2.1, b.2.2.2.2.2) a.1 a.2 = sinceP b a.1 a.2 := rfl
      rw [e]
      by_cases hz : sinceP b a.1 a.2 = 0
      · rw [ifb_f (by simp [ine, hz])]; simp [hz]
      · rw [ifb_t (by simp [ine, hz])]; simp [hz]
  · try dsimp only
    unfold m_r5_uses_L0
    rw [ifb_ge]
  · rw [first_errs']
    cases List.find? (fun e => e != 0) (b.2.2.1.map (useP b)) <;> rfl
def loanQ (b : Book) (i : Nat) (l : Loan) : Int :=
  if !spanP l.2.1 0 20000 then 1 else if !inP l.2.2 0 1048576 then 1 else if sinceP b l.1 l.2.1.1 != 0 then sinceP b l.1 l.2.1.1 else
  if (b.2.2.2.1.take i).any (fun x => x.1 == l.1 && (decide (x.2.1.1 ≤ l.2.1.2) && decide (l.2.1.1 ≤ x.2.1.2))) then 9 else
  if b.2.2.1.any (fun u => u.1 == l.1 && inP u.2 l.2.1.1 l.2.1.2) then 9 else 0
theorem loanQ_E {b : Book} (hi : b.2.1.Pairwise fun a b => a.1 < b.1) (i : Nat) (l : Loan) : loanQ b i l = loanE b (shelf b) i l := by
  unfold loanQ loanE
  rw [sinceP_made hi]
theorem Rloans_ok {b : Book} (hs : SizeOk b) : f_r5_loans b = some (((b.2.2.2.1.mapIdx (loanQ b)).find? (fun e => e != 0)).getD 0) := by
  have h1 := hs.gauges
  have h2 := hs.uses
  have h3 := hs.loans
  unfold f_r5_loans m_r5_loans
  refine Eq.trans (loop_first b.2.2.2.1 (fun i l => errO (loanQ b i l)) some (some 0) (fun i l hi hl kn => ?_) (fun kn => ?_)) ?_
  · try dsimp only
    unfold m_r5_loans_L0
    rw [ifb_lt' hi, iget_nat hl, Rspanned_ok, bindF_some]
    unfold loanQ errO
    cases spanP l.2.1 0 20000 with
    | false => rfl
    | true =>
    rw [ifb_f (by rfl), RIn_ok, bindF_some]
    cases inP l.2.2 0 1048576 with
    | false => rfl
    | true =>
    rw [ifb_f (by rfl), RSince_ok (b := ((b.1.1, b.1.2), b.2.1, b.2.2.1, b.2.2.2.1, b.2.2.2.2.1, b.2.2.2.2.2)) (by simp only; omega), bindF_some]
    have e : sinceP ((b.1.1, b.1.2), b.2.1, b.2.2.1, b.2.2.2.1, b.2.2.2.2.1, b.2.2.2.2.2) l.1 l.2.1.1 = sinceP b l.1 l.2.1.1 := rfl
    rw [e]
    by_cases hz : sinceP b l.1 l.2.1.1 = 0
    · rw [ifb_f (by simp [ine, hz])]
      have hl9 : (b.2.2.2.1.take i).length = i := by rw [List.length_take]; omega
      have inner : loopT (fun (v21 : Int) kk23 => m_r5_loans_L2 b.2.2.1 l.1 l.2.1.1 l.2.1.2 v21 (fun u22 => kk23 u22) (fun z18 => (some z18 : Option Int)) (fun _ => ck ((i : Int) + (1 : Int)) fun n20 => kn n20)) (0 : Int) = if b.2.2.1.any (fun u => u.1 == l.1 && inP u.2 l.2.1.1 l.2.1.2) then some 9 else kn ((i : Int) + 1) := by
        refine loop_any b.2.2.1 _ (fun _ => some 9) (some 9) (kn ((i : Int) + 1)) (fun _ => rfl) (fun j a hj ha kn' => ?_) (fun kn' => ?_)
        · try dsimp only
          unfold m_r5_loans_L2
          rw [ifb_lt' hj, iget_nat ha, iget_nat ha, RIn_ok, bindF_some, ck_succ hj (by omega)]
          cases hq : (a.1 == l.1) with
          | false => have : ieq a.1 l.1 = false := hq; simp [this]
          | true =>
            have : ieq a.1 l.1 = true := hq
            rw [this]
            cases inP a.2 l.2.1.1 l.2.1.2 <;> simp
        · try dsimp only
          unfold m_r5_loans_L2
          rw [ifb_ge]
          dsimp only
          rw [ck_succ hi (by omega)]
      try dsimp only
      rw [inner]
      refine Eq.trans (loop_any (b.2.2.2.1.take i) (fun x => x.1 == l.1 && (decide (x.2.1.1 ≤ l.2.1.2) && decide (l.2.1.1 ≤ x.2.1.2))) (fun _ => some 9) (some 9) (if b.2.2.1.any (fun u => u.1 == l.1 && inP u.2 l.2.1.1 l.2.1.2) then some 9 else kn ((i : Int) + 1)) (fun _ => rfl) (fun j a hj ha kn' => ?_) (fun kn' => ?_)) ?_
      · try dsimp only
        unfold m_r5_loans_L1
        rw [hl9] at hj
        have ha' : b.2.2.2.1[j]? = some a := by rwa [List.getElem?_take_of_lt hj] at ha
        rw [ifb_t (show ilt (j : Int) (i : Int) = true by simp [ilt]; omega), iget_nat ha', iget_nat ha', iget_nat ha', ck_succ hj (by omega)]
        cases hq : (a.1 == l.1) with
        | false => have : ieq a.1 l.1 = false := hq; simp [this]
        | true =>
          have : ieq a.1 l.1 = true := hq
          rw [this]
          cases h5 : decide (a.2.1.1 ≤ l.2.1.2) <;> cases h6 : decide (l.2.1.1 ≤ a.2.1.2) <;> simp [ile, h5, h6, ifb_eq] <;> simp_all
      · try dsimp only
        unfold m_r5_loans_L1
        rw [hl9, ifb_f (show ilt (i : Int) (i : Int) = false by simp [ilt])]
      · simp only [hz]
        cases List.any (b.2.2.2.1.take i) _ <;> cases b.2.2.1.any _ <;> rfl
    · rw [ifb_t (by simp [ine, hz])]; simp [hz]
  · try dsimp only
    unfold m_r5_loans_L0
    rw [ifb_ge]
  · rw [first_errs0 (loanQ b)]
    cases (b.2.2.2.1.mapIdx (loanQ b)).find? (fun e => e != 0) <;> rfl
def pilesQ (b : Book) (c : Cmp) : Int :=
  if (c.2.2.1 ++ c.2.2.2.1).any (fun id => sinceP b id c.2.1 == 5) then 5 else
  if (c.2.2.1 ++ c.2.2.2.1).any (fun id => sinceP b id c.2.1 != 0) then 4 else
  if (c.2.2.1 ++ c.2.2.2.1).any (fun id => (awayP b id c.2.1).isSome) then 9 else
  if 1 < (leftP c.2.2.1 c.2.2.2.1).length then 1 else if 1 < (leftP c.2.2.2.1 c.2.2.1).length then 1 else
  if (leftP c.2.2.1 c.2.2.2.1).length + (leftP c.2.2.2.1 c.2.2.1).length = 0 then 1 else 0
theorem pilesQ_E {b : Book} (hi : b.2.1.Pairwise fun a b => a.1 < b.1) (c : Cmp) : pilesQ b c = pilesE b (shelf b) c := by
  unfold pilesQ pilesE
  simp only [sinceP_made hi]
  by_cases h5 : (c.2.2.1 ++ c.2.2.2.1).any (fun id => madeE (shelf b) id c.2.1 == 5) = true
  · rw [if_pos h5, if_pos h5]
  · rw [if_neg h5, if_neg h5]
    have e : (c.2.2.1 ++ c.2.2.2.1).any (fun id => madeE (shelf b) id c.2.1 != 0) = (c.2.2.1 ++ c.2.2.2.1).any (fun id => madeE (shelf b) id c.2.1 == 4) := by
      rw [Bool.eq_iff_iff, List.any_eq_true, List.any_eq_true]
      constructor
      · rintro ⟨x, hx, h⟩
        refine ⟨x, hx, ?_⟩
        rcases madeE_cases (shelf b) x c.2.1 with h1 | h1 | h1
        · rw [h1] at h; cases h
        · rw [h1]; rfl
        · exact absurd (List.any_eq_true.2 ⟨x, hx, by rw [h1]; rfl⟩) h5
      · rintro ⟨x, hx, h⟩
        refine ⟨x, hx, ?_⟩
        rw [eq_of_beq h]; rfl
    rw [e]
theorem sinceP_five {b : Book} {id d : Int} : (sinceP b id d == 5) = (b.2.1.findIdx? (fun g => g.1 == id)).isNone := by
  unfold sinceP
  rcases find_gauge (b := b) (id := id) with ⟨j, g, h1, h2, h3⟩ | ⟨h1, h2⟩
  · rw [h1, h3]
    try dsimp only
    split <;> rfl
  · rw [h1, h2]; rfl
set_option maxHeartbeats 1000000 in
theorem Rcompared_ok {b : Book} (hs : SizeOk b) {c : Cmp} (hA : c.2.2.1.length ≤ 1000) (hB : c.2.2.2.1.length ≤ 1000) : f_r5_compared b c = some (pilesQ b c) := by
  have h1 := hs.gauges
  have h3 := hs.loans
  unfold f_r5_compared m_r5_compared pilesQ
  rw [okLen_of (by omega), Am.iff_true, List.nil_append, okLen_of (by omega), Am.iff_true]
  have hl : (c.2.2.1 ++ c.2.2.2.1).length ≤ 2000 := by rw [List.length_append]; omega
  generalize hP : c.2.2.1 ++ c.2.2.2.1 = P at hl
  have hol : ∀ {i : Nat}, i < P.length → ((ile (0 : Int) (i : Int)) && (ilt (i : Int) (olen P))) = true := fun {i} hi => by simp [ile, ilt, olen]; omega
  have third : loopT (fun (v19 : Int) kk21 => m_r5_compared_L2 b.1.1 b.1.2 b.2.1 b.2.2.1 b.2.2.2.1 b.2.2.2.2.1 b.2.2.2.2.2 c.2.1 P v19 (fun u20 => kk21 u20) (fun z14 => some z14) (fun _ => bindF (f_r5_Left c.2.2.1 c.2.2.2.1) fun r16 => bindF (f_r5_Left c.2.2.2.1 c.2.2.1) fun r17 => ifb (igt (ilen r16) (1 : Int)) (some (1 : Int)) (ifb (igt (ilen r17) (1 : Int)) (some (1 : Int)) (ck ((ilen r16) + (ilen r17)) fun n18 => ifb (ieq n18 (0 : Int)) (some (1 : Int)) (some (0 : Int)))))) (0 : Int) =
      some (if P.any (fun id => (awayP b id c.2.1).isSome) then 9 else if 1 < (leftP c.2.2.1 c.2.2.2.1).length then 1 else if 1 < (leftP c.2.2.2.1 c.2.2.1).length then 1 else if (leftP c.2.2.1 c.2.2.2.1).length + (leftP c.2.2.2.1 c.2.2.1).length = 0 then 1 else 0) := by
    refine Eq.trans (loop_any P (fun id => (awayP b id c.2.1).isSome) (fun _ => some 9) (some 9) (some (if 1 < (leftP c.2.2.1 c.2.2.2.1).length then 1 else if 1 < (leftP c.2.2.2.1 c.2.2.1).length then 1 else if (leftP c.2.2.1 c.2.2.2.1).length + (leftP c.2.2.2.1 c.2.2.1).length = 0 then 1 else 0)) (fun _ => rfl) (fun i a hi ha kn => ?_) (fun kn => ?_)) ?_
    · try dsimp only
      unfold m_r5_compared_L2
      rw [ifb_lt' hi, iff_of (hol hi), nget_toNat ha, RLent_ok (b := ((b.1.1, b.1.2), b.2.1, b.2.2.1, b.2.2.2.1, b.2.2.2.2.1, b.2.2.2.2.2)) (by simp only; omega), bindF_some, ck_succ hi (by omega)]
      have e : awayP ((b.1.1, b.1.2), b.2.1, b.2.2.1, b.2.2.2.1, b.2.2.2.2.1, b.2.2.2.2.2) a c.2.1 = awayP b a c.2.1 := rfl
      rw [e]
      cases awayP b a c.2.1 <;> rfl
    · try dsimp only
      unfold m_r5_compared_L2
      rw [ifb_ge]
      dsimp only
      have l1 := leftP_len c.2.2.1 c.2.2.2.1
      have l2 := leftP_len c.2.2.2.1 c.2.2.1
      rw [RLeft_ok (by omega) (by omega), bindF_some, RLeft_ok (by omega) (by omega), bindF_some]
      simp only [ilen_eq]
      by_cases q1 : 1 < (leftP c.2.2.1 c.2.2.2.1).length
      · rw [ifb_t (by simp [igt]; omega), if_pos q1]
      · rw [ifb_f (by simp [igt]; omega), if_neg q1]
        by_cases q2 : 1 < (leftP c.2.2.2.1 c.2.2.1).length
        · rw [ifb_t (by simp [igt]; omega), if_pos q2]
        · rw [ifb_f (by simp [igt]; omega), if_neg q2, ck_ok (by omega) (by omega)]
          by_cases q3 : (leftP c.2.2.1 c.2.2.2.1).length + (leftP c.2.2.2.1 c.2.2.1).length = 0
          · rw [ifb_t (by simp [ieq]; omega), if_pos q3]
          · rw [ifb_f (by simp [ieq]; omega), if_neg q3]
    · cases P.any _ <;> rfl
  have second : loopT (fun (v22 : Int) kk24 => m_r5_compared_L1 b.1.1 b.1.2 b.2.1 b.2.2.1 b.2.2.2.1 b.2.2.2.2.1 b.2.2.2.2.2 c.2.1 P v22 (fun u23 => kk24 u23) (fun z9 => some z9) (fun _ => loopT (fun (v19 : Int) kk21 => m_r5_compared_L2 b.1.1 b.1.2 b.2.1 b.2.2.1 b.2.2.2.1 b.2.2.2.2.1 b.2.2.2.2.2 c.2.1 P v19 (fun u20 => kk21 u20) (fun z14 => some z14) (fun _ => bindF (f_r5_Left c.2.2.1 c.2.2.2.1) fun r16 => bindF (f_r5_Left c.2.2.2.1 c.2.2.1) fun r17 => ifb (igt (ilen r16) (1 : Int)) (some (1 : Int)) (ifb (igt (ilen r17) (1 : Int)) (some (1 : Int)) (ck ((ilen r16) + (ilen r17)) fun n18 => ifb (ieq n18 (0 : Int)) (some (1 : Int)) (some (0 : Int)))))) (0 : Int))) (0 : Int) =
      some (if P.any (fun id => sinceP b id c.2.1 != 0) then 4 else if P.any (fun id => (awayP b id c.2.1).isSome) then 9 else if 1 < (leftP c.2.2.1 c.2.2.2.1).length then 1 else if 1 < (leftP c.2.2.2.1 c.2.2.1).length then 1 else if (leftP c.2.2.1 c.2.2.2.1).length + (leftP c.2.2.2.1 c.2.2.1).length = 0 then 1 else 0) := by
    rw [third]
    refine Eq.trans (loop_any P (fun id => sinceP b id c.2.1 != 0) (fun _ => some 4) (some 4) (some (if P.any (fun id => (awayP b id c.2.1).isSome) then 9 else if 1 < (leftP c.2.2.1 c.2.2.2.1).length then 1 else if 1 < (leftP c.2.2.2.1 c.2.2.1).length then 1 else if (leftP c.2.2.1 c.2.2.2.1).length + (leftP c.2.2.2.1 c.2.2.1).length = 0 then 1 else 0)) (fun _ => rfl) (fun i a hi ha kn => ?_) (fun kn => ?_)) ?_
    · try dsimp only
      unfold m_r5_compared_L1
      rw [ifb_lt' hi, iff_of (hol hi), nget_toNat ha, RSince_ok (b := ((b.1.1, b.1.2), b.2.1, b.2.2.1, b.2.2.2.1, b.2.2.2.2.1, b.2.2.2.2.2)) (by simp only; omega), bindF_some, ck_succ hi (by omega)]
      have e : sinceP ((b.1.1, b.1.2), b.2.1, b.2.2.1, b.2.2.2.1, b.2.2.2.2.1, b.2.2.2.2.2) a c.2.1 = sinceP b a c.2.1 := rfl
      rw [e, ifb_eq]
    · try dsimp only
      unfold m_r5_compared_L1
      rw [ifb_ge]
    · cases P.any (fun id => sinceP b id c.2.1 != 0) <;> rfl
  rw [second]
  refine Eq.trans (loop_any P (fun id => sinceP b id c.2.1 == 5) (fun _ => some 5) (some 5) (some (if P.any (fun id => sinceP b id c.2.1 != 0) then 4 else if P.any (fun id => (awayP b id c.2.1).isSome) then 9 else if 1 < (leftP c.2.2.1 c.2.2.2.1).length then 1 else if 1 < (leftP c.2.2.2.1 c.2.2.1).length then 1 else if (leftP c.2.2.1 c.2.2.2.1).length + (leftP c.2.2.2.1 c.2.2.1).length = 0 then 1 else 0)) (fun _ => rfl) (fun i a hi ha kn => ?_) (fun kn => ?_)) ?_
  · try dsimp only
    unfold m_r5_compared_L0
    rw [ifb_lt' hi, iff_of (hol hi), nget_toNat ha, RFind_ok (b := ((b.1.1, b.1.2), b.2.1, b.2.2.1, b.2.2.2.1, b.2.2.2.2.1, b.2.2.2.2.2)) (by simp only; omega), bindF_some, ck_succ hi (by omega), sinceP_five]
    try dsimp only
    cases List.findIdx? (fun g : Gauge => g.1 == a) b.2.1 with
    | none => rfl
    | some j =>
      have : ilt (j : Int) 0 = false := by simp [ilt]
      rw [ifb_f this]; rfl
  · try dsimp only
    unfold m_r5_compared_L0
    rw [ifb_ge]
  · cases P.any (fun id => sinceP b id c.2.1 == 5) <;> rfl
end Go.Proofs.ZzM
end

noncomputable section
namespace Go.Proofs.ZzM
open Go Go.Am
structure Pre (b : Book) : Prop where
  size : SizeOk b
  gauge : ∀ g ∈ b.2.1, gaugeP g = true
  cmp : ∀ c ∈ b.2.2.2.2.1, dayP c.2.1 = true ∧ (leftP c.2.2.1 c.2.2.2.1).length ≤ 1 ∧ (leftP c.2.2.2.1 c.2.2.1).length ≤ 1
  look : ∀ n ∈ b.2.2.2.2.2, dayP n.2 = true
theorem numsP_day {c : Cmp} (h : numsP c = true) : dayP c.2.1 = true := by
  have := ((numsP_iff c).1 h).2.1
  simp [dayP, inP, this.1, this.2]
theorem Good.pre {b : Book} (h : Good b) : Pre b :=
  ⟨h.size, h.gauge, fun c hc => ⟨numsP_day (h.nums hc), (h.lefts hc).1, (h.lefts hc).2.1⟩, fun n hn => (by have := (useE_zero h (h.looks n hn)).1; simp [dayP, inP, this.1, this.2])⟩
theorem oneP_eq {a b : List Int} (h : (leftP a b).length ≤ 1) {id : Int} (h0 : id ≠ 0) : oneP a b = id ↔ id ∈ a ∧ id ∉ b := by
  rw [← leftP_mem]
  unfold oneP
  cases hl : leftP a b with
  | nil =>
    simp only [List.head?_nil, Option.getD_none, List.not_mem_nil, iff_false]
    exact fun e => h0 e.symm
  | cons x t =>
    have : t = [] := by
      rw [hl] at h
      simp only [List.length_cons] at h
      exact List.length_eq_zero_iff.1 (by omega)
    subst this
    simp only [List.head?_cons, Option.getD_some, List.mem_singleton]
    exact eq_comm
def asksP (b : Book) (g : Gauge) (d : Int) : Bool :=
  g.2.1 == d || b.2.2.2.2.1.any (fun c => c.2.1 == d && (oneP c.2.2.1 c.2.2.2.1 == g.1 || oneP c.2.2.2.1 c.2.2.1 == g.1)) || b.2.2.2.2.2.any (fun n => n.1 == g.1 && n.2 == d)
theorem Rasks_ok {b : Book} (hs : SizeOk b) (g : Gauge) (d : Int) : f_r5_asks b g d = some (asksP b g d) := by
  have h1 := hs.compares
  have h2 := hs.looks
  unfold f_r5_asks m_r5_asks asksP
  cases hm : (g.2.1 == d) with
  | true =>
    have : ieq g.2.1 d = true := hm
    rw [ifb_t this]
    simp
  | false =>
    have : ieq g.2.1 d = false := hm
    rw [ifb_f this]
    have inner : loopT (fun (v14 : Int) kk16 => m_r5_asks_L1 d b.2.2.2.2.2 g.1 v14 (fun u15 => kk16 u15) (fun z12 => some z12) (fun _ => some false)) (0 : Int) = some (b.2.2.2.2.2.any (fun n => n.1 == g.1 && n.2 == d)) := by
      refine Eq.trans (loop_any b.2.2.2.2.2 (fun n => n.1 == g.1 && n.2 == d) (fun _ => some true) (some true) (some false) (fun _ => rfl) (fun i a hi ha kn => ?_) (fun kn => ?_)) ?_
      · try dsimp only
        unfold m_r5_asks_L1
        rw [ifb_lt' hi, iget_nat ha, iget_nat ha, ck_succ hi (by omega)]
        cases h1 : (a.1 == g.1) with
        | false => have : ieq a.1 g.1 = false := h1; simp [this]
        | true =>
          have : ieq a.1 g.1 = true := h1
          rw [this]
          cases h2 : (a.2 == d) with
          | false => have : ieq a.2 d = false := h2; simp [this]
          | true => have : ieq a.2 d = true := h2; simp [this]
      · try dsimp only
        unfold m_r5_asks_L1
        rw [ifb_ge]
      · cases b.2.2.2.2.2.any _ <;> rfl
    rw [inner]
    refine Eq.trans (loop_any b.2.2.2.2.1 (fun c => c.2.1 == d && (oneP c.2.2.1 c.2.2.2.1 == g.1 || oneP c.2.2.2.1 c.2.2.1 == g.1)) (fun _ => some true) (some true) (some (b.2.2.2.2.2.any (fun n => n.1 == g.1 && n.2 == d))) (fun _ => rfl) (fun i a hi ha kn => ?_) (fun kn => ?_)) ?_
    · have hp := hs.piles a (List.mem_of_getElem? ha)
      try dsimp only
      unfold m_r5_asks_L0
      rw [ifb_lt' hi, iget_nat ha, Rone_ok (by omega) (by omega), Rone_ok (by omega) (by omega), ck_succ hi (by omega)]
      simp only [bindF_some]
      cases h1 : (a.2.1 == d) with
      | false => have : ieq a.2.1 d = false := h1; simp [this]
      | true =>
        have : ieq a.2.1 d = true := h1
        rw [this]
        cases h2 : (oneP a.2.2.1 a.2.2.2.1 == g.1) with
        | true => have : ieq (oneP a.2.2.1 a.2.2.2.1) g.1 = true := h2; simp [this]
        | false =>
          have : ieq (oneP a.2.2.1 a.2.2.2.1) g.1 = false := h2
          rw [this]
          cases h3 : (oneP a.2.2.2.1 a.2.2.1 == g.1) with
          | true => have : ieq (oneP a.2.2.2.1 a.2.2.1) g.1 = true := h3; simp [this]
          | false => have : ieq (oneP a.2.2.2.1 a.2.2.1) g.1 = false := h3; simp [this]
    · try dsimp only
      unfold m_r5_asks_L0
      rw [ifb_ge]
    · cases b.2.2.2.2.1.any _ <;> rfl
theorem asksP_iff {b : Book} (h : Pre b) {g : Gauge} (hg : g ∈ b.2.1) {d : Int} : asksP b g d = true ↔ d ∈ daysP b g := by
  have hid : g.1 ≠ 0 := by
    have := ((gaugeP_iff g).1 (h.gauge g hg)).2.2.2.1
    omega
  rw [daysP_mem]
  unfold asksP
  simp only [Bool.or_eq_true, List.any_eq_true, Bool.and_eq_true, beq_iff_eq, or_assoc]
  refine or_congr eq_comm (or_congr ?_ Iff.rfl)
  constructor
  · rintro ⟨c, hc, e, h1⟩
    obtain ⟨_, l1, l2⟩ := h.cmp c hc
    refine ⟨c, hc, ?_, e⟩
    rw [oneP_eq l1 hid, oneP_eq l2 hid] at h1
    intro he
    rw [Bool.eq_iff_iff, List.contains_iff_mem, List.contains_iff_mem] at he
    rcases h1 with ⟨x, y⟩ | ⟨x, y⟩
    · exact y (he.1 x)
    · exact y (he.2 x)
  · rintro ⟨c, hc, h1, e⟩
    obtain ⟨_, l1, l2⟩ := h.cmp c hc
    refine ⟨c, hc, e, ?_⟩
    rw [oneP_eq l1 hid, oneP_eq l2 hid]
    by_cases ha : g.1 ∈ c.2.2.1
    · by_cases hb : g.1 ∈ c.2.2.2.1
      · exact absurd (by rw [Bool.eq_iff_iff, List.contains_iff_mem, List.contains_iff_mem]; exact ⟨fun _ => hb, fun _ => ha⟩) h1
      · exact .inl ⟨ha, hb⟩
    · by_cases hb : g.1 ∈ c.2.2.2.1
      · exact .inr ⟨hb, ha⟩
      · exact absurd (by rw [Bool.eq_iff_iff, List.contains_iff_mem, List.contains_iff_mem]; exact ⟨fun x => absurd x ha, fun x => absurd x hb⟩) h1
def nx (v : Int) (D : List Int) : Int := D.foldl (fun m d => if v < d then min m d else m) 20001
theorem nx_snoc (v : Int) (D : List Int) (d : Int) : nx v (D ++ [d]) = if v < d then min (nx v D) d else nx v D := by
  unfold nx
  rw [List.foldl_append]
  rfl
theorem nx_spec (v : Int) : ∀ D : List Int, nx v D ≤ 20001 ∧ (∀ d ∈ D, v < d → nx v D ≤ d) ∧ (nx v D = 20001 ∨ (nx v D ∈ D ∧ v < nx v D)) := by
  suffices H : ∀ (n : Nat) (D : List Int), D.length = n → nx v D ≤ 20001 ∧ (∀ d ∈ D, v < d → nx v D ≤ d) ∧ (nx v D = 20001 ∨ (nx v D ∈ D ∧ v < nx v D)) from fun D => H _ D rfl
  intro n
  induction n with
  | zero =>
    intro D hD
    rw [List.length_eq_zero_iff.1 hD]
    exact ⟨Int.le_refl _, by simp, .inl rfl⟩
  | succ n ih =>
    intro D' hD'
    obtain ⟨D, d, rfl⟩ : ∃ D d, D' = D ++ [d] := by
      rcases List.eq_nil_or_concat D' with rfl | ⟨L, b, rfl⟩
      · simp at hD'
      · exact ⟨L, b, by simp⟩
    obtain ⟨h1, h2, h3⟩ := ih D (by simpa using hD')
    rw [nx_snoc]
    by_cases hd : v < d
    · rw [if_pos hd]
      refine ⟨by omega, fun x hx hv => ?_, ?_⟩
      · rcases List.mem_append.1 hx with hx | hx
        · have := h2 x hx hv; omega
        · rw [List.mem_singleton] at hx; omega
      · rcases Int.le_total (nx v D) d with h | h
        · rw [Int.min_eq_left h]
          rcases h3 with h3 | h3
          · exact .inl h3
          · exact .inr ⟨by simp [h3.1], h3.2⟩
        · rw [Int.min_eq_right h]
          exact .inr ⟨by simp, hd⟩
    · rw [if_neg hd]
      refine ⟨h1, fun x hx hv => ?_, ?_⟩
      · rcases List.mem_append.1 hx with hx | hx
        · exact h2 x hx hv
        · rw [List.mem_singleton] at hx; omega
      · rcases h3 with h3 | h3
        · exact .inl h3
        · exact .inr ⟨by simp [h3.1], h3.2⟩
theorem nx_loop {D : List Int} (hD : D.length ≤ 1000000) (v : Int) (K : Int → Option (List (Int × Int))) :
    loopT (fun (v18 : Int × Int) kk21 => m_r5_Nodes_L5 v D v18.1 v18.2 (fun u19 u20 => kk21 (u19, u20)) K) ((20001 : Int), (0 : Int)) = K (nx v D) := by
  refine loop_inv (fun x : Int × Int => ∃ k : Nat, k ≤ D.length ∧ x = (nx v (D.take k), (k : Int))) (fun x => D.length - x.2.toNat) ?_ ⟨0, by omega, rfl⟩
  rintro x ⟨k, hk, rfl⟩
  rcases Nat.lt_or_ge k D.length with hlt | hge
  · refine .inr ⟨(nx v (D.take (k + 1)), ((k + 1 : Nat) : Int)), ⟨k + 1, hlt, rfl⟩, by simp only [Int.toNat_natCast]; omega, fun kn => ?_⟩
    have ha : D[k]? = some D[k] := List.getElem?_eq_getElem hlt
    unfold m_r5_Nodes_L5
    have ho : olen D = ((D.length : Nat) : Int) := rfl
    rw [ifb_lt' hlt, ho, iff_idx hlt, nget_toNat ha, take_succ ha, nx_snoc]
    by_cases h : v < D[k]
    · rw [ifb_t (by simpa [igt] using h), iff_idx hlt, nget_toNat ha, ck_succ hlt (by omega), if_pos h, imin_eq]
      simp
    · rw [ifb_f (by simpa [igt] using h), ck_succ hlt (by omega), if_neg h]
      simp
  · have : k = D.length := by omega
    subst this
    refine .inl fun kn => ?_
    unfold m_r5_Nodes_L5
    rw [ifb_ge, List.take_length]
def askR (b : Book) (g : Gauge) (D : List Int) (v : Int) : List Int := (setI D).filter fun d => decide (v < d) && asksP b g d
theorem askR_step {b : Book} {g : Gauge} {D : List Int} (hD : ∀ d ∈ D, d ≤ 20000) (v : Int) : askR b g D v = if nx v D < 20001 then (if asksP b g (nx v D) then nx v D :: askR b g D (nx v D) else askR b g D (nx v D)) else [] := by
  obtain ⟨h1, h2, h3⟩ := nx_spec v D
  refine asc_ext ((setI_lt D).sublist List.filter_sublist) ?_ fun x => ?_
  · split
    · split
      · rw [List.pairwise_cons]
        refine ⟨fun a ha => ?_, (setI_lt D).sublist List.filter_sublist⟩
        have := (List.mem_filter.1 ha).2
        simp at this
        omega
      · exact (setI_lt D).sublist List.filter_sublist
    · exact List.Pairwise.nil
  · have hm : ∀ v x, x ∈ askR b g D v ↔ x ∈ D ∧ v < x ∧ asksP b g x = true := by
      intro v x
      unfold askR
      rw [List.mem_filter, setI_mem]
      simp
    rw [hm]
    split
    · rename_i hlt
      have h4 : nx v D ∈ D ∧ v < nx v D := by
        rcases h3 with h3 | h3
        · omega
        · exact h3
      split
      · rename_i ha
        rw [List.mem_cons, hm]
        constructor
        · rintro ⟨a, c, e⟩
          have := h2 x a c
          rcases Int.lt_or_eq_of_le this with h | h
          · exact .inr ⟨a, h, e⟩
          · exact .inl h.symm
        · rintro (rfl | ⟨a, c, e⟩)
          · exact ⟨h4.1, h4.2, ha⟩
          · exact ⟨a, by omega, e⟩
      · rename_i ha
        rw [hm]
        constructor
        · rintro ⟨a, c, e⟩
          have := h2 x a c
          rcases Int.lt_or_eq_of_le this with h | h
          · exact ⟨a, h, e⟩
          · rw [← h] at e; exact absurd e ha
        · rintro ⟨a, c, e⟩
          exact ⟨a, by omega, e⟩
    · rename_i hge
      constructor
      · rintro ⟨a, c, e⟩
        have := h2 x a c
        have := hD x a
        omega
      · intro h; cases h
theorem askR_len {b : Book} {g : Gauge} {D : List Int} (v : Int) : (askR b g D v).length ≤ D.length :=
  Nat.le_trans (List.length_filter_le _ _) (setI_len D)
set_option maxHeartbeats 1000000 in
theorem day_loop {b : Book} (hs : SizeOk b) {i : Nat} {g : Gauge} (hg : b.2.1[i]? = some g) {D : List Int} (hl : D.length ≤ 1000000) (hD : ∀ d ∈ D, d ≤ 20000) {out : List (Int × Int)} (ho : out.length + D.length ≤ 1000000000) (K : List (Int × Int) → Option (List (Int × Int))) :
    loopT (fun (v24 : Int × List (Int × Int)) kk27 => m_r5_Nodes_L4 (i : Int) b.1.1 b.1.2 b.2.1 b.2.2.1 b.2.2.2.1 b.2.2.2.2.1 b.2.2.2.2.2 D v24.1 v24.2 (fun u25 u26 => kk27 (u25, u26)) K) ((-1 : Int), out) = K (out ++ (askR b g D (-1)).map fun d => ((g.1, d) : Int × Int)) := by
  refine loop_inv (fun x : Int × List (Int × Int) => x.2 ++ (askR b g D x.1).map (fun d => ((g.1, d) : Int × Int)) = out ++ (askR b g D (-1)).map fun d => ((g.1, d) : Int × Int)) (fun x => (20001 - x.1).toNat) ?_ rfl
  rintro ⟨v, o⟩ hI
  simp only at hI
  by_cases hv : v < 20001
  · obtain ⟨h1, h2, h3⟩ := nx_spec v D
    have hlt : v < nx v D := by
      rcases h3 with h3 | h3
      · omega
      · exact h3.2
    refine .inr ⟨(nx v D, if nx v D < 20001 ∧ asksP b g (nx v D) = true then o ++ [(g.1, nx v D)] else o), ?_, by simp only; omega, fun kn => ?_⟩
    · rw [← hI]
      simp only
      rw [askR_step hD v]
      by_cases ha : nx v D < 20001
      · rw [if_pos ha]
        cases hq : asksP b g (nx v D) with
        | true => rw [if_pos ⟨ha, rfl⟩, if_pos rfl]; simp
        | false => rw [if_neg (by simp), if_neg (by simp)]
      · rw [if_neg (by omega), if_neg ha]
        have : askR b g D (nx v D) = [] := by
          have e := askR_step (b := b) (g := g) hD (nx v D)
          rw [e, if_neg]
          obtain ⟨g1, g2, g3⟩ := nx_spec (nx v D) D
          rcases g3 with g3 | g3
          · omega
          · have := hD _ g3.1; omega
        rw [this]
    · unfold m_r5_Nodes_L4
      rw [ifb_t (by simpa [ilt] using hv)]
      refine Eq.trans (nx_loop hl v _) ?_
      dsimp only
      by_cases ha : nx v D < 20001
      · rw [ifb_t (by simpa [ilt] using ha), iget_nat hg, Rasks_ok (b := ((b.1.1, b.1.2), b.2.1, b.2.2.1, b.2.2.2.1, b.2.2.2.2.1, b.2.2.2.2.2)) ⟨hs.gauges, hs.uses, hs.loans, hs.compares, hs.looks, hs.piles⟩, bindF_some]
        have e : asksP ((b.1.1, b.1.2), b.2.1, b.2.2.1, b.2.2.2.1, b.2.2.2.2.1, b.2.2.2.2.2) g (nx v D) = asksP b g (nx v D) := rfl
        rw [e]
        cases hq : asksP b g (nx v D) with
        | true =>
          have hol : o.length ≤ 1000000000 := by
            have := congrArg List.length hI
            simp only [List.length_append, List.length_map] at this
            have := askR_len (b := b) (g := g) (D := D) (-1)
            omega
          rw [ifb_t rfl, iget_nat hg, okLen_of (by simp only [List.length_singleton]; omega), Am.iff_true, if_pos ⟨ha, rfl⟩]
        | false => rw [ifb_f rfl, if_neg (by simp)]
      · rw [ifb_f (by simpa [ilt] using ha), if_neg (by omega)]
  · refine .inl fun kn => ?_
    unfold m_r5_Nodes_L4
    rw [ifb_f (by simpa [ilt] using hv)]
    have : askR b g D v = [] := by
      rw [askR_step hD, if_neg]
      obtain ⟨g1, g2, g3⟩ := nx_spec v D
      rcases g3 with g3 | g3
      · omega
      · have := hD _ g3.1; omega
    rw [this] at hI
    simp only [List.map_nil, List.append_nil] at hI
    rw [hI]
def allDays (b : Book) : List Int := b.2.1.map (fun g => g.2.1) ++ b.2.2.2.2.1.map (fun c => c.2.1) ++ b.2.2.2.2.2.map fun n => n.2
theorem allDays_len {b : Book} (hs : SizeOk b) : (allDays b).length ≤ 3000 := by
  have h1 := hs.gauges; have h2 := hs.compares; have h3 := hs.looks
  simp only [allDays, List.length_append, List.length_map]
  omega
theorem Pre.days {b : Book} (h : Pre b) : ∀ d ∈ allDays b, 0 ≤ d ∧ d ≤ 20000 := by
  intro d hd
  simp only [allDays, List.mem_append, List.mem_map] at hd
  rcases hd with (⟨g, hg, rfl⟩ | ⟨c, hc, rfl⟩) | ⟨n, hn, rfl⟩
  · have := ((gaugeP_iff g).1 (h.gauge g hg)).2.2.2.2.1
    omega
  · have := (h.cmp c hc).1
    simp only [dayP, inP, Bool.and_eq_true, decide_eq_true_eq] at this
    exact this
  · have := h.look n hn
    simp only [dayP, inP, Bool.and_eq_true, decide_eq_true_eq] at this
    exact this
theorem askR_days {b : Book} (h : Pre b) {g : Gauge} (hg : g ∈ b.2.1) : askR b g (allDays b) (-1) = daysP b g := by
  refine asc_ext ((setI_lt _).sublist List.filter_sublist) (days_lt b g) fun x => ?_
  unfold askR
  rw [List.mem_filter, setI_mem, Bool.and_eq_true, asksP_iff h hg, decide_eq_true_eq]
  constructor
  · exact fun hx => hx.2.2
  · intro hx
    have hm : x ∈ allDays b := by
      simp only [allDays, List.mem_append, List.mem_map]
      rcases daysP_mem.1 hx with e | ⟨c, hc, _, e⟩ | ⟨n, hn, _, e⟩
      · exact .inl (.inl ⟨g, hg, e.symm⟩)
      · exact .inl (.inr ⟨c, hc, e⟩)
      · exact .inr ⟨n, hn, e⟩
    have := h.days x hm
    exact ⟨hm, by omega, hx⟩
theorem map_loop {α : Type} (f : α → Int) (l : List α) (s : List Int) (i : Nat) {a : α} (ha : l[i]? = some a) : s ++ (l.take (i + 1)).map f = (s ++ (l.take i).map f) ++ [f a] := by
  rw [take_succ ha, List.map_append, List.append_assoc]; rfl
theorem RNodes_ok {b : Book} (h : Pre b) : f_r5_Nodes b = some (nodesP b) := by
  have h1 := h.size.gauges; have h2 := h.size.compares; have h3 := h.size.looks
  have hl := allDays_len h.size
  unfold f_r5_Nodes m_r5_Nodes
  refine loop_acc b.2.1 (fun i => (b.2.1.take i).map (fun g => g.2.1)) _ rfl (fun i a hi ha kn => ?_) (fun kn => ?_)
  · try dsimp only
    unfold m_r5_Nodes_L0
    have := map_loop (fun g : Gauge => g.2.1) b.2.1 [] i ha
    simp only [List.nil_append] at this
    rw [ifb_lt' hi, iget_nat ha, okLen_of (by simp only [List.length_map, List.length_take, List.length_singleton]; omega), Am.iff_true, ck_succ hi (by omega), this]
  · try dsimp only
    unfold m_r5_Nodes_L0
    rw [ifb_ge, List.take_length]
    dsimp only
    refine loop_acc b.2.2.2.2.1 (fun i => b.2.1.map (fun g => g.2.1) ++ (b.2.2.2.2.1.take i).map (fun c => c.2.1)) _ (by simp) (fun i a hi ha kn => ?_) (fun kn => ?_)
    · try dsimp only
      unfold m_r5_Nodes_L1
      rw [ifb_lt' hi, iget_nat ha, okLen_of (by simp only [List.length_append, List.length_map, List.length_take, List.length_singleton]; omega), Am.iff_true, ck_succ hi (by omega), map_loop (fun c : Cmp => c.2.1) b.2.2.2.2.1 _ i ha]
    · try dsimp only
      unfold m_r5_Nodes_L1
      rw [ifb_ge, List.take_length]
      dsimp only
      refine loop_acc b.2.2.2.2.2 (fun i => b.2.1.map (fun g => g.2.1) ++ b.2.2.2.2.1.map (fun c => c.2.1) ++ (b.2.2.2.2.2.take i).map (fun n => n.2)) _ (by simp) (fun i a hi ha kn => ?_) (fun kn => ?_)
      · try dsimp only
        unfold m_r5_Nodes_L2
        rw [ifb_lt' hi, iget_nat ha, okLen_of (by simp only [List.length_append, List.length_map, List.length_take, List.length_singleton]; omega), Am.iff_true, ck_succ hi (by omega), map_loop (fun n : Int × Int => n.2) b.2.2.2.2.2 _ i ha]
      · try dsimp only
        unfold m_r5_Nodes_L2
        rw [ifb_ge, List.take_length]
        dsimp only
        rw [show b.2.1.map (fun g => g.2.1) ++ b.2.2.2.2.1.map (fun c => c.2.1) ++ b.2.2.2.2.2.map (fun n => n.2) = allDays b from rfl]
        refine loop_acc b.2.1 (fun i => (b.2.1.take i).flatMap fun g => (daysP b g).map fun d => ((g.1, d) : Int × Int)) _ rfl (fun i g hi hg kn => ?_) (fun kn => ?_)
        · try dsimp only
          unfold m_r5_Nodes_L3
          rw [ifb_lt' hi]
          have hlen : ((b.2.1.take i).flatMap fun g => (daysP b g).map fun d => ((g.1, d) : Int × Int)).length ≤ 2001000 := by
            have := flatMap_len (fun g : Gauge => (daysP b g).map fun d => ((g.1, d) : Int × Int)) 2001 (fun g => by rw [List.length_map]; exact daysP_len h.size g) (b.2.1.take i)
            rw [List.length_take] at this
            have : min i b.2.1.length * 2001 ≤ 1000 * 2001 := Nat.mul_le_mul_right _ (by omega)
            omega
          refine Eq.trans (day_loop h.size hg (by omega) (fun d hd => (h.days d hd).2) (by omega) _) ?_
          rw [ck_succ hi (by omega), askR_days h (List.mem_of_getElem? hg), take_succ hg, List.flatMap_append]
          simp
        · try dsimp only
          unfold m_r5_Nodes_L3
          rw [ifb_ge, List.take_length]
          rfl
end Go.Proofs.ZzM
end

noncomputable section
namespace Go.Proofs.ZzM
open Go Go.Am
theorem Rlowest_ok {n d : Int} (hd : 0 < d) (hn : n.natAbs ≤ 2147483647) (hd2 : d ≤ 2147483647) : f_r1_lowest n d = some (redP n d, 0) := by
  obtain ⟨g, h0, hg, h1, h2⟩ := red_spec (n := n) hd
  have hr := (ratP_iff _).1 (red_rat hd hn hd2)
  have z : dieq d 0 = false := by simp [dieq]; omega
  have zg : dieq (g : Int) 0 = false := by simp [dieq]; omega
  unfold f_r1_lowest m_r1_lowest
  by_cases hn0 : n = 0
  · subst hn0
    have e : redP 0 d = (0, 1) := by
      unfold redP
      have : (Nat.gcd (0 : Int).natAbs d.natAbs : Int) = d := by simp; omega
      rw [this, Int.ediv_self (by omega)]
      simp
    rw [ifb_f (by rfl), ifb_f z, ck_ok (by simp) (by simp), ifb_f z, Int.tdiv_self (by omega), ck_ok (by omega) (by omega), Int.zero_tdiv, e]
    rfl
  · rw [ifb_t (by simpa [ine] using hn0), ifb_f z]
    have a0 : (Int.tmod n d).natAbs = n.natAbs % d.natAbs := Int.natAbs_tmod n d
    have hlt := Nat.mod_lt n.natAbs (show 0 < d.natAbs by omega)
    rw [RAbs_ok ⟨by omega, by omega⟩, bindF_some]
    have ed : d = ((d.natAbs : Nat) : Int) := by omega
    have eg : f_r1_Gcd ((Int.tmod n d).natAbs : Int) d = some (g : Int) := by
      have := RGcd_ok (Int.tmod n d).natAbs d.natAbs
      rw [← ed] at this
      rw [this, a0, hg]
      congr 2
      rw [Nat.gcd_comm n.natAbs, Nat.gcd_rec d.natAbs n.natAbs]
    rw [eg, bindF_some, ifb_f zg]
    have q1 : Int.tdiv n (g : Int) = (redP n d).1 := by
      conv => lhs; rw [h1]
      exact Int.mul_tdiv_cancel _ (by omega)
    have q2 : Int.tdiv d (g : Int) = (redP n d).2 := by
      conv => lhs; rw [h2]
      exact Int.mul_tdiv_cancel _ (by omega)
    rw [q1, q2, ck_ok (by omega) (by omega), ifb_f zg, ck_ok (by omega) (by omega), ifb_f (by simp [igt]; omega), ifb_f (by simp [ilt]; omega), ifb_f (by simp [igt]; omega)]
theorem RSub_ok {x y : Int × Int} (hx : Rat' x 1000 100) (hy : Rat' y 1000 100) : f_r1_Sub x y = some (subP x y, 0) := by
  obtain ⟨b1, b2, b3⟩ := sub_bounds hx hy
  have h1 := mulBound hx.num (show -100 ≤ y.2 ∧ y.2 ≤ 100 from ⟨by have := hy.pos; omega, hy.den⟩)
  have h2 := mulBound hy.num (show -100 ≤ x.2 ∧ x.2 ≤ 100 from ⟨by have := hx.pos; omega, hx.den⟩)
  have h3 := hy.num
  unfold f_r1_Sub m_r1_Sub f_r1_Neg m_r1_Neg f_r1_Add m_r1_Add
  rw [ck_ok (by omega) (by omega), bindF_some]
  dsimp only
  have e : (0 - y.1) * x.2 = -(y.1 * x.2) := by rw [Int.zero_sub, Int.neg_mul]
  rw [ck_ok (by omega) (by omega), e, ck_ok (by omega) (by omega), ck_ok (by omega) (by omega), ck_ok (by omega) (by omega)]
  have e2 : x.1 * y.2 + -(y.1 * x.2) = x.1 * y.2 - y.1 * x.2 := by omega
  rw [e2, Rlowest_ok b2 (by omega) (by omega), bindF_some, bindF_some]
  rfl
theorem RMul_ok {k : Int × Int} (hk : Rat' k 200000 10000) {n : Int} (hn : -10000 ≤ n ∧ n ≤ 10000) : f_r1_Mul (n, 1) k = some (mulP k n, 0) := by
  have b := mul_bounds hk hn
  have p := hk.pos
  have q := hk.den
  unfold f_r1_Mul m_r1_Mul
  have e : n * k.1 = k.1 * n := Int.mul_comm _ _
  dsimp only
  rw [e, Int.one_mul, ck_ok (by omega) (by omega), ck_ok (by omega) (by omega), Rlowest_ok (by omega) (by omega) (by omega), bindF_some]
  rfl
theorem RScale_ok {k : Int × Int} (hk : Rat' k 200000 10000) {heat : Int × Int} (hh : spanP heat (-10000) 10000 = true) : f_r1_Scale ((heat.1, 1), (heat.2, 1)) k = some (overP k heat, 0) := by
  simp only [spanP, Bool.and_eq_true, decide_eq_true_eq] at hh
  have hp := hk.pos
  rw [over_scale (by omega) hh.2.1]
  unfold f_r1_Scale m_r1_Scale f_r1_both m_r1_both
  dsimp only
  rw [RMul_ok hk ⟨by omega, by omega⟩, RMul_ok hk ⟨by omega, by omega⟩]
  by_cases hn : k.1 < 0
  · rw [ifb_t (by simpa [ilt] using hn), if_pos hn]
    rfl
  · rw [ifb_f (by simpa [ilt] using hn), if_neg hn]
    rfl
theorem Rfloor_ok {r : Int × Int} (h : ratP r = true) : f_r1_Floor r = some (r.1 / r.2) := by
  have := (ratP_iff r).1 h
  have e := floor_ok (n := r.1) (d := r.2) (by omega) (by omega)
  unfold f_e_floor m_e_floor at e
  unfold f_r1_Floor m_r1_Floor f_r1_down m_r1_down
  rw [e]
  rfl
theorem Rceil_ok {r : Int × Int} (h : ratP r = true) : f_r1_Ceil r = some (ceilP r) := by
  have hr := (ratP_iff r).1 h
  unfold f_r1_Ceil m_r1_Ceil f_r1_up m_r1_up
  have z : dieq r.2 0 = false := by simp [dieq]; omega
  have t := Int.mul_tdiv_add_tmod r.1 r.2
  have b1 : -4000000000 ≤ Int.tdiv r.1 r.2 ∧ Int.tdiv r.1 r.2 ≤ 4000000000 := by
    have := Int.natAbs_tdiv_le_natAbs r.1 r.2
    omega
  have h5 : -r.2 < Int.tmod r.1 r.2 ∧ Int.tmod r.1 r.2 < r.2 := by
    have h6 := Int.natAbs_tmod r.1 r.2
    have h7 := Nat.mod_lt r.1.natAbs (show 0 < r.2.natAbs by omega)
    omega
  rw [ifb_f z, ck_ok (by omega) (by omega), ifb_f z, ifb_eq]
  unfold ceilP
  by_cases hp : 0 < Int.tmod r.1 r.2
  · rw [if_pos (by simpa [igt] using hp), ck_ok (by omega) (by omega), bindF_some]
    congr 1
    have : -r.1 / r.2 = -(Int.tdiv r.1 r.2) - 1 := by
      refine (Int.ediv_eq_iff_of_pos (by omega)).2 ⟨?_, ?_⟩
      · rw [Int.sub_mul, Int.neg_mul, Int.mul_comm (Int.tdiv r.1 r.2)]; omega
      · rw [Int.sub_mul, Int.neg_mul, Int.mul_comm (Int.tdiv r.1 r.2)]; omega
    omega
  · rw [if_neg (by simpa [igt] using hp), bindF_some]
    congr 1
    have : -r.1 / r.2 = -(Int.tdiv r.1 r.2) := by
      refine (Int.ediv_eq_iff_of_pos (by omega)).2 ⟨?_, ?_⟩
      · rw [Int.neg_mul, Int.mul_comm (Int.tdiv r.1 r.2)]; omega
      · rw [Int.neg_mul, Int.mul_comm (Int.tdiv r.1 r.2)]; omega
    omega
end Go.Proofs.ZzM
end

noncomputable section
namespace Go.Proofs.ZzM
open Go Go.Am
structure CmpIn (b : Book) (c : Cmp) : Prop where
  ok : CmpOk b c
  ids : b.2.1.Pairwise fun a b => a.1 < b.1
  pile : ∀ x ∈ c.2.2.1 ++ c.2.2.2.1, ∃ g, gaugeOf b x = some g
theorem Good.cmpIn {b : Book} (h : Good b) {c : Cmp} (hc : c ∈ b.2.2.2.2.1) : CmpIn b c := ⟨h.cmp hc, h.ids, fun x hx => by obtain ⟨⟨g, hg, _⟩, _⟩ := h.pile hc hx; exact ⟨g, hg⟩⟩
theorem CmpOk.ne {b : Book} {c : Cmp} (h : CmpOk b c) : ∀ x ∈ c.2.2.1 ++ c.2.2.2.1, x ≠ 0 := by
  intro x hx
  have hn := (numsP_iff c).1 h.nums
  have h1 := ((pileP_iff _).1 hn.2.2.2.2.2.1).1
  have h2 := ((pileP_iff _).1 hn.2.2.2.2.2.2).1
  rcases List.mem_append.1 hx with hx | hx
  · have := h1 x hx; omega
  · have := h2 x hx; omega
theorem Rgrows_ok {b : Book} (hs : SizeOk b) (hi : b.2.1.Pairwise fun a b => a.1 < b.1) {p q : List Int} (hx : ∀ x ∈ p, x ≠ 0 ∧ ∃ g, gaugeOf b x = some g) : f_r5_grows b (oneP p q) = some (rateP (shelf b) (leftP p q)) := by
  have h1 := hs.gauges
  unfold f_r5_grows m_r5_grows
  cases hl : leftP p q with
  | nil =>
    have : oneP p q = 0 := by unfold oneP; rw [hl]; rfl
    rw [this]
    rfl
  | cons x t =>
    have e : oneP p q = x := by unfold oneP; rw [hl]; rfl
    have hm : x ∈ p := (leftP_mem.1 (show x ∈ leftP p q by rw [hl]; simp)).1
    obtain ⟨h0, g, hg⟩ := hx x hm
    rw [e, ifb_f (by simpa [ieq] using h0), RFind_ok (by omega), bindF_some]
    rcases find_gauge (b := b) (id := x) with ⟨j, g', h2, h3, h4⟩ | ⟨h2, h3⟩
    · rw [h2]
      try dsimp only
      rw [iget_nat h3]
      unfold rateP
      dsimp only
      rw [mget_shelf hi, h4]
    · rw [h3] at hg; cases hg
theorem RGrowth_ok {b : Book} (hs : SizeOk b) {c : Cmp} (h : CmpIn b c) : f_r5_Growth b c = some (growthP b c) := by
  have hn := (numsP_iff c).1 h.ok.nums
  have ha := pileP_len hn.2.2.2.2.2.1
  have hb := pileP_len hn.2.2.2.2.2.2
  have hA : ∀ x ∈ c.2.2.1, x ≠ 0 ∧ ∃ g, gaugeOf b x = some g := fun x hx => ⟨h.ok.ne x (by simp [hx]), h.pile x (by simp [hx])⟩
  have hB : ∀ x ∈ c.2.2.2.1, x ≠ 0 ∧ ∃ g, gaugeOf b x = some g := fun x hx => ⟨h.ok.ne x (by simp [hx]), h.pile x (by simp [hx])⟩
  unfold f_r5_Growth m_r5_Growth
  rw [Rone_ok (by omega) (by omega), bindF_some, Rgrows_ok hs h.ids hA, bindF_some, Rone_ok (by omega) (by omega), bindF_some, Rgrows_ok hs h.ids hB, bindF_some, RSub_ok h.ok.r1 h.ok.r2, bindF_some]
  try dsimp only
  rw [RScale_ok (heat := c.2.2.2.2.2.2) (sub_rat h.ok.r1 h.ok.r2) hn.2.2.2.2.1, bindF_some]
  rfl
theorem RFilms_ok {b : Book} {c : Cmp} (hA : c.2.2.1.length ≤ 1000) (hB : c.2.2.2.1.length ≤ 1000) (h1 : 0 ≤ b.1.1) (h2 : b.1.1 ≤ 1000000) (h3 : 0 ≤ b.1.2) (h4 : b.1.2 ≤ 1000000) : f_r5_Films b c = some (filmsP b c) := by
  unfold f_r5_Films m_r5_Films filmsP
  have e : ∀ n : Nat, imax 0 ((n : Int) - 1) = ((n - 1 : Nat) : Int) := by
    intro n
    unfold imax
    split <;> omega
  have bd : ∀ (n : Nat) (x : Int), n ≤ 1000 → 0 ≤ x → x ≤ 1000000 → 0 ≤ ((n - 1 : Nat) : Int) * x ∧ ((n - 1 : Nat) : Int) * x ≤ 1000000000 := by
    intro n x hn h0 hx
    refine ⟨Int.mul_nonneg (by omega) h0, ?_⟩
    have := Int.mul_le_mul (show ((n - 1 : Nat) : Int) ≤ 1000 by omega) hx h0 (by omega)
    omega
  have b1 := bd _ _ hA h1 h2
  have b2 := bd _ _ hA h3 h4
  have b3 := bd _ _ hB h1 h2
  have b4 := bd _ _ hB h3 h4
  simp only [ilen_eq]
  rw [ck_ok (by omega) (by omega), ck_ok (by omega) (by omega)]
  simp only [e]
  rw [ck_ok (by omega) (by omega), ck_ok (by omega) (by omega), ck_ok (by omega) (by omega), ck_ok (by omega) (by omega), ck_ok (by omega) (by omega), ck_ok (by omega) (by omega)]
theorem RSays_ok {b : Book} (hs : SizeOk b) (hf : 0 ≤ b.1.1 ∧ b.1.1 ≤ b.1.2 ∧ b.1.2 ≤ 1000000) {c : Cmp} (h : CmpIn b c) : f_r5_Says b c = some (saysP b c) := by
  have hn := (numsP_iff c).1 h.ok.nums
  have ha := pileP_len hn.2.2.2.2.2.1
  have hb := pileP_len hn.2.2.2.2.2.2
  obtain ⟨q1, q2, b1, b2, b3⟩ := shown_bounds hf h.ok
  have c1 := ceil_bound q1
  have c2 := floor_bound q2
  have fb := films_bound (b := b) (c := c) (by omega) (by omega) (by omega) (by omega) (by omega) (by omega)
  have hd := hn.2.2.1
  unfold f_r5_Says m_r5_Says saysP
  rw [RGrowth_ok hs h, bindF_some, RFilms_ok (by omega) (by omega) (by omega) (by omega) (by omega) (by omega), bindF_some, Rfloor_ok q2.rat, Rceil_ok q1.rat]
  simp only [bindF_some]
  rw [ck_ok (by omega) (by omega), ck_ok (by omega) (by omega), ck_ok (by omega) (by omega), ck_ok (by omega) (by omega), ck_ok (by omega) (by omega), ck_ok (by omega) (by omega)]
end Go.Proofs.ZzM
end

noncomputable section
namespace Go.Proofs.ZzM
open Go Go.Am
section
variable {b : Book}
theorem RLoss_ok (h : Good b) {id : Int} {g : Gauge} (hg : gaugeOf b id = some g) {f t : Int} (hf : 0 ≤ f ∧ f ≤ 100000) (ht : t ≤ 100000) : f_r5_Loss b id f t = some (lossP b g f t) := by
  have hG := h.nG
  have hU := h.nU
  have hL := h.nL
  obtain ⟨hgm, hid⟩ := gaugeOf_some hg
  unfold f_r5_Loss m_r5_Loss
  rw [RFind_ok (by omega), bindF_some]
  rcases find_gauge (b := b) (id := id) with ⟨j, g', h2, h3, h4⟩ | ⟨h2, h3⟩
  · rw [h2]
    have : g' = g := by rw [hg] at h4; exact (Option.some.inj h4).symm
    subst this
    try dsimp only
    rw [iget_nat h3]
    refine loop_inv (fun x : Int × Int => f ≤ x.2 ∧ (x.2 ≤ t ∨ x.2 = f) ∧ x.1 = lossP b g' f x.2) (fun x => (t - x.2).toNat) ?_ ⟨Int.le_refl _, .inr rfl, (loss_none g' (Int.le_refl _)).symm⟩
    rintro ⟨s, d⟩ ⟨hfd, hdt, hs⟩
    simp only at hfd hdt hs
    subst hs
    by_cases hd : d < t
    · refine .inr ⟨(lossP b g' f (d + 1), d + 1), ⟨by simp only; omega, .inl (by simp only; omega), rfl⟩, by simp only; omega, fun kn => ?_⟩
      have e := loss_step h g' hfd
      have lb := lossP_bound h hgm (f := f) (t := d) hf.1
      have lb2 := lossP_bound h hgm (f := f) (t := d + 1) hf.1
      unfold m_r5_Loss_L0
      rw [ifb_t (by simpa [ilt] using hd), RLent_ok (b := ((b.1.1, b.1.2), b.2.1, b.2.2.1, b.2.2.2.1, b.2.2.2.2.1, b.2.2.2.2.2)) (by simp only; omega), bindF_some]
      have e1 : awayP ((b.1.1, b.1.2), b.2.1, b.2.2.1, b.2.2.2.1, b.2.2.2.2.1, b.2.2.2.2.2) id d = awayP b id d := rfl
      rw [e1]
      unfold dayLoss at e
      rw [hid] at e
      cases ha : awayP b id d with
      | some l =>
        rw [ha] at e
        simp only at e
        rw [ifb_t rfl]
        try dsimp only
        rw [← e, ck_ok (by omega) (by omega), ck_ok (by omega) (by omega)]
      | none =>
        rw [ha] at e
        simp only at e
        rw [ifb_f rfl, RUsed_ok (b := ((b.1.1, b.1.2), b.2.1, b.2.2.1, b.2.2.2.1, b.2.2.2.2.1, b.2.2.2.2.2)) (by simp only; omega), bindF_some]
        have e2 : usedP ((b.1.1, b.1.2), b.2.1, b.2.2.1, b.2.2.2.1, b.2.2.2.2.1, b.2.2.2.2.2) id d = usedP b id d := rfl
        rw [e2]
        cases hu : usedP b id d with
        | true =>
          rw [hu, if_pos rfl] at e
          rw [ifb_t rfl]
          try dsimp only
          rw [← e, ck_ok (by omega) (by omega), ck_ok (by omega) (by omega)]
        | false =>
          rw [hu, if_neg (by simp)] at e
          rw [ifb_f rfl, ck_ok (by omega) (by omega), e, Int.add_zero]
    · refine .inl fun kn => ?_
      unfold m_r5_Loss_L0
      rw [ifb_f (by simpa [ilt] using hd)]
      have : lossP b g' f d = lossP b g' f t := by
        rcases Int.lt_or_le t f with hlt | hge
        · have : d = f := by omega
          rw [this, loss_none g' (Int.le_refl _), loss_none g' (by omega)]
        · have : d = t := by omega
          rw [this]
      rw [this]
  · rw [h3] at hg; cases hg
end
end Go.Proofs.ZzM
end

noncomputable section
namespace Go.Proofs.ZzM
open Go Go.Am
def idxP (b : Book) (x d : Int) : Int := match nodeIdx (nodesP b) x d with | some j => (j : Int) + 1 | none => 0
theorem RIndex_ok {b : Book} (h : Pre b) (n : Int × Int) : f_r5_Index b n = some (idxP b n.1 n.2) := by
  have hl := nodesP_len h.size
  unfold f_r5_Index m_r5_Index
  rw [RNodes_ok h, bindF_some]
  refine Eq.trans (loop_find (nodesP b) (fun m => decide (n.1 = m.1) && decide (n.2 = m.2)) (fun z => some (z + 1)) (some 0) (fun i a hi ha kn => ?_) (fun kn => ?_)) ?_
  · try dsimp only
    unfold m_r5_Index_L0
    rw [ifb_lt' hi, iget_nat ha, ck_succ hi (by omega), ck_succ hi (by omega), ifb_eq, Bool.and_true]
    have e : (dieq a.1 n.1 && dieq a.2 n.2) = (decide (n.1 = a.1) && decide (n.2 = a.2)) := by
      rw [Bool.eq_iff_iff]
      simp only [dieq, Bool.and_eq_true, decide_eq_true_eq]
      exact and_congr eq_comm eq_comm
    rw [e]
  · try dsimp only
    unfold m_r5_Index_L0
    rw [ifb_ge]
  · unfold idxP nodeIdx
    cases List.findIdx? (fun m => decide (n.1 = m.1) && decide (n.2 = m.2)) (nodesP b) <;> rfl
theorem idx_one {b : Book} (h : Pre b) (p q : List Int) (d : Int) : idxP b (oneP p q) d = atP (nodesP b) (leftP p q) d := by
  unfold idxP atP oneP
  cases hl : leftP p q with
  | nil =>
    simp only [List.head?_nil, Option.getD_none]
    have : nodeIdx (nodesP b) 0 d = none := by
      unfold nodeIdx
      rw [List.findIdx?_eq_none_iff]
      intro n hn
      obtain ⟨g, hg, hn⟩ := List.mem_flatMap.1 hn
      obtain ⟨e, _, rfl⟩ := List.mem_map.1 hn
      have := ((gaugeP_iff g).1 (h.gauge g hg)).2.2.2.1
      have : ¬ ((0 : Int) = g.1) := by omega
      simp [this]
    rw [this]
  | cons x t => rfl
section
variable {b : Book}
theorem node_at' {k : Nat} (hk : k < (nodesP b).length) : ∃ (i : Nat) (g : Gauge) (j : Nat) (d : Int), b.2.1[i]? = some g ∧ (daysP b g)[j]? = some d ∧ k = off b i + j ∧ (nodesP b)[k]? = some (g.1, d) := by
  obtain ⟨i, g, j, h1, h2, h3⟩ := off_find (b := b) b.2.1.length (Nat.le_refl _) k (by rw [off_all]; exact hk)
  have hd : (daysP b g)[j]? = some (daysP b g)[j] := List.getElem?_eq_getElem h2
  exact ⟨i, g, j, _, h1, hd, h3, by rw [h3]; exact node_get h1 hd⟩
theorem same_gauge (h : Good b) {i j : Nat} {g g' : Gauge} (hi : b.2.1[i]? = some g) (hj : b.2.1[j]? = some g') (he : g.1 = g'.1) : i = j ∧ g = g' := by
  obtain ⟨h1, rfl⟩ := List.getElem?_eq_some_iff.1 hi
  obtain ⟨h2, rfl⟩ := List.getElem?_eq_some_iff.1 hj
  have hp := List.pairwise_iff_getElem.1 h.ids
  rcases Nat.lt_trichotomy i j with hlt | rfl | hlt
  · have := hp i j h1 h2 hlt; omega
  · exact ⟨rfl, rfl⟩
  · have := hp j i h2 h1 hlt; omega
def gLinks (b : Book) (i : Nat) (g : Gauge) (k : Nat) : List Lk :=
  if k ≤ off b i then [] else [(0, (off b i : Int) + 1, g.2.2.1 + g.2.2.2.1.2), ((off b i : Int) + 1, 0, -(g.2.2.1 + g.2.2.2.1.1))] ++
    (List.range (min (k - off b i - 1) ((daysP b g).length - 1))).flatMap fun (k : Nat) => [((off b i : Int) + 1 + k, (off b i : Int) + 1 + k + 1, 0), ((off b i : Int) + 1 + k + 1, (off b i : Int) + 1 + k, lossP b g ((daysP b g)[k]?.getD 0) ((daysP b g)[k + 1]?.getD 0))]
def gSources (b : Book) (i : Nat) (g : Gauge) (k : Nat) : List (Int × Int) :=
  if k ≤ off b i then [] else [(1, (i : Int)), (1, (i : Int))] ++ (List.range (min (k - off b i - 1) ((daysP b g).length - 1))).flatMap fun _ => [(2, (i : Int)), (2, (i : Int))]
theorem gLinks_all (h : Good b) {i : Nat} {g : Gauge} (hg : b.2.1[i]? = some g) : gLinks b i g (nodesP b).length = gaugeLinks b g ∧ gSources b i g (nodesP b).length = gaugeSources b i g := by
  have ho := off_len h hg
  have hp := List.length_pos_of_mem (daysP_ne (b := b) g)
  have e : min ((nodesP b).length - off b i - 1) ((daysP b g).length - 1) = (daysP b g).length - 1 := by omega
  unfold gLinks gSources gaugeLinks gaugeSources
  rw [if_neg (by omega), if_neg (by omega), e, at_gauge h hg]
  exact ⟨rfl, rfl⟩
theorem gLinks_other {i : Nat} {g : Gauge} {k : Nat} (hk : k < off b i ∨ off b i + (daysP b g).length ≤ k) (hp : 0 < (daysP b g).length) : gLinks b i g (k + 1) = gLinks b i g k ∧ gSources b i g (k + 1) = gSources b i g k := by
  unfold gLinks gSources
  rcases hk with hk | hk
  · rw [if_pos (by omega), if_pos (by omega), if_pos (by omega), if_pos (by omega)]
    exact ⟨rfl, rfl⟩
  · have e : min (k + 1 - off b i - 1) ((daysP b g).length - 1) = min (k - off b i - 1) ((daysP b g).length - 1) := by omega
    rw [if_neg (by omega), if_neg (by omega), if_neg (by omega), if_neg (by omega), e]
    exact ⟨rfl, rfl⟩
theorem gLinks_first {i : Nat} {g : Gauge} : gLinks b i g (off b i + 1) = gLinks b i g (off b i) ++ [(0, (off b i : Int) + 1, g.2.2.1 + g.2.2.2.1.2), ((off b i : Int) + 1, 0, -(g.2.2.1 + g.2.2.2.1.1))] ∧ gSources b i g (off b i + 1) = gSources b i g (off b i) ++ [(1, (i : Int)), (1, (i : Int))] := by
  unfold gLinks gSources
  rw [if_neg (by omega), if_pos (Nat.le_refl _), if_neg (by omega), if_pos (Nat.le_refl _), show off b i + 1 - off b i - 1 = 0 by omega, Nat.zero_min]
  exact ⟨by simp, by simp⟩
theorem gLinks_next {i : Nat} {g : Gauge} {j : Nat} (hj : j + 1 < (daysP b g).length) : gLinks b i g (off b i + (j + 1) + 1) = gLinks b i g (off b i + (j + 1)) ++ [((off b i : Int) + 1 + j, (off b i : Int) + 1 + j + 1, 0), ((off b i : Int) + 1 + j + 1, (off b i : Int) + 1 + j, lossP b g ((daysP b g)[j]?.getD 0) ((daysP b g)[j + 1]?.getD 0))] ∧
    gSources b i g (off b i + (j + 1) + 1) = gSources b i g (off b i + (j + 1)) ++ [(2, (i : Int)), (2, (i : Int))] := by
  unfold gLinks gSources
  rw [if_neg (by omega), if_neg (by omega), if_neg (by omega), if_neg (by omega), show min (off b i + (j + 1) + 1 - off b i - 1) ((daysP b g).length - 1) = j + 1 by omega, show min (off b i + (j + 1) - off b i - 1) ((daysP b g).length - 1) = j by omega, range_flat, range_flat]
  exact ⟨by simp, by simp⟩
theorem gLinks_len (i : Nat) (g : Gauge) (k : Nat) (hd : (daysP b g).length ≤ 59) : (gLinks b i g k).length ≤ 120 ∧ (gSources b i g k).length ≤ 120 := by
  unfold gLinks gSources
  constructor
  · split
    · simp
    · rw [List.length_append, sources_len _ _ (fun _ => rfl)]
      simp only [List.length_cons, List.length_nil]; omega
  · split
    · simp
    · rw [List.length_append, sources_len _ _ (fun _ => rfl)]
      simp only [List.length_cons, List.length_nil]; omega
set_option maxHeartbeats 1000000 in
theorem tie_gauge (h : Good b) {i : Nat} {g : Gauge} (hg : b.2.1[i]? = some g) {L : List Lk} {S : List (Int × Int)} (hL : L.length ≤ 100000) (hS : S.length ≤ 100000) (K : List Lk × List (Int × Int) → Option (List Lk × List (Int × Int))) :
    loopT (fun (v21 : Int × List Lk × List (Int × Int)) kk25 => m_r5_Tie_L1 (nodesP b) (i : Int) b.1.1 b.1.2 b.2.1 b.2.2.1 b.2.2.2.1 b.2.2.2.2.1 b.2.2.2.2.2 g.1 g.2.1 g.2.2.1 g.2.2.2.1.1 g.2.2.2.1.2 v21.1 v21.2.1 v21.2.2 (fun u22 u23 u24 => kk25 (u22, u23, u24)) K) ((0 : Int), L, S) = K (L ++ gaugeLinks b g, S ++ gaugeSources b i g) := by
  have hN := h.nodes
  have hgm := List.mem_of_getElem? hg
  have hdl := days_len h hgm
  have hp := List.length_pos_of_mem (daysP_ne (b := b) g)
  have hr := h.gaugeR hgm
  have r1 := hr.2.2.2.2.2.1
  have r2 := hr.2.2.2.2.2.2.1
  obtain ⟨tl, htl⟩ := days_head h hgm
  refine loop_acc (nodesP b) (fun k => (L ++ gLinks b i g k, S ++ gSources b i g k)) _ (by simp [gLinks, gSources]) (fun k n hk hn kn => ?_) (fun kn => ?_)
  · try dsimp only
    unfold m_r5_Tie_L1
    have gl := gLinks_len (b := b) i g k hdl
    rw [ifb_lt' hk, iget_nat hn]
    obtain ⟨i', g', j, d, h1, h2, h3, h4⟩ := node_at' hk
    have hnd : n = (g'.1, d) := by rw [hn] at h4; exact Option.some.inj h4
    by_cases hsame : n.1 = g.1
    · obtain ⟨hi', hgg⟩ := same_gauge h h1 hg (by rw [hnd] at hsame; exact hsame)
      subst hgg
      have hin : i' = i := hi'
      rw [hin] at h3 h1
      rw [ifb_f (by simp [ine, hsame]), iget_nat hn]
      have hdn : n.2 = d := by rw [hnd]
      rw [hdn]
      cases j with
      | zero =>
        have hdd : d = g'.2.1 := by rw [htl] at h2; simpa using h2.symm
        have hk0 : k = off b i := by omega
        rw [ifb_t (by simp [ieq, hdd])]
        obtain ⟨e1, e2⟩ := gLinks_first (b := b) (i := i) (g := g')
        rw [← hk0] at e1 e2
        rw [ck_succ hk (by omega), ck_ok (by omega) (by omega), ck_succ hk (by omega), ck_ok (by omega) (by omega), ck_ok (by omega) (by omega), okLen_of (by simp only [List.length_append, List.length_cons, List.length_nil]; omega), Am.iff_true, okLen_of (by simp only [List.length_append, List.length_cons, List.length_nil]; omega), Am.iff_true, ck_succ hk (by omega), e1, e2]
        have e3 : 0 - g'.2.2.1 - g'.2.2.2.1.1 = -(g'.2.2.1 + g'.2.2.2.1.1) := by omega
        rw [e3]
        simp only [List.append_assoc]
      | succ j =>
        have hjl := (List.getElem?_eq_some_iff.1 h2).1
        have hdd : d ≠ g'.2.1 := by
          have hp1 := days_lt b g'
          rw [htl] at h2 hp1
          rw [List.getElem?_cons_succ] at h2
          have := (List.pairwise_cons.1 hp1).1 d (List.mem_of_getElem? h2)
          omega
        rw [ifb_f (by simpa [ieq] using hdd)]
        have hprev : (daysP b g')[j]? = some ((daysP b g')[j]?.getD 0) := by rw [List.getElem?_eq_getElem (by omega)]; rfl
        have hd' : d = (daysP b g')[j + 1]?.getD 0 := by rw [h2]; rfl
        have hpn := node_get h1 hprev
        have d1 := h.day hgm (List.mem_of_getElem? hprev)
        have d2 := h.day hgm (List.mem_of_getElem? h2)
        have hk0 : k = off b i + (j + 1) := h3
        obtain ⟨e1, e2⟩ := gLinks_next (b := b) (i := i) (g := g') hjl
        rw [← hk0] at e1 e2
        have hkm : ((k : Int) - 1) = ((off b i + j : Nat) : Int) := by omega
        have lb := lossP_bound h hgm (t := d) d1.2.1
        rw [ck_pred (by omega) (by omega), hkm, iget_nat hpn, iget_nat hn, hdn]
        try dsimp only
        rw [show f_r5_Loss ((b.1.1, b.1.2), b.2.1, b.2.2.1, b.2.2.2.1, b.2.2.2.2.1, b.2.2.2.2.2) g'.1 ((daysP b g')[j]?.getD 0) d = f_r5_Loss b g'.1 ((daysP b g')[j]?.getD 0) d from rfl, RLoss_ok h (gaugeOf_mem h.ids hgm) ⟨by omega, by omega⟩ (by omega), bindF_some, ck_succ hk (by omega), ck_succ hk (by omega), okLen_of (by simp only [List.length_append, List.length_cons, List.length_nil]; omega), Am.iff_true, okLen_of (by simp only [List.length_append, List.length_cons, List.length_nil]; omega), Am.iff_true, ck_succ hk (by omega), e1, e2, ← hd']
        have e3 : (off b i : Int) + 1 + (j : Int) = (k : Int) := by omega
        rw [e3]
        simp only [List.append_assoc]
    · rw [ifb_t (by simp [ine, hsame]), ck_succ hk (by omega)]
      have hout : k < off b i ∨ off b i + (daysP b g).length ≤ k := by
        rcases Nat.lt_or_ge k (off b i) with hlt | hge
        · exact .inl hlt
        · rcases Nat.lt_or_ge k (off b i + (daysP b g).length) with hlt2 | hge2
          · have := node_get hg (k := k - off b i) (List.getElem?_eq_getElem (by omega))
            rw [show off b i + (k - off b i) = k by omega, hn] at this
            exact absurd (by rw [Option.some.inj this]) hsame
          · exact .inr hge2
      obtain ⟨e1, e2⟩ := gLinks_other hout hp
      rw [e1, e2]
  · try dsimp only
    unfold m_r5_Tie_L1
    rw [ifb_ge]
    obtain ⟨e1, e2⟩ := gLinks_all h hg
    rw [e1, e2]
end
end Go.Proofs.ZzM
end

noncomputable section
namespace Go.Proofs.ZzM
open Go Go.Am
theorem firstO_at {α β : Type} {e : Nat → α → Option β} : ∀ {l : List α} {k i : Nat} {a : α} {b : β}, (∀ j c, j < i → l[j]? = some c → e (k + j) c = none) → l[i]? = some a → e (k + i) a = some b → firstO e k l = some b
  | [], _, _, _, _, _, ha, _ => by simp at ha
  | c :: t, k, 0, a, b, _, ha, hb => by
    simp only [List.getElem?_cons_zero, Option.some.injEq] at ha
    subst ha
    unfold firstO
    rw [Nat.add_zero] at hb
    rw [hb]
  | c :: t, k, i + 1, a, b, h, ha, hb => by
    unfold firstO
    have h0 := h 0 c (by omega) rfl
    rw [Nat.add_zero] at h0
    rw [h0]
    refine firstO_at (i := i) (fun j d hj hd => ?_) (by simpa using ha) (by rw [← hb]; congr 1; omega)
    have := h (j + 1) d (by omega) (by simpa using hd)
    rw [← this]
    congr 1
    omega
theorem loop_first' {ρ α β : Type} (l : List α) (e : Nat → α → Option β) (k0 : β → Option ρ) (k1 : Option ρ) {f : Int → (Int → Option ρ) → Option ρ}
    (h : ∀ (i : Nat) (a : α), i < l.length → l[i]? = some a → ∀ kn, f i kn = match e i a with | some b => k0 b | none => kn ((i : Int) + 1))
    (hn : (∀ j a, l[j]? = some a → e j a = none) → ∀ kn, f l.length kn = k1) : loopT f 0 = match firstO e 0 l with | some b => k0 b | none => k1 := by
  refine loop_inv (fun x : Int => ∃ i : Nat, i ≤ l.length ∧ x = i ∧ ∀ j a, j < i → l[j]? = some a → e j a = none) (fun x => l.length - x.toNat) ?_ ⟨0, by omega, rfl, fun j a hj => by omega⟩
  rintro x ⟨i, hi, rfl, hp⟩
  rcases Nat.lt_or_ge i l.length with hlt | hge
  · have ha : l[i]? = some l[i] := List.getElem?_eq_getElem hlt
    cases hc : e i l[i] with
    | some b =>
      refine .inl fun kn => ?_
      rw [h i _ hlt ha, hc, firstO_at (k := 0) (b := b) (fun j c hj hc => by rw [Nat.zero_add]; exact hp j c hj hc) ha (by rw [Nat.zero_add]; exact hc)]
    | none =>
      refine .inr ⟨((i + 1 : Nat) : Int), ⟨i + 1, hlt, rfl, fun j a hj hja => ?_⟩, by simp only [Int.toNat_natCast]; omega, fun kn => ?_⟩
      · rcases Nat.lt_or_ge j i with h1 | h1
        · exact hp j a h1 hja
        · have : j = i := by omega
          subst this
          rw [ha] at hja
          rw [← Option.some.inj hja]; exact hc
      · rw [h i _ hlt ha, hc]
        simp
  · have : i = l.length := by omega
    subst this
    refine .inl fun kn => ?_
    have hall : ∀ j a, l[j]? = some a → e j a = none := fun j a hja => hp j a (List.getElem?_eq_some_iff.1 hja).1 hja
    rw [hn hall kn, firstO_none.2 fun j a hja => by rw [Nat.zero_add]; exact hall j a hja]
theorem errO_none {e : Int} : errO e = none ↔ e = 0 := by
  unfold errO
  split <;> simp_all
section
variable {b : Book}
theorem gLinks_sum (h : Good b) : ∀ i, ((b.2.1.take i).flatMap (gaugeLinks b)).length ≤ 1440 ∧ (((b.2.1.take i).mapIdx (gaugeSources b)).flatten).length ≤ 1440 := by
  have hG := h.nG
  have gl : ∀ g ∈ b.2.1, (gaugeLinks b g).length ≤ 120 ∧ ∀ i, (gaugeSources b i g).length ≤ 120 := by
    intro g hg
    have := days_len h hg
    constructor
    · unfold gaugeLinks
      rw [List.length_append, sources_len _ _ (fun _ => rfl)]
      simp only [List.length_cons, List.length_nil]; omega
    · intro i
      unfold gaugeSources
      rw [List.length_append, sources_len _ _ (fun _ => rfl)]
      simp only [List.length_cons, List.length_nil]; omega
  have key : ∀ i, i ≤ b.2.1.length → ((b.2.1.take i).flatMap (gaugeLinks b)).length ≤ i * 120 ∧ (((b.2.1.take i).mapIdx (gaugeSources b)).flatten).length ≤ i * 120 := by
    intro i
    induction i with
    | zero => intro _; simp
    | succ i ih =>
      intro hi
      have ih := ih (by omega)
      have hg : b.2.1[i]? = some b.2.1[i] := List.getElem?_eq_getElem hi
      have h2 := gl _ (List.mem_of_getElem? hg)
      have h3 := h2.2 i
      rw [mapIdx_take _ hg, take_succ hg, List.flatMap_append, List.flatten_append, List.length_append, List.length_append]
      simp only [List.flatMap_cons, List.flatMap_nil, List.append_nil, List.flatten_cons, List.flatten_nil]
      omega
  intro i
  rcases Nat.lt_or_ge b.2.1.length i with h1 | h1
  · rw [List.take_of_length_le (by omega)]
    have := key b.2.1.length (Nat.le_refl _)
    rw [List.take_length] at this
    omega
  · have := key i h1
    omega
theorem cLinks_sum : ∀ i, i ≤ b.2.2.2.2.1.length → ((b.2.2.2.2.1.take i).flatMap (compareLinks b)).length = 2 * i ∧ (((b.2.2.2.2.1.take i).mapIdx fun i _ => [((3 : Int), (i : Int)), ((3 : Int), (i : Int))]).flatten).length = 2 * i := by
  intro i
  induction i with
  | zero => intro _; simp
  | succ i ih =>
    intro hi
    have ih := ih (by omega)
    have hg : b.2.2.2.2.1[i]? = some b.2.2.2.2.1[i] := List.getElem?_eq_getElem hi
    rw [mapIdx_take _ hg, take_succ hg, List.flatMap_append, List.flatten_append, List.length_append, List.length_append]
    simp only [List.flatMap_cons, List.flatMap_nil, List.append_nil, List.flatten_cons, List.flatten_nil, compareLinks, List.length_cons, List.length_nil]
    omega
set_option maxHeartbeats 1000000 in
theorem RTie_ok (h : Good b) : f_r5_Tie b = some (linksP b, sourcesP b) := by
  have hC := h.nC
  have hG := h.nG
  unfold f_r5_Tie m_r5_Tie
  rw [RNodes_ok h.pre, bindF_some]
  refine loop_acc b.2.1 (fun i => ((b.2.1.take i).flatMap (gaugeLinks b), ((b.2.1.take i).mapIdx (gaugeSources b)).flatten)) _ rfl (fun i g hi hg kn => ?_) (fun kn => ?_)
  · try dsimp only
    unfold m_r5_Tie_L0
    have hls := gLinks_sum h i
    rw [ifb_lt' hi, iget_nat hg]
    refine Eq.trans (tie_gauge h hg (by omega) (by omega) _) ?_
    rw [ck_succ hi (by omega), mapIdx_take _ hg, take_succ hg, List.flatMap_append, List.flatten_append]
    simp only [List.flatMap_cons, List.flatMap_nil, List.append_nil, List.flatten_cons, List.flatten_nil]
  · try dsimp only
    unfold m_r5_Tie_L0
    rw [ifb_ge, List.take_length]
    dsimp only
    have hls := gLinks_sum h b.2.1.length
    rw [List.take_length] at hls
    refine loop_acc b.2.2.2.2.1 (fun i => (b.2.1.flatMap (gaugeLinks b) ++ (b.2.2.2.2.1.take i).flatMap (compareLinks b), (b.2.1.mapIdx (gaugeSources b)).flatten ++ ((b.2.2.2.2.1.take i).mapIdx fun i _ => [((3 : Int), (i : Int)), ((3 : Int), (i : Int))]).flatten)) _ (by simp) (fun i c hi hc kn => ?_) (fun kn => ?_)
    · try dsimp only
      unfold m_r5_Tie_L2
      have hcm := List.mem_of_getElem? hc
      have hn := (numsP_iff c).1 (h.nums hcm)
      have ha := pileP_len hn.2.2.2.2.2.1
      have hb := pileP_len hn.2.2.2.2.2.2
      have hcl := cLinks_sum (b := b) i (by omega)
      have sb := saysP_bound h hcm
      rw [ifb_lt' hi, iget_nat hc, Rone_ok (by omega) (by omega), bindF_some]
      rw [show f_r5_Index ((b.1.1, b.1.2), b.2.1, b.2.2.1, b.2.2.2.1, b.2.2.2.2.1, b.2.2.2.2.2) (oneP c.2.2.1 c.2.2.2.1, c.2.1) = f_r5_Index b (oneP c.2.2.1 c.2.2.2.1, c.2.1) from rfl, RIndex_ok h.pre, bindF_some, Rone_ok (by omega) (by omega), bindF_some]
      rw [show f_r5_Index ((b.1.1, b.1.2), b.2.1, b.2.2.1, b.2.2.2.1, b.2.2.2.2.1, b.2.2.2.2.2) (oneP c.2.2.2.1 c.2.2.1, c.2.1) = f_r5_Index b (oneP c.2.2.2.1 c.2.2.1, c.2.1) from rfl, RIndex_ok h.pre, bindF_some]
      rw [show f_r5_Says ((b.1.1, b.1.2), b.2.1, b.2.2.1, b.2.2.2.1, b.2.2.2.2.1, b.2.2.2.2.2) c = f_r5_Says b c from rfl, RSays_ok h.size h.film (h.cmpIn hcm), bindF_some]
      rw [ck_ok (by omega) (by omega), okLen_of (by simp only [List.length_append, List.length_cons, List.length_nil]; omega), Am.iff_true, okLen_of (by simp only [List.length_append, List.length_cons, List.length_nil]; omega), Am.iff_true, ck_succ hi (by omega)]
      rw [mapIdx_take _ hc, take_succ hc, List.flatMap_append, List.flatten_append, idx_one h.pre, idx_one h.pre]
      simp only [List.flatMap_cons, List.flatMap_nil, List.append_nil, List.flatten_cons, List.flatten_nil, List.append_assoc]
      rw [Int.zero_sub]
      rfl
    · try dsimp only
      unfold m_r5_Tie_L2
      rw [ifb_ge, List.take_length]
      rfl
def compareQ (b : Book) (i : Nat) (c : Cmp) : Int := if !numsP c then 1 else if (b.2.2.2.2.1.take i).any (fun x => x.1 == c.1) then 6 else pilesQ b c
theorem compareQ_E (hi : b.2.1.Pairwise fun a b => a.1 < b.1) (i : Nat) (c : Cmp) : compareQ b i c = compareE b (shelf b) i c := by
  unfold compareQ compareE
  rw [pilesQ_E hi]
def tailQ (b : Book) : Int := match (b.2.2.2.2.1.mapIdx (compareQ b)).find? (fun e => e != 0) with
  | some e => e
  | none => match (b.2.2.2.2.2.map (useP b)).find? (fun e => e != 0) with
    | some e => e
    | none => if 59 < (nodesP b).length then 2 else if 300 < 2 * b.2.1.length + 2 * ((nodesP b).length - b.2.1.length : Int) + 2 * b.2.2.2.2.1.length then 2 else 0
theorem find_none {α : Type} {l : List α} {E : α → Int} (h : (l.map E).find? (fun e => e != 0) = none) : ∀ a ∈ l, E a = 0 := by
  intro a ha
  have := List.find?_eq_none.1 h (E a) (List.mem_map.2 ⟨a, ha, rfl⟩)
  simpa using this
theorem find_noneI {α : Type} {l : List α} {E : Nat → α → Int} (h : (l.mapIdx E).find? (fun e => e != 0) = none) : ∀ i a, l[i]? = some a → E i a = 0 := by
  intro i a ha
  obtain ⟨hi, rfl⟩ := List.getElem?_eq_some_iff.1 ha
  have := List.find?_eq_none.1 h (E i l[i]) (List.mem_mapIdx.2 ⟨i, hi, rfl⟩)
  simpa using this
theorem compareQ_zero {i : Nat} {c : Cmp} (h : compareQ b i c = 0) : numsP c = true ∧ (leftP c.2.2.1 c.2.2.2.1).length ≤ 1 ∧ (leftP c.2.2.2.1 c.2.2.1).length ≤ 1 := by
  unfold compareQ at h
  split at h
  · omega
  rename_i h1
  split at h
  · omega
  unfold pilesQ at h
  (repeat' split at h) <;> first | omega | exact ⟨by simpa using h1, by omega, by omega⟩
set_option maxHeartbeats 4000000 in
theorem tail_ok (hs : SizeOk b) (hfilm : 0 ≤ b.1.1 ∧ b.1.1 ≤ b.1.2 ∧ b.1.2 ≤ 1000000) (nG : b.2.1.length ≤ 12) (nU : b.2.2.1.length ≤ 40) (nL : b.2.2.2.1.length ≤ 12) (nC : b.2.2.2.2.1.length ≤ 40) (nK : b.2.2.2.2.2.length ≤ 10)
    (hg : ∀ g ∈ b.2.1, gaugeP g = true) (hi : b.2.1.Pairwise fun a b => a.1 < b.1) (hu : ∀ u ∈ b.2.2.1, useP b u = 0) (hl : ∀ i l, b.2.2.2.1[i]? = some l → loanQ b i l = 0) :
    loopT (fun (v41 : Int) kk43 => m_r5_Check_L1 b.1.1 b.1.2 b.2.1 b.2.2.1 b.2.2.2.1 b.2.2.2.2.1 b.2.2.2.2.2 v41 (fun u42 => kk43 u42) (fun z26 => some z26) (fun _ => loopT (fun (v38 : Int) kk40 => m_r5_Check_L3 b.1.1 b.1.2 b.2.1 b.2.2.1 b.2.2.2.1 b.2.2.2.2.1 b.2.2.2.2.2 v38 (fun u39 => kk40 u39) (fun z34 => some z34) (fun _ => bindF (f_r5_Nodes b) fun r36 => ifb (igt (ilen r36) (59 : Int)) (some (2 : Int)) (bindF (f_r5_Tie b) fun r37 => ifb (igt (ilen r37.1) (300 : Int)) (some (2 : Int)) (some (0 : Int))))) (0 : Int))) (0 : Int) = some (tailQ b) := by
  unfold tailQ
  refine Eq.trans (loop_first' b.2.2.2.2.1 (fun i c => errO (compareQ b i c)) some (some (match (b.2.2.2.2.2.map (useP b)).find? (fun e => e != 0) with
      | some e => e
      | none => if 59 < (nodesP b).length then 2 else if 300 < 2 * b.2.1.length + 2 * ((nodesP b).length - b.2.1.length : Int) + 2 * b.2.2.2.2.1.length then 2 else 0)) (fun i c hci hc kn => ?_) (fun hcz kn => ?_)) ?_
  · try dsimp only
    unfold m_r5_Check_L1
    have hp := hs.piles c (List.mem_of_getElem? hc)
    rw [ifb_lt' hci, iget_nat hc, Rplain_ok (by omega) (by omega), bindF_some]
    unfold compareQ errO
    cases numsP c with
    | false => rfl
    | true =>
      rw [ifb_f (by rfl)]
      have hl9 : (b.2.2.2.2.1.take i).length = i := by rw [List.length_take]; omega
      refine Eq.trans (loop_any (b.2.2.2.2.1.take i) (fun x => x.1 == c.1) (fun _ => some 6) (some 6) (if pilesQ b c = 0 then kn ((i : Int) + 1) else some (pilesQ b c)) (fun _ => rfl) (fun j a hj ha kn' => ?_) (fun kn' => ?_)) ?_
      · try dsimp only
        unfold m_r5_Check_L2
        rw [hl9] at hj
        have ha' : b.2.2.2.2.1[j]? = some a := by rwa [List.getElem?_take_of_lt hj] at ha
        rw [ifb_t (show ilt (j : Int) (i : Int) = true by simp [ilt]; omega), iget_nat ha', iget_nat hc, ck_succ hj (by omega), ifb_eq]
      · try dsimp only
        unfold m_r5_Check_L2
        rw [hl9, ifb_f (show ilt (i : Int) (i : Int) = false by simp [ilt])]
        dsimp only
        rw [iget_nat hc, show f_r5_compared ((b.1.1, b.1.2), b.2.1, b.2.2.1, b.2.2.2.1, b.2.2.2.2.1, b.2.2.2.2.2) c = f_r5_compared b c from rfl, Rcompared_ok hs hp.1 hp.2, bindF_some, ck_succ hci (by omega)]
        by_cases hz : pilesQ b c = 0
        · rw [ifb_f (by simp [ine, hz]), if_pos hz]
        · rw [ifb_t (by simp [ine, hz]), if_neg hz]
      · cases hany : (b.2.2.2.2.1.take i).any (fun x => x.1 == c.1) with
        | true => simp
        | false =>
          by_cases hz : pilesQ b c = 0
          · simp [hz]
          · simp [hz]
  · try dsimp only
    unfold m_r5_Check_L1
    rw [ifb_ge]
    dsimp only
    have hcz' : ∀ i c, b.2.2.2.2.1[i]? = some c → compareQ b i c = 0 := fun i c hc => errO_none.1 (hcz i c hc)
    refine Eq.trans (loop_first' b.2.2.2.2.2 (fun _ u => errO (useP b u)) some (some (if 59 < (nodesP b).length then 2 else if 300 < 2 * b.2.1.length + 2 * ((nodesP b).length - b.2.1.length : Int) + 2 * b.2.2.2.2.1.length then 2 else 0)) (fun i a hia ha kn' => ?_) (fun hlz kn' => ?_)) ?_
    · try dsimp only
      unfold m_r5_Check_L3
      rw [ifb_lt' hia, iget_nat ha, RDay_ok, bindF_some]
      unfold useP errO
      cases dayP a.2 with
      | false => rfl
      | true =>
        rw [ifb_f (by rfl), iget_nat ha, iget_nat ha, RSince_ok (b := ((b.1.1, b.1.2), b.2.1, b.2.2.1, b.2.2.2.1, b.2.2.2.2.1, b.2.2.2.2.2)) (by simp only; omega), bindF_some, ck_succ hia (by omega)]
        have e : sinceP ((b.1.1, b.1.2), b.2.1, b.2.2.1, b.2.2.2.1, b.2.2.2.2.1, b.2.2.2.2.2) a.1 a.2 = sinceP b a.1 a.2 := rfl
        rw [e]
        by_cases hz : sinceP b a.1 a.2 = 0
        · rw [ifb_f (by simp [ine, hz])]; simp [hz]
        · rw [ifb_t (by simp [ine, hz])]; simp [hz]
    · try dsimp only
      unfold m_r5_Check_L3
      rw [ifb_ge]
      dsimp only
      have hlz' : ∀ u ∈ b.2.2.2.2.2, useP b u = 0 := fun u hum => by
        obtain ⟨j, hj, rfl⟩ := List.mem_iff_getElem.1 hum
        exact errO_none.1 (hlz j _ (List.getElem?_eq_getElem hj))
      have pre : Pre b := ⟨hs, hg, fun c hc => by
        obtain ⟨j, hj, rfl⟩ := List.mem_iff_getElem.1 hc
        have q := compareQ_zero (hcz' j _ (List.getElem?_eq_getElem hj))
        exact ⟨numsP_day q.1, q.2⟩, fun n hn => by
        have := hlz' n hn
        unfold useP at this
        split at this
        · omega
        · rename_i hd; simpa using hd⟩
      rw [RNodes_ok pre, bindF_some, ilen_eq]
      by_cases h59 : 59 < (nodesP b).length
      · rw [ifb_t (by simp [igt]; omega), if_pos h59]
      · rw [ifb_f (by simp [igt]; omega), if_neg h59]
        have good : Good b := ⟨hfilm, nG, nU, nL, nC, nK, hg, hi, fun u hum => by rw [← useP_E hi]; exact hu u hum, fun i l hil => by rw [← loanQ_E hi]; exact hl i l hil, fun i c hic => by rw [← compareQ_E hi]; exact hcz' i c hic, fun u hum => by rw [← useP_E hi]; exact hlz' u hum, by omega, by omega⟩
        have hll := links_len good
        rw [RTie_ok good, bindF_some, ilen_eq]
        dsimp only
        rw [hll, ifb_f (by simp [igt]; omega), if_neg (by omega)]
    · rw [first_errs']
      cases (b.2.2.2.2.2.map (useP b)).find? (fun e => e != 0) <;> rfl
  · rw [first_errs0 (compareQ b)]
    cases (b.2.2.2.2.1.mapIdx (compareQ b)).find? (fun e => e != 0) <;> rfl
end
end Go.Proofs.ZzM
end

noncomputable section
namespace Go.Proofs.ZzM
open Go Go.Am
theorem find_app {l m : List Int} : (l ++ m).find? (fun e => e != 0) = match l.find? (fun e => e != 0) with | some e => some e | none => m.find? (fun e => e != 0) := by
  rw [List.find?_append]
  cases l.find? (fun e => e != 0) <;> rfl
set_option maxHeartbeats 4000000 in
theorem RCheck_ok {b : Book} (hs : SizeOk b) : f_r5_Check b = some (checkP b) := by
  unfold f_r5_Check m_r5_Check checkP
  rw [Rspanned_ok, bindF_some]
  cases hsp : spanP b.1 0 1000000 with
  | false => rfl
  | true =>
  have hfilm : 0 ≤ b.1.1 ∧ b.1.1 ≤ b.1.2 ∧ b.1.2 ≤ 1000000 := by
    simp only [spanP, Bool.and_eq_true, decide_eq_true_eq] at hsp
    exact hsp
  rw [ifb_f (show (!true) = false from rfl), if_neg (by simp)]
  rw [ilen_eq b.2.1, ilen_eq b.2.2.1, ilen_eq b.2.2.2.1, ilen_eq b.2.2.2.2.1, ilen_eq b.2.2.2.2.2]
  by_cases c0 : 12 < b.2.1.length
  · rw [ifb_t (by simp [igt]; omega), if_pos c0]
  rw [ifb_f (by simp [igt]; omega), if_neg c0]
  by_cases c1 : 40 < b.2.2.1.length
  · rw [ifb_t (by simp [igt]; omega), if_pos c1]
  rw [ifb_f (by simp [igt]; omega), if_neg c1]
  by_cases c2 : 12 < b.2.2.2.1.length
  · rw [ifb_t (by simp [igt]; omega), if_pos c2]
  rw [ifb_f (by simp [igt]; omega), if_neg c2]
  by_cases c3 : 40 < b.2.2.2.2.1.length
  · rw [ifb_t (by simp [igt]; omega), if_pos c3]
  rw [ifb_f (by simp [igt]; omega), if_neg c3]
  by_cases c4 : 10 < b.2.2.2.2.2.length
  · rw [ifb_t (by simp [igt]; omega), if_pos c4]
  rw [ifb_f (by simp [igt]; omega), if_neg c4]
  refine Eq.trans (loop_first' b.2.1 (gaugeE b.2.1) some (some (match (partsP b (shelf b)).find? (fun e => e != 0) with
    | some e => e
    | none => if 59 < (nodesP b).length then 2 else if 300 < 2 * b.2.1.length + 2 * ((nodesP b).length - b.2.1.length : Int) + 2 * b.2.2.2.2.1.length then 2 else 0)) (fun i g hi hg kn => ?_) (fun hz kn => ?_)) ?_
  · try dsimp only
    unfold m_r5_Check_L0
    rw [ifb_lt' hi, iget_nat hg, Rgauge_ok, bindF_some]
    unfold gaugeE
    cases gaugeP g with
    | false => rfl
    | true =>
      rw [ifb_f (by rfl)]
      rcases Nat.eq_zero_or_pos i with h0 | h0
      · subst h0
        have : igt ((0 : Nat) : Int) 0 = false := by simp [igt]
        rw [ifb_f this, ck_succ hi (by omega)]
        simp [backE]
      · obtain ⟨q, hq⟩ := prev_some hi h0
        have h1 : igt (i : Int) 0 = true := by simp [igt]; omega
        rw [ifb_t h1, iget_nat hg, ck_pred h0 (by omega), iget_pred h0 hq]
        simp only [backE, h0, decide_true, Bool.true_and, hq, Option.any_some]
        unfold ile
        cases h2 : decide (g.1 ≤ q.1) with
        | true => simp
        | false => rw [ifb_false, ck_succ hi (by omega)]; simp
  · try dsimp only
    unfold m_r5_Check_L0
    rw [ifb_ge]
    dsimp only
    have hg0 : gaugesE b = 0 := by
      unfold gaugesE
      rw [firstO_none.2 fun j a ha => by rw [Nat.zero_add]; exact hz j a ha]
      rfl
    obtain ⟨hg, hi⟩ := (gaugesE_iff b).1 hg0
    have eu : b.2.2.1.map (useP b) = b.2.2.1.map fun u => useE (shelf b) u.1 u.2 := List.map_congr_left fun u _ => useP_E hi u
    have el : b.2.2.2.1.mapIdx (loanQ b) = b.2.2.2.1.mapIdx fun i l => loanE b (shelf b) i l := List.mapIdx_eq_mapIdx_iff.2 fun i hl => loanQ_E hi i _
    have ec : b.2.2.2.2.1.mapIdx (compareQ b) = b.2.2.2.2.1.mapIdx fun i c => compareE b (shelf b) i c := List.mapIdx_eq_mapIdx_iff.2 fun i hc => compareQ_E hi i _
    have ek : b.2.2.2.2.2.map (useP b) = b.2.2.2.2.2.map fun u => useE (shelf b) u.1 u.2 := List.map_congr_left fun u _ => useP_E hi u
    unfold partsP
    rw [← eu, ← el, ← ec, ← ek, find_app, find_app, find_app, Ruses_ok hs, bindF_some]
    cases hue : (b.2.2.1.map (useP b)).find? (fun e => e != 0) with
    | some e =>
      have he : e ≠ 0 := by have := List.find?_some hue; simpa using this
      simp only [Option.getD_some]
      rw [ifb_f (by simpa [ieq] using he), ifb_t (by simpa [ine] using he)]
    | none =>
      simp only [Option.getD_none]
      rw [ifb_t (by rfl), Rloans_ok hs, bindF_some]
      cases hle : (b.2.2.2.1.mapIdx (loanQ b)).find? (fun e => e != 0) with
      | some e =>
        have he : e ≠ 0 := by have := List.find?_some hle; simpa using this
        simp only [Option.getD_some]
        rw [ifb_t (by simpa [ine] using he)]
      | none =>
        simp only [Option.getD_none]
        rw [ifb_f (by rfl)]
        refine Eq.trans (tail_ok hs hfilm (by omega) (by omega) (by omega) (by omega) (by omega) hg hi (find_none hue) (find_noneI hle)) ?_
        unfold tailQ
        cases (b.2.2.2.2.1.mapIdx (compareQ b)).find? (fun e => e != 0) <;> rfl
  · unfold gaugesE
    cases hf : firstO (gaugeE b.2.1) 0 b.2.1 with
    | none =>
      simp
      cases (partsP b (shelf b)).find? (fun e => e != 0) <;> rfl
    | some e =>
      have he : gaugesE b = e := by unfold gaugesE; rw [hf]; rfl
      have hne : e ≠ 0 := by
        intro h0
        rw [h0] at he
        obtain ⟨h1, h2⟩ := (gaugesE_iff b).1 he
        have h3 : ∀ j a, b.2.1[j]? = some a → gaugeE b.2.1 j a = none := by
          intro j a ha
          have h4 := (back_iff (fun g : Gauge => g.1) b.2.1).2 h2 j a ha
          simp [gaugeE, h1 a (List.mem_of_getElem? ha), h4]
        rw [firstO_none.2 fun j a ha => by rw [Nat.zero_add]; exact h3 j a ha] at hf
        cases hf
      simp [hne]
end Go.Proofs.ZzM
end

noncomputable section
namespace Go.Proofs.ZzM
open Go Go.Am
theorem RShown_ok {b : Book} (hs : SizeOk b) (hf : 0 ≤ b.1.1 ∧ b.1.1 ≤ b.1.2 ∧ b.1.2 ≤ 1000000) {c : Cmp} (h : CmpIn b c) {d : Int} (hd : -2305843009213693952 ≤ d ∧ d ≤ 2305843009213693952) : f_r5_Shown b c d = some (d + lowP b c, d + highP b c) := by
  have hn := (numsP_iff c).1 h.ok.nums
  have ha := pileP_len hn.2.2.2.2.2.1
  have hb := pileP_len hn.2.2.2.2.2.2
  obtain ⟨q1, q2, b1, b2, b3⟩ := shown_bounds hf h.ok
  have c1 := ceil_bound q1
  have c2 := floor_bound q2
  have fb := films_bound (b := b) (c := c) (by omega) (by omega) (by omega) (by omega) (by omega) (by omega)
  unfold f_r5_Shown m_r5_Shown lowP highP
  rw [RGrowth_ok hs h, bindF_some, RFilms_ok (by omega) (by omega) (by omega) (by omega) (by omega) (by omega), bindF_some, Rceil_ok q1.rat, Rfloor_ok q2.rat]
  simp only [bindF_some]
  rw [ck_ok (by omega) (by omega), ck_ok (by omega) (by omega), ck_ok (by omega) (by omega), ck_ok (by omega) (by omega), ck_ok (by omega) (by omega), ck_ok (by omega) (by omega)]
  have e1 : d + (filmsP b c).1 + ceilP (growthP b c).1 - c.2.2.2.2.2.1 = d + (ceilP (growthP b c).1 + (filmsP b c).1 - c.2.2.2.2.2.1) := by omega
  have e2 : d + (filmsP b c).2 + (growthP b c).2.1 / (growthP b c).2.2 + c.2.2.2.2.2.1 = d + ((growthP b c).2.1 / (growthP b c).2.2 + (filmsP b c).2 + c.2.2.2.2.2.1) := by omega
  rw [e1, e2]
end Go.Proofs.ZzM
end

noncomputable section
namespace Go.Proofs.ZzM
open Go Go.Am
section
variable {b : Book}
theorem listed_ok (h : Pre b) (x : List Int) (hx : x.length ≤ 1000000) : f_w5_listed b x = some (lengthsP b x) := by
  unfold f_w5_listed m_w5_listed
  refine Eq.trans (loop_any x (fun n => !inP n (-4503599627370496) 4503599627370496) (fun _ => some false) (some false) (some (decide (x.length = (nodesP b).length))) (fun _ => rfl) (fun i a hi ha kn => ?_) (fun kn => ?_)) ?_
  · try dsimp only
    unfold m_w5_listed_L0
    rw [ifb_lt' hi, iget_nat ha, RIn_ok, bindF_some, ck_succ hi (by omega), ifb_eq]
  · try dsimp only
    unfold m_w5_listed_L0
    rw [ifb_ge, RNodes_ok h, bindF_some, ilen_eq, ilen_eq]
    have e : ieq (x.length : Int) ((nodesP b).length : Int) = decide (x.length = (nodesP b).length) := by
      rw [Bool.eq_iff_iff]
      simp only [ieq, beq_iff_eq, decide_eq_true_eq]
      omega
    rw [e]
  · unfold lengthsP
    rw [show (x.any fun n => !inP n (-4503599627370496) 4503599627370496) = !(x.all fun n => inP n (-4503599627370496) 4503599627370496) from by rw [List.all_eq_not_any_not]; simp]
    cases (x.all fun n => inP n (-4503599627370496) 4503599627370496) <;> simp
theorem idxP_bd (id d : Int) : 0 ≤ idxP b id d ∧ idxP b id d ≤ (nodesP b).length := by
  unfold idxP
  cases h : nodeIdx (nodesP b) id d with
  | none => simp only; omega
  | some j =>
    have := (nodeIdx_lt h).1
    simp only
    omega
theorem Rlength_ok (h : Pre b) {x : List Int} (hx : lengthsP b x = true) (hN : (nodesP b).length ≤ 1000000) (id d : Int) : f_r5_length b x id d = some (gv (0 :: x) (idxP b id d)) := by
  have hb := idxP_bd (b := b) id d
  have hl := (lengthsP_iff.1 hx).1
  unfold f_r5_length m_r5_length
  rw [RIndex_ok h, bindF_some, ifb_eq]
  dsimp only
  by_cases h0 : idxP b id d = 0
  · rw [if_pos (by simpa [ieq] using h0), h0]
    rfl
  · rw [if_neg (by simpa [ieq] using h0), ck_ok (by omega) (by omega), iget_gv (by omega) (by omega), gv_cons _ _ hb.1, if_neg h0]
theorem RDiffer_ok (h : Good b) {x : List Int} (hx : lengthsP b x = true) {c : Cmp} (hA : c.2.2.1.length ≤ 1000) (hB : c.2.2.2.1.length ≤ 1000) : f_r5_Differ b c x = some (apartP b c x) := by
  have hN := h.nodes
  obtain ⟨_, hd⟩ := apart_bd hx c
  unfold f_r5_Differ m_r5_Differ
  rw [Rone_ok (by omega) (by omega), bindF_some, Rlength_ok h.pre hx (by omega), bindF_some, Rone_ok (by omega) (by omega), bindF_some, Rlength_ok h.pre hx (by omega), bindF_some, idx_one h.pre, idx_one h.pre]
  rw [show gv (0 :: x) (atP (nodesP b) (leftP c.2.2.1 c.2.2.2.1) c.2.1) - gv (0 :: x) (atP (nodesP b) (leftP c.2.2.2.1 c.2.2.1) c.2.1) = apartP b c x from rfl, ck_ok (by omega) (by omega)]
def nodeOkB (b : Book) (x : List Int) (k : Nat) (n : Int × Int) : Bool :=
  match gaugeOf b n.1 with
  | some g => if n.2 = g.2.1 then inP (gv x k) (g.2.2.1 + g.2.2.2.1.1) (g.2.2.1 + g.2.2.2.1.2) else
    decide (0 ≤ gv x ((k : Int) - 1) - gv x k) && decide (gv x ((k : Int) - 1) - gv x k ≤ lossP b g ((nodesP b)[k - 1]?.getD (0, 0)).2 n.2)
  | none => true
def okAt (b : Book) (x : List Int) (i : Nat) (g : Gauge) (j : Nat) (d : Int) : Bool := match j with
  | 0 => inP (gv x (off b i)) (g.2.2.1 + g.2.2.2.1.1) (g.2.2.1 + g.2.2.2.1.2)
  | j + 1 => decide (0 ≤ gv x ((off b i : Int) + j) - gv x ((off b i : Int) + j + 1)) && decide (gv x ((off b i : Int) + j) - gv x ((off b i : Int) + j + 1) ≤ lossP b g (dayAt b g j) d)
theorem nodeOk_at (h : Good b) (x : List Int) {i : Nat} {g : Gauge} (hg : b.2.1[i]? = some g) {j : Nat} {d : Int} (hd : (daysP b g)[j]? = some d) : nodeOkB b x (off b i + j) (g.1, d) = okAt b x i g j d := by
  have hgm := List.mem_of_getElem? hg
  obtain ⟨tl, htl⟩ := days_head h hgm
  unfold nodeOkB okAt
  rw [gaugeOf_mem h.ids hgm]
  cases j with
  | zero =>
    have : d = g.2.1 := by rw [htl] at hd; simpa using hd.symm
    simp only
    rw [if_pos this, Nat.add_zero]
  | succ j =>
    have hjl := (List.getElem?_eq_some_iff.1 hd).1
    have hne : d ≠ g.2.1 := by
      have hp1 := days_lt b g
      rw [htl] at hd hp1
      rw [List.getElem?_cons_succ] at hd
      have := (List.pairwise_cons.1 hp1).1 d (List.mem_of_getElem? hd)
      omega
    have hprev := node_get hg (dayAt_get (b := b) (g := g) (k := j) (by omega))
    simp only
    rw [if_neg hne, show off b i + (j + 1) - 1 = off b i + j by omega, hprev]
    simp only [Option.getD_some]
    have e1 : (((off b i + (j + 1) : Nat) : Int) - 1) = (off b i : Int) + j := by omega
    have e2 : ((off b i + (j + 1) : Nat) : Int) = (off b i : Int) + j + 1 := by omega
    rw [e1, e2]
theorem fits_iff (h : Good b) {x : List Int} : fitsP b x = true ↔ (∀ k n, (nodesP b)[k]? = some n → nodeOkB b x k n = true) ∧ ∀ c ∈ b.2.2.2.2.1, apartP b c x + lowP b c ≤ c.2.2.2.2.1 ∧ c.2.2.2.2.1 ≤ apartP b c x + highP b c := by
  show fitsL _ _ = true ↔ _
  rw [fitsL_iff]
  have hnode : ∀ (i : Nat) (g : Gauge), b.2.1[i]? = some g → ((∀ l ∈ gaugeLinks b g, gv (0 :: x) l.2.1 ≤ gv (0 :: x) l.1 + l.2.2) ↔ ∀ j d, (daysP b g)[j]? = some d → nodeOkB b x (off b i + j) (g.1, d) = true) := by
    intro i g hg
    have hgm := List.mem_of_getElem? hg
    have hp := List.length_pos_of_mem (daysP_ne (b := b) g)
    have e0 : gv (0 :: x) 0 = 0 := rfl
    have e1 : gv (0 :: x) ((off b i : Int) + 1) = gv x (off b i) := by
      rw [gv_cons _ _ (by omega), if_neg (by omega)]
      congr 1
      omega
    have e2 : ∀ j : Nat, gv (0 :: x) ((off b i : Int) + j + 1) = gv x ((off b i : Int) + j) := fun j => by
      rw [gv_cons _ _ (by omega), if_neg (by omega)]
      congr 1
      omega
    have e3 : ∀ j : Nat, gv (0 :: x) ((off b i : Int) + j + 2) = gv x ((off b i : Int) + j + 1) := fun j => by
      rw [gv_cons _ _ (by omega), if_neg (by omega)]
      congr 1
      omega
    constructor
    · intro hl j d hd
      rw [nodeOk_at h x hg hd]
      unfold okAt
      cases j with
      | zero =>
        have a1 := hl _ ((gaugeLinks_mem h hg).2 (.inl rfl))
        have a2 := hl _ ((gaugeLinks_mem h hg).2 (.inr (.inl rfl)))
        simp only at a1 a2 ⊢
        rw [e0, e1] at a1 a2
        simp only [inP, Bool.and_eq_true, decide_eq_true_eq]
        omega
      | succ j =>
        have hjl := (List.getElem?_eq_some_iff.1 hd).1
        have hj := dayAt_get (b := b) (g := g) (k := j) (by omega)
        have a1 := hl _ ((gaugeLinks_mem h hg).2 (.inr (.inr ⟨j, _, _, hj, hd, .inl rfl⟩)))
        have a2 := hl _ ((gaugeLinks_mem h hg).2 (.inr (.inr ⟨j, _, _, hj, hd, .inr rfl⟩)))
        simp only at a1 a2 ⊢
        rw [e2, e3] at a1 a2
        simp only [Bool.and_eq_true, decide_eq_true_eq]
        omega
    · intro hn l hl
      rcases (gaugeLinks_mem h hg).1 hl with rfl | rfl | ⟨j, d, e, hd, he, rfl | rfl⟩
      · have := hn 0 _ (dayAt_get hp)
        rw [nodeOk_at h x hg (dayAt_get hp)] at this
        unfold okAt at this
        simp only [inP, Bool.and_eq_true, decide_eq_true_eq] at this
        simp only
        rw [e0, e1]
        omega
      · have := hn 0 _ (dayAt_get hp)
        rw [nodeOk_at h x hg (dayAt_get hp)] at this
        unfold okAt at this
        simp only [inP, Bool.and_eq_true, decide_eq_true_eq] at this
        simp only
        rw [e0, e1]
        omega
      · have := hn (j + 1) _ he
        rw [nodeOk_at h x hg he] at this
        unfold okAt at this
        simp only [Bool.and_eq_true, decide_eq_true_eq] at this
        simp only
        rw [e2, e3]
        omega
      · have := hn (j + 1) _ he
        have hjd : dayAt b g j = d := by unfold dayAt; rw [hd]; rfl
        rw [nodeOk_at h x hg he] at this
        unfold okAt at this
        simp only at this
        rw [hjd] at this
        simp only [Bool.and_eq_true, decide_eq_true_eq] at this
        simp only
        rw [e2, e3]
        omega
  have hlow : ∀ c, (saysP b c).1 = c.2.2.2.2.1 - highP b c ∧ (saysP b c).2 = c.2.2.2.2.1 - lowP b c := by
    intro c
    unfold saysP highP lowP
    constructor
    · simp only; omega
    · simp only; omega
  constructor
  · intro hp
    refine ⟨fun k n hn => ?_, fun c hc => ?_⟩
    · obtain ⟨i, g, j, d, h1, h2, h3, h4⟩ := node_at' (List.getElem?_eq_some_iff.1 hn).1
      rw [hn] at h4
      cases h4
      rw [h3]
      exact (hnode i g h1).1 (fun l hl => hp l.1 l.2.1 l.2.2 (linksP_mem.2 (.inl ⟨i, g, h1, hl⟩))) j d h2
    · have a1 := hp _ _ _ (linksP_mem.2 (.inr ⟨c, hc, .inl rfl⟩))
      have a2 := hp _ _ _ (linksP_mem.2 (.inr ⟨c, hc, .inr rfl⟩))
      have := hlow c
      unfold apartP
      omega
  · rintro ⟨hn, hc⟩ u v m hl
    rcases linksP_mem.1 hl with ⟨i, g, hig, hl⟩ | ⟨c, hcm, hl⟩
    · exact (hnode i g hig).2 (fun j d hd => hn _ _ (node_get hig hd)) (u, v, m) hl
    · have := hc c hcm
      have := hlow c
      unfold apartP at *
      rcases hl with hl | hl
      · obtain ⟨rfl, rfl, rfl⟩ : u = cy b c ∧ v = cx b c ∧ m = (saysP b c).2 := by simpa using hl
        omega
      · obtain ⟨rfl, rfl, rfl⟩ : u = cx b c ∧ v = cy b c ∧ m = -(saysP b c).1 := by simpa using hl
        omega
theorem gx_bd {x : List Int} (hx : lengthsP b x = true) (v : Int) : -4503599627370496 ≤ gv x v ∧ gv x v ≤ 4503599627370496 := gv_bd (by omega) (lengthsP_iff.1 hx).2 v
set_option maxHeartbeats 2000000 in
theorem RFits_ok (h : Good b) {x : List Int} (hx : lengthsP b x = true) : f_r5_Fits b x = some (fitsP b x) := by
  have hN := h.nodes
  have hG := h.nG
  have hC := h.nC
  have hlx := (lengthsP_iff.1 hx).1
  unfold f_r5_Fits m_r5_Fits
  rw [RNodes_ok h.pre, bindF_some]
  refine Eq.trans (loop_first (nodesP b) (fun k n => if nodeOkB b x k n then none else some false) some (some (decide (∀ c ∈ b.2.2.2.2.1, apartP b c x + lowP b c ≤ c.2.2.2.2.1 ∧ c.2.2.2.2.1 ≤ apartP b c x + highP b c))) (fun k n hk hn kn => ?_) (fun kn => ?_)) ?_
  · try dsimp only
    unfold m_r5_Fits_L0
    obtain ⟨i, g, j, d, h1, h2, h3, h4⟩ := node_at' hk
    rw [hn] at h4
    cases h4
    have hgm := List.mem_of_getElem? h1
    have hr := h.gaugeR hgm
    have r1 := hr.2.2.2.2.2.1
    have r2 := hr.2.2.2.2.2.2.1
    have hfind : b.2.1.findIdx? (fun y => y.1 == g.1) = some i := by
      rcases find_gauge (b := b) (id := g.1) with ⟨j', g', q1, q2, q3⟩ | ⟨q1, q2⟩
      · have : g' = g := by
          rw [gaugeOf_mem h.ids hgm] at q3
          exact (Option.some.inj q3).symm
        subst this
        have := (same_gauge h q2 h1 rfl).1
        rw [q1, this]
      · rw [gaugeOf_mem h.ids hgm] at q2; cases q2
    rw [ifb_lt' hk, iget_nat hn, RFind_ok (b := ((b.1.1, b.1.2), b.2.1, b.2.2.1, b.2.2.2.1, b.2.2.2.2.1, b.2.2.2.2.2)) (by simp only; omega), bindF_some]
    try dsimp only
    rw [hfind]
    try dsimp only
    rw [iget_nat h1, iget_nat hn, h3, nodeOk_at h x h1 h2]
    have hkk := hk
    rw [h3] at hkk
    have x1 := gx_bd hx ((off b i : Int) + j)
    cases j with
    | zero =>
      obtain ⟨tl, htl⟩ := days_head h hgm
      have : d = g.2.1 := by rw [htl] at h2; simpa using h2.symm
      rw [ifb_t (by simp [ieq, this]), Nat.add_zero, iget_gv (by omega) (by omega), ck_ok (by omega) (by omega), ck_ok (by omega) (by omega), RIn_ok, bindF_some]
      have eo : okAt b x i g 0 d = inP (gv x (off b i)) (g.2.2.1 + g.2.2.2.1.1) (g.2.2.1 + g.2.2.2.1.2) := rfl
      rw [eo]
      cases inP (gv x (off b i)) (g.2.2.1 + g.2.2.2.1.1) (g.2.2.1 + g.2.2.2.1.2) with
      | true => rw [ifb_f (by rfl), ck_ok (by omega) (by omega)]; rfl
      | false => rfl
    | succ j =>
      have hjl := (List.getElem?_eq_some_iff.1 h2).1
      obtain ⟨tl, htl⟩ := days_head h hgm
      have hne : d ≠ g.2.1 := by
        have hp1 := days_lt b g
        have h2' := h2
        rw [htl] at h2' hp1
        rw [List.getElem?_cons_succ] at h2'
        have := (List.pairwise_cons.1 hp1).1 d (List.mem_of_getElem? h2')
        omega
      have hj := dayAt_get (b := b) (g := g) (k := j) (by omega)
      have hprev := node_get h1 hj
      have d1 := h.day hgm (List.mem_of_getElem? hj)
      have d2 := h.day hgm (List.mem_of_getElem? h2)
      have x2 := gx_bd hx ((off b i : Int) + j)
      have x3 := gx_bd hx ((off b i : Int) + j + 1)
      have e1 : (((off b i + (j + 1) : Nat) : Int) - 1) = ((off b i + j : Nat) : Int) := by omega
      have e2 : ((off b i + j : Nat) : Int) = (off b i : Int) + j := by omega
      have e3 : ((off b i + (j + 1) : Nat) : Int) = (off b i : Int) + j + 1 := by omega
      rw [ifb_f (by simpa [ieq] using hne), ck_ok (by omega) (by omega), e1, iget_gv (by omega) (by omega), iget_gv (by omega) (by omega), e2, e3, ck_ok (by omega) (by omega), ifb_eq]
      have eo : okAt b x i g (j + 1) d = (decide (0 ≤ gv x ((off b i : Int) + j) - gv x ((off b i : Int) + j + 1)) && decide (gv x ((off b i : Int) + j) - gv x ((off b i : Int) + j + 1) ≤ lossP b g (dayAt b g j) d)) := rfl
      by_cases c1 : gv x ((off b i : Int) + j) - gv x ((off b i : Int) + j + 1) < 0
      · have eo2 : okAt b x i g (j + 1) d = false := by rw [eo, decide_eq_false (by omega)]; rfl
        rw [if_pos (by simpa [ilt] using c1), eo2]
        rfl
      · have hn' : (nodesP b)[off b i + (j + 1)]? = some (g.1, d) := by rw [← h3]; exact hn
        have e4 : (off b i : Int) + j + 1 = ((off b i + (j + 1) : Nat) : Int) := by omega
        rw [if_neg (by simpa [ilt] using c1), ck_ok (by omega) (by omega), e4, ← e2, iget_nat hprev, iget_nat hn']
        try dsimp only
        rw [show f_r5_Loss ((b.1.1, b.1.2), b.2.1, b.2.2.1, b.2.2.2.1, b.2.2.2.2.1, b.2.2.2.2.2) g.1 (dayAt b g j) d = f_r5_Loss b g.1 (dayAt b g j) d from rfl, RLoss_ok h (gaugeOf_mem h.ids hgm) ⟨by omega, by omega⟩ (by omega), bindF_some, ifb_eq]
        by_cases c2 : lossP b g (dayAt b g j) d < gv x ((off b i : Int) + j) - gv x ((off b i : Int) + j + 1)
        · have eo2 : okAt b x i g (j + 1) d = false := by rw [eo, decide_eq_false (show ¬ (gv x ((off b i : Int) + j) - gv x ((off b i : Int) + j + 1) ≤ lossP b g (dayAt b g j) d) by omega), Bool.and_false]
          rw [← e4, e2, if_pos (by simpa [igt] using c2), eo2]
          rfl
        · have eo2 : okAt b x i g (j + 1) d = true := by rw [eo, decide_eq_true (show 0 ≤ gv x ((off b i : Int) + j) - gv x ((off b i : Int) + j + 1) by omega), decide_eq_true (show gv x ((off b i : Int) + j) - gv x ((off b i : Int) + j + 1) ≤ lossP b g (dayAt b g j) d by omega)]; rfl
          rw [← e4, e2, if_neg (by simpa [igt] using c2), ck_ok (by omega) (by omega), eo2]
          rfl
  · try dsimp only
    unfold m_r5_Fits_L0
    rw [ifb_ge]
    try dsimp only
    refine Eq.trans (loop_any b.2.2.2.2.1 (fun c => decide (¬ (apartP b c x + lowP b c ≤ c.2.2.2.2.1 ∧ c.2.2.2.2.1 ≤ apartP b c x + highP b c))) (fun _ => some false) (some false) (some true) (fun _ => rfl) (fun i c hi hc kn => ?_) (fun kn => ?_)) ?_
    · try dsimp only
      unfold m_r5_Fits_L1
      have hcm := List.mem_of_getElem? hc
      have hnn := (numsP_iff c).1 (h.nums hcm)
      have ha := pileP_len hnn.2.2.2.2.2.1
      have hb := pileP_len hnn.2.2.2.2.2.2
      obtain ⟨hv, hd⟩ := apart_bd hx c
      rw [ifb_lt' hi, iget_nat hc, Rone_ok (by omega) (by omega), bindF_some]
      rw [show ∀ id d, f_r5_length ((b.1.1, b.1.2), b.2.1, b.2.2.1, b.2.2.2.1, b.2.2.2.2.1, b.2.2.2.2.2) x id d = f_r5_length b x id d from fun _ _ => rfl, Rlength_ok h.pre hx (by omega), bindF_some, Rone_ok (by omega) (by omega), bindF_some]
      rw [show ∀ id d, f_r5_length ((b.1.1, b.1.2), b.2.1, b.2.2.1, b.2.2.2.1, b.2.2.2.2.1, b.2.2.2.2.2) x id d = f_r5_length b x id d from fun _ _ => rfl, Rlength_ok h.pre hx (by omega), bindF_some, idx_one h.pre, idx_one h.pre]
      rw [show gv (0 :: x) (atP (nodesP b) (leftP c.2.2.1 c.2.2.2.1) c.2.1) - gv (0 :: x) (atP (nodesP b) (leftP c.2.2.2.1 c.2.2.1) c.2.1) = apartP b c x from rfl, ck_ok (by omega) (by omega)]
      rw [show f_r5_Shown ((b.1.1, b.1.2), b.2.1, b.2.2.1, b.2.2.2.1, b.2.2.2.2.1, b.2.2.2.2.2) c (apartP b c x) = f_r5_Shown b c (apartP b c x) from rfl, RShown_ok h.size h.film (h.cmpIn hcm) (by omega), bindF_some, ck_succ hi (by omega), ifb_eq]
      by_cases c1 : c.2.2.2.2.1 < apartP b c x + lowP b c
      · rw [if_pos (by simpa [igt] using c1), if_pos (by rw [decide_eq_true_eq]; omega)]
      · rw [if_neg (by simpa [igt] using c1), ifb_eq]
        by_cases c2 : apartP b c x + highP b c < c.2.2.2.2.1
        · rw [if_pos (by simpa [igt] using c2), if_pos (by rw [decide_eq_true_eq]; omega)]
        · rw [if_neg (by simpa [igt] using c2), if_neg (by rw [decide_eq_true_eq]; omega)]
    · try dsimp only
      unfold m_r5_Fits_L1
      rw [ifb_ge]
    · by_cases hall : ∀ c ∈ b.2.2.2.2.1, apartP b c x + lowP b c ≤ c.2.2.2.2.1 ∧ c.2.2.2.2.1 ≤ apartP b c x + highP b c
      · rw [decide_eq_true hall]
        have : b.2.2.2.2.1.any (fun c => decide (¬ (apartP b c x + lowP b c ≤ c.2.2.2.2.1 ∧ c.2.2.2.2.1 ≤ apartP b c x + highP b c))) = false := by
          rw [List.any_eq_false]
          intro c hc
          have := hall c hc
          rw [decide_eq_true_eq]
          exact fun hn => hn this
        rw [this]; rfl
      · rw [decide_eq_false hall]
        have : b.2.2.2.2.1.any (fun c => decide (¬ (apartP b c x + lowP b c ≤ c.2.2.2.2.1 ∧ c.2.2.2.2.1 ≤ apartP b c x + highP b c))) = true := by
          cases hf : b.2.2.2.2.1.any (fun c => decide (¬ (apartP b c x + lowP b c ≤ c.2.2.2.2.1 ∧ c.2.2.2.2.1 ≤ apartP b c x + highP b c))) with
          | true => rfl
          | false =>
            rw [List.any_eq_false] at hf
            exact (hall fun c hc => by
              have := hf c hc
              rw [decide_eq_true_eq] at this
              exact Classical.not_not.1 this).elim
        rw [this]; rfl
  · cases hf : firstO (fun k n => if nodeOkB b x k n then none else some false) 0 (nodesP b) with
    | none =>
      have hall : ∀ k n, (nodesP b)[k]? = some n → nodeOkB b x k n = true := by
        intro k n hn
        have := firstO_none.1 hf k n hn
        rw [Nat.zero_add] at this
        split at this
        · rename_i hh; exact hh
        · cases this
      simp only
      congr 1
      rw [Bool.eq_iff_iff, decide_eq_true_eq, fits_iff h]
      exact ⟨fun hc => ⟨hall, hc⟩, fun hc => hc.2⟩
    | some v =>
      have hv : v = false := by
        have : ∀ (k : Nat) (l : List (Int × Int)) (v : Bool), firstO (fun k n => if nodeOkB b x k n then none else some false) k l = some v → v = false := by
          intro k l
          induction l generalizing k with
          | nil => intro v hh; cases hh
          | cons a t ih =>
            intro v hh
            unfold firstO at hh
            split at hh
            · rename_i w hw
              split at hw
              · cases hw
              · cases hw; cases hh; rfl
            · exact ih _ _ hh
        exact this _ _ _ hf
      subst hv
      simp only
      congr 1
      symm
      rw [Bool.eq_false_iff]
      intro hfit
      have := ((fits_iff h).1 hfit).1
      rw [firstO_none.2 fun k n hn => by rw [Nat.zero_add, if_pos (this k n hn)]] at hf
      cases hf
end
end Go.Proofs.ZzM
end

noncomputable section
namespace Go.Proofs.ZzM
open Go Go.Am
section
variable {b : Book}
theorem node_own (h : Good b) {i : Nat} {g : Gauge} (hg : b.2.1[i]? = some g) {k : Nat} {n : Int × Int} (hn : (nodesP b)[k]? = some n) : n.1 = g.1 ↔ off b i ≤ k ∧ k < off b i + (daysP b g).length := by
  constructor
  · intro e
    obtain ⟨i0, g0, j0, d0, q1, q2, q3, q4⟩ := node_at' (List.getElem?_eq_some_iff.1 hn).1
    rw [hn] at q4
    cases q4
    obtain ⟨rfl, rfl⟩ := same_gauge h q1 hg e
    have := (List.getElem?_eq_some_iff.1 q2).1
    omega
  · rintro ⟨h1, h2⟩
    have := node_get hg (k := k - off b i) (List.getElem?_eq_getElem (by omega))
    rw [show off b i + (k - off b i) = k by omega, hn] at this
    cases this
    rfl
def stepsTo (b : Book) (i : Nat) (g : Gauge) (k : Nat) : Nat := if k ≤ off b i then 0 else min (k - 1 - off b i) ((daysP b g).length - 1)
theorem steps_in {i : Nat} {g : Gauge} {k : Nat} (h1 : off b i + 1 ≤ k) (h2 : k < off b i + (daysP b g).length) : stepsTo b i g k = k - 1 - off b i ∧ stepsTo b i g (k + 1) = k - off b i := by
  unfold stepsTo
  rw [if_neg (by omega), if_neg (by omega)]
  omega
theorem steps_out {i : Nat} {g : Gauge} (hp : 0 < (daysP b g).length) {k : Nat} (h : ¬ (off b i + 1 ≤ k ∧ k < off b i + (daysP b g).length)) : stepsTo b i g (k + 1) = stepsTo b i g k := by
  unfold stepsTo
  by_cases h1 : k ≤ off b i
  · rw [if_pos h1]
    split
    · rfl
    · omega
  · rw [if_neg h1, if_neg (by omega)]
    omega
theorem RDays_ok (h : Good b) {id : Int} {g : Gauge} (hg : gaugeOf b id = some g) : f_r5_Days b id = some (dayAt b g ((daysP b g).length - 1) - g.2.1) := by
  obtain ⟨hgm, hid⟩ := gaugeOf_some hg
  obtain ⟨i, hi, hgi⟩ := List.mem_iff_getElem.1 hgm
  have hgi' : b.2.1[i]? = some g := by rw [List.getElem?_eq_getElem hi, hgi]
  have hN := h.nodes
  have hp := List.length_pos_of_mem (daysP_ne (b := b) g)
  have ho := off_len h hgi'
  have h0 := dayAt_zero h hgm
  have hday : ∀ k, k < (daysP b g).length → g.2.1 ≤ dayAt b g k ∧ 0 ≤ dayAt b g k ∧ dayAt b g k ≤ 20000 := fun k hk => h.day hgm (List.mem_of_getElem? (dayAt_get hk))
  have hm := (h.gaugeR hgm).2.2.2.2.1
  unfold f_r5_Days m_r5_Days
  rw [RNodes_ok h.pre, bindF_some]
  refine loop_inv (fun s : Int × Int => ∃ k : Nat, 1 ≤ k ∧ k ≤ (nodesP b).length ∧ s = (dayAt b g (stepsTo b i g k) - g.2.1, (k : Int))) (fun s => (nodesP b).length - s.2.toNat) ?_ ⟨1, by omega, by omega, by
    have : stepsTo b i g 1 = 0 := by unfold stepsTo; split <;> omega
    rw [this, h0]
    simp⟩
  rintro s ⟨k, hk1, hk, rfl⟩
  have hst : stepsTo b i g k < (daysP b g).length := by unfold stepsTo; split <;> omega
  have hd1 := hday _ hst
  rcases Nat.lt_or_ge k (nodesP b).length with hlt | hge
  · have hst2 : stepsTo b i g (k + 1) < (daysP b g).length := by unfold stepsTo; split <;> omega
    have hd2 := hday _ hst2
    refine .inr ⟨(dayAt b g (stepsTo b i g (k + 1)) - g.2.1, ((k + 1 : Nat) : Int)), ⟨k + 1, by omega, hlt, rfl⟩, by simp only [Int.toNat_natCast]; omega, fun kn => ?_⟩
    have hn : (nodesP b)[k]? = some (nodesP b)[k] := List.getElem?_eq_getElem hlt
    have hn1 : (nodesP b)[k - 1]? = some ((nodesP b)[k - 1]'(by omega)) := List.getElem?_eq_getElem (by omega)
    have o1 := node_own h hgi' hn
    have o2 := node_own h hgi' hn1
    have e1 : (k : Int) - 1 = ((k - 1 : Nat) : Int) := by omega
    try dsimp only
    unfold m_r5_Days_L0
    rw [ifb_lt' hlt, iget_nat hn, ifb_eq]
    by_cases s0 : (nodesP b)[k].1 = id
    · rw [if_pos (by simp [ieq, s0]), ck_ok (by omega) (by omega), e1, iget_nat hn1, ifb_eq]
      by_cases s1 : ((nodesP b)[k - 1]'(by omega)).1 = id
      · have w1 := o1.1 (by rw [s0, hid])
        have w2 := o2.1 (by rw [s1, hid])
        obtain ⟨t1, t2⟩ := steps_in (b := b) (i := i) (g := g) (k := k) (by omega) w1.2
        have v1 : (nodesP b)[k].2 = dayAt b g (k - off b i) := by
          have := node_get hgi' (dayAt_get (b := b) (g := g) (k := k - off b i) (by omega))
          rw [show off b i + (k - off b i) = k by omega, hn] at this
          rw [Option.some.inj this]
        have v2 : ((nodesP b)[k - 1]'(by omega)).2 = dayAt b g (k - 1 - off b i) := by
          have := node_get hgi' (dayAt_get (b := b) (g := g) (k := k - 1 - off b i) (by omega))
          rw [show off b i + (k - 1 - off b i) = k - 1 by omega, hn1] at this
          rw [Option.some.inj this]
        rw [t1] at hd1 ⊢
        rw [t2] at hd2 ⊢
        rw [if_pos (by simp [ieq, s1]), iget_nat hn, ck_ok (by omega) (by omega), ck_ok (by omega) (by omega), iget_nat hn1, v1, v2, ck_ok (by omega) (by omega), ck_ok (by omega) (by omega)]
        have e2 : dayAt b g (k - 1 - off b i) - g.2.1 + dayAt b g (k - off b i) - dayAt b g (k - 1 - off b i) = dayAt b g (k - off b i) - g.2.1 := by omega
        rw [e2]
        rfl
      · rw [if_neg (by simp [ieq, s1]), ck_ok (by omega) (by omega), steps_out hp (fun hc => s1 (by rw [o2.2 (by omega), hid]))]
        rfl
    · rw [if_neg (by simp [ieq, s0]), ck_ok (by omega) (by omega), steps_out hp (fun hc => s0 (by rw [o1.2 (by omega), hid]))]
      rfl
  · have : k = (nodesP b).length := by omega
    subst this
    refine .inl fun kn => ?_
    have : stepsTo b i g (nodesP b).length = (daysP b g).length - 1 := by unfold stepsTo; split <;> omega
    try dsimp only
    unfold m_r5_Days_L0
    rw [ifb_ge, this]
theorem RWears_inner (h : Good b) {id : Int} {g : Gauge} (hg : gaugeOf b id = some g) {q : Nat} (hq : q + 1 < (daysP b g).length) {k : Nat} {n : Int × Int} (hn : (nodesP b)[k]? = some n) (hnd : n.2 = dayAt b g (q + 1)) {r : Int} (hr0 : 0 ≤ r) (hr1 : r ≤ 9007199254740992) {out : List Int} (ho : out.length ≤ 20001) (K : List Int → Option (List Int)) :
    loopT (fun (v20 : Int × Int × List Int) kk24 => m_r5_Wears_L1 id (nodesP b) (k : Int) b.1.1 b.1.2 b.2.1 b.2.2.1 b.2.2.2.1 b.2.2.2.2.1 b.2.2.2.2.2 v20.1 v20.2.1 v20.2.2 (fun u21 u22 u23 => kk24 (u21, u22, u23)) K) (r, dayAt b g q, out) = K (out ++ spreadP b g (dayAt b g (q + 1) - dayAt b g q).toNat (dayAt b g q) r) := by
  have hgm := (gaugeOf_some hg).1
  have hd2 := dayAt_get hq
  have hlt := dayAt_lt (b := b) (g := g) (show q < q + 1 by omega) hq
  have b1 := h.day hgm (List.mem_of_getElem? (dayAt_get (b := b) (g := g) (show q < _ by omega)))
  have b2 := h.day hgm (List.mem_of_getElem? hd2)
  obtain ⟨m, hm⟩ := Int.eq_ofNat_of_zero_le (show 0 ≤ dayAt b g (q + 1) - dayAt b g q by omega)
  rw [hm, Int.toNat_natCast]
  refine loop_inv (fun s : Int × Int × List Int => ∃ j : Nat, j ≤ m ∧ s = (restP b g j (dayAt b g q) r, dayAt b g q + j, out ++ spreadP b g j (dayAt b g q) r)) (fun s => (dayAt b g (q + 1) - s.2.1).toNat) ?_ ⟨0, by omega, by simp [restP, spreadP]⟩
  rintro s ⟨j, hj, rfl⟩
  have rb := rest_bd h hgm j (dayAt b g q) r hr0
  have db := dayLoss_bound h hgm (dayAt b g q + j)
  rcases Nat.lt_or_ge j m with hlt | hge
  · refine .inr ⟨(restP b g (j + 1) (dayAt b g q) r, dayAt b g q + ((j + 1 : Nat) : Int), out ++ spreadP b g (j + 1) (dayAt b g q) r), ⟨j + 1, hlt, rfl⟩, by simp only; omega, fun kn => ?_⟩
    obtain ⟨s1, s2⟩ := spread_snoc (b := b) g j (dayAt b g q) r
    have hsl := spread_len (b := b) g j (dayAt b g q) r
    have hls : lossP b g (dayAt b g q + j) (dayAt b g q + j + 1) = dayLoss b g (dayAt b g q + j) := by
      rw [loss_step h g (Int.le_refl _), loss_none g (Int.le_refl _)]
      omega
    try dsimp only
    unfold m_r5_Wears_L1
    rw [iget_nat hn, hnd, ifb_t (by simp [ilt]; omega), ck_ok (by omega) (by omega)]
    rw [show f_r5_Loss ((b.1.1, b.1.2), b.2.1, b.2.2.1, b.2.2.2.1, b.2.2.2.2.1, b.2.2.2.2.2) id (dayAt b g q + j) (dayAt b g q + j + 1) = f_r5_Loss b id (dayAt b g q + j) (dayAt b g q + j + 1) from rfl, RLoss_ok h hg ⟨by omega, by omega⟩ (by omega), bindF_some, hls, imin_eq, okLen_of (by simp only [List.length_append, List.length_singleton]; omega), Am.iff_true, ck_ok (by omega) (by omega), ck_ok (by omega) (by omega), s1, s2, List.append_assoc]
    have e : dayAt b g q + (j : Int) + 1 = dayAt b g q + ((j + 1 : Nat) : Int) := by omega
    rw [e]
  · have : j = m := by omega
    subst this
    refine .inl fun kn => ?_
    try dsimp only
    unfold m_r5_Wears_L1
    rw [iget_nat hn, hnd, ifb_f (by simp [ilt]; omega)]
theorem RWears_ok (h : Good b) {id : Int} {g : Gauge} (hg : gaugeOf b id = some g) {x : List Int} (hx : lengthsP b x = true) (hf : fitsP b x = true) : f_r5_Wears b id x = some (wearsG b g x) := by
  obtain ⟨hgm, hid⟩ := gaugeOf_some hg
  obtain ⟨i, hi, hgi⟩ := List.mem_iff_getElem.1 hgm
  have hgi' : b.2.1[i]? = some g := by rw [List.getElem?_eq_getElem hi, hgi]
  have hN := h.nodes
  have hp := List.length_pos_of_mem (daysP_ne (b := b) g)
  have ho := off_len h hgi'
  have hday : ∀ k, k < (daysP b g).length → g.2.1 ≤ dayAt b g k ∧ 0 ≤ dayAt b g k ∧ dayAt b g k ≤ 20000 := fun k hk => h.day hgm (List.mem_of_getElem? (dayAt_get hk))
  have hm := (h.gaugeR hgm).2.2.2.2.1
  have hlx := (lengthsP_iff.1 hx).1
  unfold f_r5_Wears m_r5_Wears wearsG
  rw [RNodes_ok h.pre, bindF_some, offP_eq h hgi']
  refine loop_inv (fun s : Int × List Int => ∃ k : Nat, 1 ≤ k ∧ k ≤ (nodesP b).length ∧ s = ((k : Int), wearsK b g (off b i) x (stepsTo b i g k))) (fun s => (nodesP b).length - s.1.toNat) ?_ ⟨1, by omega, by omega, by
    have : stepsTo b i g 1 = 0 := by unfold stepsTo; split <;> omega
    rw [this]
    simp [wearsK]⟩
  rintro s ⟨k, hk1, hk, rfl⟩
  have hst : stepsTo b i g k < (daysP b g).length := by unfold stepsTo; split <;> omega
  have hd1 := hday _ hst
  have wl := wearsK_len h hgm (off b i) x _ hst
  rcases Nat.lt_or_ge k (nodesP b).length with hlt | hge
  · refine .inr ⟨(((k + 1 : Nat) : Int), wearsK b g (off b i) x (stepsTo b i g (k + 1))), ⟨k + 1, by omega, hlt, rfl⟩, by simp only [Int.toNat_natCast]; omega, fun kn => ?_⟩
    have hn : (nodesP b)[k]? = some (nodesP b)[k] := List.getElem?_eq_getElem hlt
    have hn1 : (nodesP b)[k - 1]? = some ((nodesP b)[k - 1]'(by omega)) := List.getElem?_eq_getElem (by omega)
    have o1 := node_own h hgi' hn
    have o2 := node_own h hgi' hn1
    have e1 : (k : Int) - 1 = ((k - 1 : Nat) : Int) := by omega
    try dsimp only
    unfold m_r5_Wears_L0
    rw [ifb_lt' hlt, iget_nat hn, ifb_eq]
    by_cases s0 : (nodesP b)[k].1 = id
    · rw [if_neg (by simp [ine, s0]), ck_ok (by omega) (by omega), e1, iget_nat hn1, ifb_eq]
      by_cases s1 : ((nodesP b)[k - 1]'(by omega)).1 = id
      · have w1 := o1.1 (by rw [s0, hid])
        have w2 := o2.1 (by rw [s1, hid])
        obtain ⟨q, hq⟩ : ∃ q, k = off b i + (q + 1) := ⟨k - 1 - off b i, by omega⟩
        obtain ⟨t1, t2⟩ := steps_in (b := b) (i := i) (g := g) (k := k) (by omega) w1.2
        have t1' : stepsTo b i g k = q := by omega
        have t2' : stepsTo b i g (k + 1) = q + 1 := by omega
        have hql : q + 1 < (daysP b g).length := by omega
        have v1 : (nodesP b)[k].2 = dayAt b g (q + 1) := by
          have := node_get hgi' (dayAt_get (b := b) (g := g) hql)
          rw [← hq, hn] at this
          rw [Option.some.inj this]
        have v2 : ((nodesP b)[k - 1]'(by omega)).2 = dayAt b g q := by
          have := node_get hgi' (dayAt_get (b := b) (g := g) (k := q) (by omega))
          rw [show off b i + q = k - 1 by omega, hn1] at this
          rw [Option.some.inj this]
        have fs := fit_step h hgi' hx hf hql
        have x1 := gx_bd hx ((off b i : Int) + q)
        have x2 := gx_bd hx ((off b i : Int) + q + 1)
        have hg2 : ∀ f : Int × Int → Option (List Int), iget (nodesP b) ((off b i : Int) + q) f = f ((nodesP b)[k - 1]'(by omega)) := fun f => by
          rw [show (off b i : Int) + q = ((k - 1 : Nat) : Int) by omega]
          exact iget_nat hn1 f
        rw [t1'] at wl hd1 ⊢
        rw [if_neg (by simp [ine, s1]), ck_ok (by omega) (by omega), show ((k - 1 : Nat) : Int) = (off b i : Int) + q by omega, iget_gv (by omega) (by omega), show (k : Int) = (off b i : Int) + q + 1 by omega, iget_gv (by omega) (by omega), ck_ok (by omega) (by omega), ck_ok (by omega) (by omega), hg2, v2]
        have e9 : gv x ((off b i : Int) + q + 1) = gv x (k : Int) := by rw [show (off b i : Int) + q + 1 = (k : Int) by omega]
        rw [show (off b i : Int) + q + 1 = (k : Int) by omega, ← e9]
        have hout : (wearsK b g (off b i) x q).length ≤ 20001 := by omega
        have hr1 : gv x ((off b i : Int) + q) - gv x ((off b i : Int) + q + 1) ≤ 9007199254740992 := by omega
        refine Eq.trans (RWears_inner h hg hql hn v1 fs.1 hr1 hout _) ?_
        rw [ck_ok (by omega) (by omega), t2', wearsK_succ]
        rfl
      · rw [if_pos (by simp [ine, s1]), ck_ok (by omega) (by omega), steps_out hp (fun hc => s1 (by rw [o2.2 (by omega), hid]))]
        rfl
    · rw [if_pos (by simp [ine, s0]), ck_ok (by omega) (by omega), steps_out hp (fun hc => s0 (by rw [o1.2 (by omega), hid]))]
      rfl
  · have : k = (nodesP b).length := by omega
    subst this
    refine .inl fun kn => ?_
    have : stepsTo b i g (nodesP b).length = (daysP b g).length - 1 := by unfold stepsTo; split <;> omega
    try dsimp only
    unfold m_r5_Wears_L0
    rw [ifb_ge, this]
end
end Go.Proofs.ZzM
end

noncomputable section
namespace Go.Proofs.ZzM
open Go Go.Am
theorem same_none {α : Type} [DecidableEq α] {l m : List α} (hl : l.length = m.length) (h : firstO (fun i a => if m[i]? = some a then none else some false) 0 l = none) : l = m := by
  have := firstO_none.1 h
  refine List.ext_getElem hl fun i h1 h2 => ?_
  have h3 := this i l[i] (List.getElem?_eq_getElem h1)
  rw [Nat.zero_add] at h3
  split at h3
  · rename_i h4
    rw [List.getElem?_eq_getElem h2] at h4
    exact (Option.some.inj h4).symm
  · cases h3
theorem same_some {α : Type} [DecidableEq α] {l m : List α} {b : Bool} (h : firstO (fun i a => if m[i]? = some a then none else some false) 0 l = some b) : b = false ∧ l ≠ m := by
  constructor
  · have : ∀ (k : Nat) (x : List α) (b : Bool), firstO (fun i a => if m[i]? = some a then none else some false) k x = some b → b = false := by
      intro k x
      induction x generalizing k with
      | nil => intro b h; cases h
      | cons a t ih =>
        intro b h
        unfold firstO at h
        split at h
        · rename_i c hc
          split at hc
          · cases hc
          · cases hc; cases h; rfl
        · exact ih _ _ h
    exact this _ _ _ h
  · intro e
    subst e
    rw [firstO_none.2 fun j a ha => by rw [Nat.zero_add, if_pos ha]] at h
    cases h
end Go.Proofs.ZzM
end

noncomputable section
namespace Go.Proofs.ZzM
open Go Go.Am
theorem SameInts_ok {l m : List Int} (hn : l.length ≤ 1000000) : f_r5_SameInts l m = some (decide (l = m)) := by
  unfold f_r5_SameInts m_r5_SameInts
  rw [ilen_eq, ilen_eq]
  by_cases hl : l.length = m.length
  · rw [ifb_f (by simp [ine, hl])]
    refine Eq.trans (loop_first l (fun i a => if m[i]? = some a then none else some false) some (some true) (fun i a hi ha kn => ?_) (fun kn => ?_)) ?_
    · try dsimp only
      unfold m_r5_SameInts_L0
      have hm : m[i]? = some m[i] := List.getElem?_eq_getElem (by omega)
      rw [ifb_lt' hi, iget_nat ha, iget_nat hm, ck_succ hi (by omega), hm, ifb_eq]
      by_cases h : a = m[i]
      · simp [ine, h]
      · have h' : ¬ m[i] = a := fun e => h e.symm
        simp [ine, h, h']
    · try dsimp only
      unfold m_r5_SameInts_L0
      rw [ifb_ge]
    · cases h : firstO (fun i a => if m[i]? = some a then none else some false) 0 l with
      | none => simp [same_none hl h]
      | some b =>
        obtain ⟨h1, h2⟩ := same_some h
        simp [h1, h2]
  · rw [ifb_t (by simp [ine]; omega)]
    have : l ≠ m := fun e => hl (by rw [e])
    simp [this]
end Go.Proofs.ZzM
end

noncomputable section
namespace Go.Proofs.ZzM
open Go Go.Am
section
variable {b : Book}
theorem FitsP_good (h : Good b) (x : List Int) : FitsP b x = if lengthsP b x then (fitsP b x, 0) else (false, 1) := by
  unfold FitsP
  rw [if_neg (by simp [(checkP_iff b).2 h])]
theorem asked_nil (h : Good b) (id : Int) : askedP b id [] = if (gaugeOf b id).isNone then 5 else 0 := by
  unfold askedP
  rw [if_neg (by simp [(checkP_iff b).2 h]), mget_shelf h.ids]
  simp
theorem WearsP_good (h : Good b) (id : Int) (x : List Int) : WearsP b id x = match gaugeOf b id with
    | none => ([], 5)
    | some g => if !lengthsP b x then ([], 1) else if !fitsP b x then ([], 8) else if 2000 < dayAt b g ((daysP b g).length - 1) - g.2.1 then ([], 2) else (wearsG b g x, 0) := by
  unfold WearsP
  rw [asked_nil h]
  cases gaugeOf b id with
  | none => rfl
  | some g => rfl
theorem which_good (h : Good b) (i : Int) : whichP b i = if i < 0 ∨ (b.2.2.2.2.1.length : Int) ≤ i then (cmp0, 1) else (b.2.2.2.2.1[i.toNat]?.getD cmp0, 0) := by
  unfold whichP
  rw [if_neg (by simp [(checkP_iff b).2 h])]
def showR (b : Book) (x : List Int) (which : Int) (ok : Bool) : Option Bool :=
  ck ((ilen b.2.2.2.2.1) - (1 : Int)) fun n25 => bindF (f_r5_In which (0 : Int) n25) fun r26 => ifb (!r26) (ifb (ieq (ShowsP b which x).2 (1 : Int)) (some ((dieq (ShowsP b which x).1.1 (0 : Int)) && ((dieq (ShowsP b which x).1.2 (0 : Int)) && true))) (some false)) (ifb (!ok) (ifb (ieq (ShowsP b which x).2 (1 : Int)) (some ((dieq (ShowsP b which x).1.1 (0 : Int)) && ((dieq (ShowsP b which x).1.2 (0 : Int)) && true))) (some false)) (iget b.2.2.2.2.1 which fun e29 => bindF (f_r5_Differ b e29 x) fun r30 => bindF (f_r5_Shown b e29 r30) fun r31 => ifb (igt r31.1 r31.2) (ifb (ieq (ShowsP b which x).2 (5 : Int)) (some ((dieq (ShowsP b which x).1.1 (0 : Int)) && ((dieq (ShowsP b which x).1.2 (0 : Int)) && true))) (some false)) (ifb (ieq (ShowsP b which x).2 (0 : Int)) (some ((dieq (ShowsP b which x).1.1 r31.1) && ((dieq (ShowsP b which x).1.2 r31.2) && true))) (some false))))
theorem showR_ok (h : Good b) (x : List Int) (which : Int) {ok : Bool} (hok : lengthsP b x = ok) : showR b x which ok = some true := by
  subst hok
  have hC := h.nC
  unfold showR
  rw [ilen_eq, ck_ok (by omega) (by omega), RIn_ok, bindF_some]
  by_cases hw : which < 0 ∨ (b.2.2.2.2.1.length : Int) ≤ which
  · have e : ShowsP b which x = ((0, 0), 1) := by
      unfold ShowsP
      rw [which_good h, if_pos hw]
      rfl
    have e2 : inP which 0 ((b.2.2.2.2.1.length : Int) - 1) = false := by
      rw [Bool.eq_false_iff]
      intro hh
      simp only [inP, Bool.and_eq_true, decide_eq_true_eq] at hh
      omega
    rw [e2, e]
    rfl
  · obtain ⟨j, rfl⟩ := Int.eq_ofNat_of_zero_le (show 0 ≤ which by omega)
    have hj : j < b.2.2.2.2.1.length := by omega
    have hc := List.getElem?_eq_getElem hj
    have hcm := List.getElem_mem hj
    have hnn := (numsP_iff _).1 (h.nums hcm)
    have ha := pileP_len hnn.2.2.2.2.2.1
    have hb := pileP_len hnn.2.2.2.2.2.2
    have e2 : inP (j : Int) 0 ((b.2.2.2.2.1.length : Int) - 1) = true := by
      simp only [inP, Bool.and_eq_true, decide_eq_true_eq]
      omega
    have hwh : whichP b (j : Int) = (b.2.2.2.2.1[j], 0) := by
      rw [which_good h, if_neg hw, Int.toNat_natCast, hc]
      rfl
    rw [e2, ifb_f (by rfl)]
    cases hl : lengthsP b x with
    | false =>
      have e : ShowsP b (j : Int) x = ((0, 0), 1) := by
        unfold ShowsP
        rw [hwh, hl]
        rfl
      rw [e]
      rfl
    | true =>
      obtain ⟨hv, hd⟩ := apart_bd hl b.2.2.2.2.1[j]
      have e : ShowsP b (j : Int) x = shownP b b.2.2.2.2.1[j] (apartP b b.2.2.2.2.1[j] x, apartP b b.2.2.2.2.1[j] x) := by
        unfold ShowsP
        rw [hwh, hl]
        rfl
      rw [ifb_f (by rfl), iget_nat hc, RDiffer_ok h hl (by omega) (by omega), bindF_some, RShown_ok h.size h.film (h.cmpIn hcm) (by omega), bindF_some, e, ifb_eq]
      dsimp only
      unfold shownP
      by_cases hlt : highP b b.2.2.2.2.1[j] < lowP b b.2.2.2.2.1[j]
      · rw [if_pos (by simp [igt]; omega), if_pos hlt]
        rfl
      · rw [if_neg (by simp [igt]; omega), if_neg hlt]
        simp [ieq, dieq]
def wearR (b : Book) (x : List Int) (id which : Int) (ok : Bool) (w : List Int) (e want : Int) : Option Bool :=
  ifb (ine e want) (some false) (ifb (ine want (0 : Int)) (ifb (igt (ilen w) (0 : Int)) (some false) (ifb (ieq want (0 : Int)) (bindF (f_r5_Wears b id x) fun r21 => bindF (f_r5_SameInts w r21) fun r22 => ifb (!r22) (some false) (showR b x which ok)) (showR b x which ok))) (ifb (ieq want (0 : Int)) (bindF (f_r5_Wears b id x) fun r23 => bindF (f_r5_SameInts w r23) fun r24 => ifb (!r24) (some false) (showR b x which ok)) (showR b x which ok)))
theorem wearR_err (h : Good b) (x : List Int) (id which : Int) {ok : Bool} (hok : lengthsP b x = ok) {e : Int} (he : e ≠ 0) : wearR b x id which ok [] e e = some true := by
  unfold wearR
  rw [ifb_f (by simp [ine]), ifb_t (by simpa [ine] using he), ilen_eq, ifb_f (by rfl), ifb_f (by simpa [ieq] using he)]
  exact showR_ok h x which hok
theorem wearR_ok (h : Good b) {x : List Int} {id : Int} {g : Gauge} (hg : gaugeOf b id = some g) (hx : lengthsP b x = true) (hf : fitsP b x = true) (hlen : (wearsG b g x).length ≤ 1000000) (which : Int) : wearR b x id which true (wearsG b g x) 0 0 = some true := by
  unfold wearR
  rw [ifb_f (by rfl), ifb_f (by rfl), ifb_t (by rfl), RWears_ok h hg hx hf, bindF_some, SameInts_ok hlen, bindF_some, ifb_f (by simp)]
  exact showR_ok h x which hx
set_option maxHeartbeats 4000000 in
theorem fits_law {b : Book} (hn : ∀ g ∈ b.2.1, I64 g.2.2.2.2.1.1) (x : List Int) (id which : Int) : f_w5_CompareFits b x id which = some true := by
  unfold f_w5_CompareFits m_w5_CompareFits
  rw [small_ok, bindF_some, sanity_ok]
  by_cases hs : smallP b = true
  · obtain ⟨hsz, hC, _⟩ := small_size hs
    have hI : In b := ⟨hsz, hn⟩
    have hG := hsz.gauges
    rw [ifb_f (by simp [hs]), ilen_eq x]
    by_cases h70 : 70 < x.length
    · rw [ifb_t (by simp [igt]; omega), bindF_some]
    rw [ifb_f (by simp [igt]; omega), Fits_ok hsz hn, bindF_some, Wears_ok hI, bindF_some, Shows_ok hI, bindF_some, RCheck_ok hsz, bindF_some]
    simp only [bindF_some, ifb_true]
    by_cases hc : checkP b = 0
    · have h := (checkP_iff b).1 hc
      have hl := listed_ok h.pre x (by omega)
      rw [ifb_f (by simp [ine, hc]), hl, bindF_some, joinT_eq, FitsP_good h, WearsP_good h]
      have hfind : ∀ k0 k1 : Option Bool, (bindF (f_r5_Find b id) fun r17 => ifb (ilt r17 (0 : Int)) k0 k1) = if (gaugeOf b id).isNone then k0 else k1 := fun k0 k1 => by
        rw [RFind_ok (by omega), bindF_some, ifb_eq]
        rcases find_gauge (b := b) (id := id) with ⟨j, g, h1, h2, h3⟩ | ⟨h1, h2⟩
        · rw [h1, h3]
          simp [ilt]
          intro hh
          omega
        · rw [h1, h2]
          simp [ilt]
      cases hx : lengthsP b x with
      | false =>
        rw [ifb_false]
        dsimp only
        rw [joinT_eq]
        dsimp only
        simp only [Bool.false_eq_true, if_false, Bool.not_false, if_true, ifb_true, ifb_false]
        rw [ifb_f (by rfl), ifb_f (by rfl)]
        try dsimp only
        rw [joinT_eq]
        dsimp only
        rw [show f_r5_Find ((b.1.1, b.1.2), b.2.1, b.2.2.1, b.2.2.2.1, b.2.2.2.2.1, b.2.2.2.2.2) id = f_r5_Find b id from rfl, hfind]
        cases hg : gaugeOf b id with
        | none =>
          rw [if_pos (by rfl)]
          try dsimp only
          rw [joinT_eq]
          exact wearR_err h x id which hx (e := 5) (by omega)
        | some g =>
          rw [if_neg (by simp)]
          try dsimp only
          rw [joinT_eq]
          exact wearR_err h x id which hx (e := 1) (by omega)
      | true =>
        rw [ifb_true, RFits_ok h hx, bindF_some]
        dsimp only
        rw [joinT_eq]
        dsimp only
        simp only [Bool.not_true, Bool.false_eq_true, if_false, if_true, ifb_true, ifb_false]
        rw [ifb_f (by simp), ifb_f (by rfl)]
        try dsimp only
        rw [joinT_eq]
        dsimp only
        rw [show f_r5_Find ((b.1.1, b.1.2), b.2.1, b.2.2.1, b.2.2.2.1, b.2.2.2.2.1, b.2.2.2.2.2) id = f_r5_Find b id from rfl, hfind]
        cases hg : gaugeOf b id with
        | none =>
          rw [if_pos (by rfl)]
          try dsimp only
          rw [joinT_eq]
          exact wearR_err h x id which hx (e := 5) (by omega)
        | some g =>
          obtain ⟨hgm, hid⟩ := gaugeOf_some hg
          rw [if_neg (by simp)]
          cases hf : fitsP b x with
          | false =>
            rw [ifb_t (by rfl)]
            try dsimp only
            rw [joinT_eq]
            exact wearR_err h x id which hx (e := 8) (by omega)
          | true =>
            rw [ifb_f (by rfl), show f_r5_Days ((b.1.1, b.1.2), b.2.1, b.2.2.1, b.2.2.2.1, b.2.2.2.2.1, b.2.2.2.2.2) id = f_r5_Days b id from rfl, RDays_ok h hg, bindF_some, ifb_eq]
            dsimp only
            simp only [Bool.not_true, Bool.false_eq_true, if_false]
            by_cases h2 : 2000 < dayAt b g ((daysP b g).length - 1) - g.2.1
            · rw [if_pos (by simpa [igt] using h2), if_pos h2]
              try dsimp only
              rw [joinT_eq]
              exact wearR_err h x id which hx (e := 2) (by omega)
            · rw [if_neg (by simpa [igt] using h2), if_neg h2]
              try dsimp only
              rw [joinT_eq]
              have hp := List.length_pos_of_mem (daysP_ne (b := b) g)
              have hwl : (wearsG b g x).length ≤ 1000000 := by
                have := wearsK_len h hgm (offP b g) x ((daysP b g).length - 1) (by omega)
                unfold wearsG
                omega
              exact wearR_ok h hg hx hf hwl which
    · have e1 : FitsP b x = (false, checkP b) := by unfold FitsP; rw [if_pos hc]
      have e2 : WearsP b id x = ([], checkP b) := by
        have : askedP b id [] = checkP b := by unfold askedP; rw [if_pos hc]
        unfold WearsP
        rw [this, if_pos hc]
      have e3 : ShowsP b which x = ((0, 0), checkP b) := by
        have : whichP b which = (cmp0, checkP b) := by unfold whichP; rw [if_pos hc]
        unfold ShowsP
        rw [this, if_pos hc]
      rw [ifb_t (by simpa [ine] using hc), e1, e2, e3]
      dsimp only
      rw [ifb_t (by simp [ieq]), ifb_t (by simp [ieq]), ifb_t (by simp [ieq]), ifb_t (by rfl), ilen_eq, ifb_t (by rfl)]
      rfl
  · rw [ifb_t (by simp [hs]), bindF_some]
end
end Go.Proofs.ZzM
end
