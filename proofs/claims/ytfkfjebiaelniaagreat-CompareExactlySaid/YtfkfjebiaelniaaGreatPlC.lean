/- lemmas: PlL0 PlK PlExact -/
import Derived.Test.YtfkfjebiaelniaaGreatPlB
import Derived.Test.YtfkfjebiaelniaaGreatMdT
set_option linter.all false
set_option linter.unusedSectionVars false
set_option linter.unusedVariables false
set_option linter.unusedSimpArgs false
section
set_option linter.unusedVariables false
set_option linter.unusedSimpArgs false
namespace Go.Proofs.ZzM
open Go Go.Am

/-- is a book not too large to be looked at? -/
def smallP (b : Book) : Bool :=
  !((b.2.2.2.2.1.take 60).any fun c => decide (9 < c.2.2.1.length) || decide (9 < c.2.2.2.1.length)) && (decide (b.2.1.length ≤ 14) && (decide (b.2.2.1.length ≤ 42) && (decide (b.2.2.2.1.length ≤ 14) && (decide (b.2.2.2.2.1.length ≤ 42) && decide (b.2.2.2.2.2.length ≤ 12)))))
theorem small_ok (b : Book) : f_wringinglaw05_small b = some (smallP b) := by
  unfold f_wringinglaw05_small m_wringinglaw05_small
  have last : (ifb (ile (ilen b.2.1) (14 : Int)) (ifb (ile (ilen b.2.2.1) (42 : Int)) (ifb (ile (ilen b.2.2.2.1) (14 : Int)) (ifb (ile (ilen b.2.2.2.2.1) (42 : Int)) (some (ile (ilen b.2.2.2.2.2) (12 : Int))) (some false)) (some false)) (some false)) (some false)) =
      some (decide (b.2.1.length ≤ 14) && (decide (b.2.2.1.length ≤ 42) && (decide (b.2.2.2.1.length ≤ 14) && (decide (b.2.2.2.2.1.length ≤ 42) && decide (b.2.2.2.2.2.length ≤ 12))))) := by
    have e : ∀ (n m : Nat), ile (n : Int) (m : Int) = decide (n ≤ m) := fun n m => by simp [ile]
    rw [ilen_eq, ilen_eq, ilen_eq, ilen_eq, ilen_eq, show (14 : Int) = ((14 : Nat) : Int) from rfl, show (42 : Int) = ((42 : Nat) : Int) from rfl, show (12 : Int) = ((12 : Nat) : Int) from rfl, e, e, e, e, e]
    generalize decide (b.2.1.length ≤ 14) = x1
    generalize decide (b.2.2.1.length ≤ 42) = x2
    generalize decide (b.2.2.2.1.length ≤ 14) = x3
    generalize decide (b.2.2.2.2.1.length ≤ 42) = x4
    cases x1 <;> cases x2 <;> cases x3 <;> cases x4 <;> rfl
  refine Eq.trans (loop_any (b.2.2.2.2.1.take 60) (fun c => decide (9 < c.2.2.1.length) || decide (9 < c.2.2.2.1.length)) (fun _ => some false) (some false) (some (decide (b.2.1.length ≤ 14) && (decide (b.2.2.1.length ≤ 42) && (decide (b.2.2.2.1.length ≤ 14) && (decide (b.2.2.2.2.1.length ≤ 42) && decide (b.2.2.2.2.2.length ≤ 12)))))) (fun _ => rfl) (fun i c hi hc kn => ?_) (fun kn => ?_)) ?_
  · try dsimp only
    unfold m_wringinglaw05_small_L0
    rw [List.length_take] at hi
    have hc' : b.2.2.2.2.1[i]? = some c := by rw [List.getElem?_take] at hc; split at hc <;> simp_all
    rw [ifb_lt' (show i < b.2.2.2.2.1.length by omega), ifb_t (by simp [ilt]; omega), iget_nat hc', iget_nat hc', ck_ok (by omega) (by omega), ifb_eq, ilen_eq, ilen_eq]
    by_cases h1 : 9 < c.2.2.1.length
    · rw [if_pos (by simp [igt]; omega), if_pos (by simp [h1])]
    · rw [if_neg (by simp [igt]; omega), ifb_eq]
      by_cases h2 : 9 < c.2.2.2.1.length
      · rw [if_pos (by simp [igt]; omega), if_pos (by simp [h2])]
      · rw [if_neg (by simp [igt]; omega), if_neg (by simp [h1, h2])]
  · try dsimp only
    unfold m_wringinglaw05_small_L0
    rw [last, List.length_take, ifb_eq]
    split
    · rename_i h
      have h' : 60 < b.2.2.2.2.1.length := by rw [ilen_eq] at h; simp [ilt] at h; omega
      rw [ifb_f (by simp [ilt]; omega)]
    · rfl
  · unfold smallP
    cases List.any (List.take 60 b.2.2.2.2.1) (fun c => decide (9 < c.2.2.1.length) || decide (9 < c.2.2.2.1.length)) <;> rfl
theorem small_size {b : Book} (h : smallP b = true) : SizeOk b ∧ b.2.2.2.2.1.length ≤ 42 ∧ ∀ c ∈ b.2.2.2.2.1, c.2.2.1.length ≤ 9 ∧ c.2.2.2.1.length ≤ 9 := by
  simp only [smallP, Bool.and_eq_true, Bool.not_eq_true', decide_eq_true_eq] at h
  obtain ⟨h0, h1, h2, h3, h4, h5⟩ := h
  have hp : ∀ c ∈ b.2.2.2.2.1, c.2.2.1.length ≤ 9 ∧ c.2.2.2.1.length ≤ 9 := by
    intro c hc
    rw [List.take_of_length_le (by omega)] at h0
    have := List.any_eq_false.1 h0 c hc
    simp at this
    omega
  exact ⟨⟨by omega, by omega, by omega, by omega, by omega, fun c hc => by have := hp c hc; omega⟩, h4, hp⟩

theorem FitsP_iff {b : Book} {x : List Int} : FitsP b x = (true, 0) ↔ Good b ∧ lengthsP b x = true ∧ fitsP b x = true := by
  unfold FitsP
  constructor
  · intro h
    split at h
    · cases h
    · rename_i hc
      have hc0 : checkP b = 0 := by simpa using hc
      split at h
      · rename_i hl
        simp only [Prod.mk.injEq, and_true] at h
        exact ⟨(checkP_iff b).1 hc0, hl, h⟩
      · cases h
  · rintro ⟨h1, h2, h3⟩
    rw [if_neg (by simp [(checkP_iff b).2 h1]), if_pos h2, h3]
theorem lengthsP_iff {b : Book} {x : List Int} : lengthsP b x = true ↔ x.length = (nodesP b).length ∧ ∀ n ∈ x, -4503599627370496 ≤ n ∧ n ≤ 4503599627370496 := by
  simp [lengthsP, inP]
theorem fitsL_iff {L : List Lk} {x : List Int} : fitsL L x = true ↔ Pot L (gv x) := by
  simp only [fitsL, List.all_eq_true, decide_eq_true_eq, Pot]
  exact ⟨fun h u v m hl => h (u, v, m) hl, fun h l hl => h l.1 l.2.1 l.2.2 hl⟩
theorem gv_cons (a : Int) (x : List Int) {v : Int} (hv : 0 ≤ v) : gv (a :: x) v = if v = 0 then a else gv x (v - 1) := by
  unfold gv
  by_cases h : v = 0
  · subst h; rfl
  · obtain ⟨n, rfl⟩ := Int.eq_ofNat_of_zero_le hv
    cases n with
    | zero => simp at h
    | succ n =>
      have e : (((n + 1 : Nat) : Int) - 1).toNat = n := by omega
      rw [if_neg h, e]
      simp
theorem gv_zip {f : Int → Int → Int} {x y : List Int} (hl : x.length = y.length) {v : Int} (h0 : 0 ≤ v) (h1 : v < x.length) : gv (List.zipWith f x y) v = f (gv x v) (gv y v) := by
  obtain ⟨n, rfl⟩ := Int.eq_ofNat_of_zero_le h0
  have hx : n < x.length := by omega
  have hy : n < y.length := by omega
  unfold gv
  rw [Int.toNat_natCast, List.getElem?_eq_getElem (show n < (List.zipWith f x y).length by simp; omega), List.getElem?_eq_getElem hx, List.getElem?_eq_getElem hy, List.getElem_zipWith]
  rfl
/-- lists made of two lists that fit -/
theorem zip_fits {b : Book} (h : Good b) {f : Int → Int → Int} (hf0 : f 0 0 = 0) (hfb : ∀ a c, -4503599627370496 ≤ a ∧ a ≤ 4503599627370496 → -4503599627370496 ≤ c ∧ c ≤ 4503599627370496 → -4503599627370496 ≤ f a c ∧ f a c ≤ 4503599627370496) (hfp : ∀ a a' c c' m : Int, a' ≤ a + m → c' ≤ c + m → f a' c' ≤ f a c + m)
    {x y : List Int} (hx : lengthsP b x = true) (hy : lengthsP b y = true) (fx : fitsP b x = true) (fy : fitsP b y = true) : FitsP b (List.zipWith f x y) = (true, 0) := by
  rw [FitsP_iff]
  obtain ⟨lx, bx⟩ := lengthsP_iff.1 hx
  obtain ⟨ly, by'⟩ := lengthsP_iff.1 hy
  refine ⟨h, lengthsP_iff.2 ⟨by simp; omega, fun n hn => ?_⟩, ?_⟩
  · obtain ⟨i, hi, rfl⟩ := List.mem_iff_getElem.1 hn
    simp only [List.length_zipWith] at hi
    rw [List.getElem_zipWith]
    exact hfb _ _ (bx _ (List.getElem_mem _)) (by' _ (List.getElem_mem _))
  · have px := fitsL_iff.1 (show fitsL (linksP b) (0 :: x) = true from fx)
    have py := fitsL_iff.1 (show fitsL (linksP b) (0 :: y) = true from fy)
    refine fitsL_iff.2 fun u v m hl => ?_
    have hr := h.sys.inr _ hl
    have key : ∀ v : Int, 0 ≤ v → v < ((nodesP b).length + 1 : Nat) → gv (0 :: List.zipWith f x y) v = f (gv (0 :: x) v) (gv (0 :: y) v) := by
      intro v h0 h1
      rw [gv_cons _ _ h0, gv_cons _ _ h0, gv_cons _ _ h0]
      by_cases hv : v = 0
      · simp [hv, hf0]
      · simp only [hv, if_false]
        exact gv_zip (by omega) (by omega) (by omega)
    rw [key v hr.2.1 hr.2.2, key u hr.1.1 hr.1.2]
    exact hfp _ _ _ _ _ (px u v m hl) (py u v m hl)

def nearF (a c : Int) : Int := a + (if c < a then -1 else if a < c then 1 else 0)

theorem zip_take {f : Int → Int → Int} {x y : List Int} {i : Nat} {a c : Int} (ha : x[i]? = some a) (hc : y[i]? = some c) : List.zipWith f (x.take (i + 1)) (y.take (i + 1)) = List.zipWith f (x.take i) (y.take i) ++ [f a c] := by
  obtain ⟨h1, _⟩ := List.getElem?_eq_some_iff.1 ha
  obtain ⟨h2, _⟩ := List.getElem?_eq_some_iff.1 hc
  rw [take_succ ha, take_succ hc, List.zipWith_append (by rw [List.length_take, List.length_take]; omega)]
  rfl

end Go.Proofs.ZzM
end

section
set_option linter.unusedVariables false
set_option linter.unusedSimpArgs false
namespace Go.Proofs.ZzM
open Go Go.Am

section
variable {b : Book}
theorem off_all : off b b.2.1.length = (nodesP b).length := by unfold off nodesP; rw [List.take_length]
theorem off_find : ∀ n, n ≤ b.2.1.length → ∀ j, j < off b n → ∃ (i : Nat) (g : Gauge) (k : Nat), b.2.1[i]? = some g ∧ k < (daysP b g).length ∧ j = off b i + k := by
  intro n
  induction n with
  | zero => intro _ j hj; simp [off] at hj
  | succ n ih =>
    intro hn j hj
    have hg : b.2.1[n]? = some b.2.1[n] := List.getElem?_eq_getElem (by omega)
    rw [off_succ hg] at hj
    by_cases h : j < off b n
    · exact ih (by omega) j h
    · exact ⟨n, _, j - off b n, hg, by omega, by omega⟩
theorem node_split {v : Int} (h0 : 1 ≤ v) (h1 : v < ((nodesP b).length + 1 : Nat)) : ∃ (i : Nat) (g : Gauge) (k : Nat), b.2.1[i]? = some g ∧ k < (daysP b g).length ∧ v = (off b i : Int) + k + 1 := by
  obtain ⟨i, g, k, h2, h3, h4⟩ := off_find (b := b) b.2.1.length (Nat.le_refl _) (v - 1).toNat (by rw [off_all]; omega)
  exact ⟨i, g, k, h2, h3, by omega⟩
/-- a way from the node 0 to each node -/
theorem tied_to (h : Good b) {v : Int} (h0 : 0 ≤ v) (h1 : v < ((nodesP b).length + 1 : Nat)) : ∃ vs d, Wl (linksP b) (fun u => u = 0) vs v d ∧ d ≤ 4503599627370496 := by
  by_cases hv : v = 0
  · exact ⟨[], 0, .nil hv, by omega⟩
  obtain ⟨i, g, k, hg, hk, rfl⟩ := node_split (by omega) h1
  have hr := h.gaugeR (List.mem_of_getElem? hg)
  have r1 := hr.2.2.2.2.2.1
  have r2 := hr.2.2.2.2.2.2.1
  have key : ∀ k : Nat, k < (daysP b g).length → ∃ vs, Wl (linksP b) (fun u => u = 0) vs ((off b i : Int) + k + 1) (g.2.2.1 + g.2.2.2.1.2) := by
    intro k
    induction k with
    | zero =>
      intro _
      have hw : Wl (linksP b) (fun u => u = 0) [0] ((off b i : Int) + 1) (0 + (g.2.2.1 + g.2.2.2.1.2)) := Wl.step (.nil rfl) (linksP_mem.2 (.inl ⟨i, g, hg, (gaugeLinks_mem h hg).2 (.inl rfl)⟩))
      rw [Int.zero_add] at hw
      exact ⟨[0], by simpa using hw⟩
    | succ k ih =>
      intro hk
      obtain ⟨vs, hw⟩ := ih (by omega)
      have hw' := Wl.step hw (linksP_mem.2 (.inl ⟨i, g, hg, (gaugeLinks_mem h hg).2 (.inr (.inr ⟨k, _, _, List.getElem?_eq_getElem (show k < _ by omega), List.getElem?_eq_getElem hk, .inl rfl⟩))⟩))
      rw [Int.add_zero] at hw'
      have e : (off b i : Int) + ((k + 1 : Nat) : Int) + 1 = (off b i : Int) + k + 2 := by push_cast; omega
      exact ⟨_, by rw [e]; exact hw'⟩
  obtain ⟨vs, hw⟩ := key k hk
  exact ⟨vs, _, hw, by omega⟩
/-- a way from each node to the node 0 -/
theorem tied_from (h : Good b) {v : Int} (h0 : 0 ≤ v) (h1 : v < ((nodesP b).length + 1 : Nat)) : ∃ vs d, Wl (linksP b) (fun u => u = v) vs 0 d ∧ d ≤ 4503599627370496 := by
  by_cases hv : v = 0
  · exact ⟨[], 0, .nil hv.symm, by omega⟩
  obtain ⟨i, g, k, hg, hk, rfl⟩ := node_split (by omega) h1
  have hgm := List.mem_of_getElem? hg
  have hr := h.gaugeR hgm
  have r1 := hr.2.2.2.2.2.1
  have r2 := hr.2.2.2.2.2.2.1
  have hd := days_len h hgm
  have key : ∀ m : Nat, m ≤ k → ∃ vs d, Wl (linksP b) (fun u => u = (off b i : Int) + k + 1) vs ((off b i : Int) + (k - m : Nat) + 1) d ∧ d ≤ m * (12 * (20001 * 1048576) + 40 * 1048576) := by
    intro m
    induction m with
    | zero => intro _; exact ⟨[], 0, .nil (by simp), by simp⟩
    | succ m ih =>
      intro hm
      obtain ⟨vs, d, hw, hd⟩ := ih (by omega)
      have e1 : ((k - m : Nat) : Int) = ((k - (m + 1) : Nat) : Int) + 1 := by omega
      have hl : (((off b i : Int) + (k - (m + 1) : Nat) + 2, (off b i : Int) + (k - (m + 1) : Nat) + 1, lossP b g ((daysP b g)[k - (m + 1)]'(by omega)) ((daysP b g)[k - (m + 1) + 1]'(by omega))) : Lk) ∈ linksP b :=
        linksP_mem.2 (.inl ⟨i, g, hg, (gaugeLinks_mem h hg).2 (.inr (.inr ⟨k - (m + 1), _, _, List.getElem?_eq_getElem (by omega), List.getElem?_eq_getElem (by omega), .inr rfl⟩))⟩)
      have hb := lossP_bound h hgm (f := (daysP b g)[k - (m + 1)]'(by omega)) (t := (daysP b g)[k - (m + 1) + 1]'(by omega)) (h.day hgm (List.getElem_mem _)).2.1
      have e2 : (off b i : Int) + (k - m : Nat) + 1 = (off b i : Int) + (k - (m + 1) : Nat) + 2 := by omega
      rw [e2] at hw
      exact ⟨_, _, .step hw hl, by push_cast; omega⟩
  obtain ⟨vs, d, hw, hdb⟩ := key k (Nat.le_refl _)
  have e : (off b i : Int) + (k - k : Nat) + 1 = (off b i : Int) + 1 := by omega
  rw [e] at hw
  have hw' := Wl.step hw (linksP_mem.2 (.inl ⟨i, g, hg, (gaugeLinks_mem h hg).2 (.inr (.inl rfl))⟩))
  exact ⟨_, _, hw', by omega⟩
/-- numbers that obey the links of a book lie near that of the node 0 -/
theorem pot_near (h : Good b) {p : Int → Int} (hp : Pot (linksP b) p) {v : Int} (h0 : 0 ≤ v) (h1 : v < ((nodesP b).length + 1 : Nat)) : -4503599627370496 ≤ p v - p 0 ∧ p v - p 0 ≤ 4503599627370496 := by
  obtain ⟨vs, d, hw, hd⟩ := tied_to h h0 h1
  obtain ⟨ws, e, hx, he⟩ := tied_from h h0 h1
  obtain ⟨s, rfl, hs⟩ := hw.pot hp
  obtain ⟨t, rfl, ht⟩ := hx.pot hp
  omega
end

/-- every node is tied to the node 0 -/
structure TiedL (L : List Lk) (N : Nat) : Prop where
  to : ∀ v : Int, 0 ≤ v → v < N → ∃ vs d, Wl L (fun u => u = 0) vs v d ∧ d ≤ 4503599627370496
  from' : ∀ v : Int, 0 ≤ v → v < N → ∃ vs d, Wl L (fun u => u = v) vs 0 d ∧ d ≤ 4503599627370496
theorem Good.tied {b : Book} (h : Good b) : TiedL (linksP b) ((nodesP b).length + 1) := ⟨fun v h0 h1 => tied_to h h0 h1, fun v h0 h1 => tied_from h h0 h1⟩

section
variable {L : List Lk} {N : Nat}
theorem one_wl {L : List Lk} {s : Int} {vs : List Int} {v d : Int} : Wl L (fun v => oneS s v = true) vs v d ↔ Wl L (fun u => u = s) vs v d :=
  ⟨fun h => h.mono fun u hu => by simpa [oneS] using hu, fun h => h.mono fun u hu => by simpa [oneS] using hu⟩
def leastP (L : List Lk) (N : Nat) : List Int := (List.range N).map fun (n : Nat) => -(gv (boundsP L N n) 0)
theorem boundsP_len (s : Int) : (boundsP L N s).length = N := by unfold boundsP; rw [passes_length, start_length]
theorem leastP_len : (leastP L N).length = N := by simp [leastP]
theorem leastP_gv {v : Int} (h0 : 0 ≤ v) (h1 : v < N) : gv (leastP L N) v = -(gv (boundsP L N v) 0) := by
  unfold gv leastP
  rw [List.getElem?_map, List.getElem?_range (by omega)]
  simp only [Option.map_some, Option.getD_some, Int.toNat_of_nonneg h0]
  rfl
theorem bounds0_ne (h : SysOk L N) (ht : TiedL L N) (ho : openP L N = true) {v : Int} (h0 : 0 ≤ v) (h1 : v < N) : gv (boundsP L N 0) v ≤ 4503599627370496 := by
  have h2 := h.n60
  have h3 := h.n1
  obtain ⟨p, hp⟩ := (openP_iff h.links (by omega)).1 ho
  obtain ⟨vs, d, hw, hd⟩ := ht.to v h0 h1
  have := (bounds_dist h.links (by omega) hp (s := 0) ⟨by omega, by omega⟩).low v vs d (one_wl.2 hw)
  omega
theorem boundsV_ne (h : SysOk L N) (ht : TiedL L N) (ho : openP L N = true) {v : Int} (h0 : 0 ≤ v) (h1 : v < N) : gv (boundsP L N v) 0 ≤ 4503599627370496 := by
  have h2 := h.n60
  have h3 := h.n1
  obtain ⟨p, hp⟩ := (openP_iff h.links (by omega)).1 ho
  obtain ⟨vs, d, hw, hd⟩ := ht.from' v h0 h1
  have := (bounds_dist h.links (by omega) hp (s := v) ⟨h0, h1⟩).low 0 vs d (one_wl.2 hw)
  omega
theorem bounds_self (h : SysOk L N) (ho : openP L N = true) {v : Int} (h0 : 0 ≤ v) (h1 : v < N) : gv (boundsP L N v) v = 0 := by
  have h2 := h.n60
  obtain ⟨p, hp⟩ := (openP_iff h.links (by omega)).1 ho
  have hd := bounds_dist h.links (by omega) hp (s := v) ⟨h0, h1⟩
  have h3 := hd.low v [] 0 (.nil (by simp [oneS]))
  obtain ⟨vs, hw⟩ := hd.att v h0 h1 (by unfold Free; omega)
  obtain ⟨s, hs, hx⟩ := (one_wl.1 hw).pot hp
  subst hs
  omega
/-- the bounds from the node 0 are a solution -/
theorem bounds0_pot (h : SysOk L N) (ht : TiedL L N) (ho : openP L N = true) : Pot L (gv (boundsP L N 0)) := by
  have h2 := h.n60
  have h3 := h.n1
  obtain ⟨p, hp⟩ := (openP_iff h.links (by omega)).1 ho
  intro u v m hl
  have hr := h.inr _ hl
  have := bounds0_ne h ht ho hr.1.1 hr.1.2
  exact (bounds_dist h.links (by omega) hp (s := 0) ⟨by omega, by omega⟩).pot h.inr hl (by simp only at this; unfold Free; omega)
/-- a walk may be begun one link earlier -/
theorem Wl.cons {u v m : Int} (hl : (u, v, m) ∈ L) {vs : List Int} {w d : Int} (hw : Wl L (fun x => x = v) vs w d) : ∃ vs', Wl L (fun x => x = u) vs' w (m + d) := by
  induction hw with
  | nil h =>
    subst h
    have := Wl.step (S := fun x => x = u) (.nil rfl) hl
    rw [Int.zero_add] at this
    exact ⟨_, by rw [Int.add_zero]; exact this⟩
  | @step vs x y n d hw hx ih =>
    obtain ⟨vs', h'⟩ := ih
    have := Wl.step h' hx
    rw [Int.add_assoc] at this
    exact ⟨_, this⟩
theorem least_pot (h : SysOk L N) (ht : TiedL L N) (ho : openP L N = true) : Pot L (gv (leastP L N)) := by
  have h2 := h.n60
  obtain ⟨p, hp⟩ := (openP_iff h.links (by omega)).1 ho
  intro u v m hl
  have hr := h.inr _ hl
  rw [leastP_gv hr.2.1 hr.2.2, leastP_gv hr.1.1 hr.1.2]
  have hf := boundsV_ne h ht ho hr.2.1 hr.2.2
  have h3 := h.n1
  obtain ⟨vs, hw⟩ := (bounds_dist h.links (by omega) hp (s := v) ⟨hr.2.1, hr.2.2⟩).att 0 (by omega) (by omega) (by simp only at hf; unfold Free; omega)
  obtain ⟨vs', hw'⟩ := Wl.cons hl (one_wl.1 hw)
  have := (bounds_dist h.links (by omega) hp (s := u) ⟨hr.1.1, hr.1.2⟩).low 0 vs' _ (one_wl.2 hw')
  simp only
  omega
theorem least_zero (h : SysOk L N) (ho : openP L N = true) : gv (leastP L N) 0 = 0 := by
  have h3 := h.n1
  rw [leastP_gv (by omega) (by omega), bounds_self h ho (by omega) (by omega)]
  rfl

theorem Consistent_ok (h : SysOk L N) : f_chain_Consistent ((N : Int), L) = some (openP L N, 0) := by
  have h2 := h.n60
  unfold f_chain_Consistent m_chain_Consistent
  rw [ChainCheck_ok h, bindF_some]
  dsimp only
  rw [ifb_f (by rfl), solution_ok h.links h.n1 (by omega), bindF_some]
  cases openP L N <;> rfl
theorem Greatest_ok (h : SysOk L N) (ht : TiedL L N) : f_chain_Greatest ((N : Int), L) = some (if openP L N then (boundsP L N 0, 0) else ([], 9)) := by
  have h2 := h.n60
  have h3 := h.n1
  unfold f_chain_Greatest m_chain_Greatest
  rw [asked_ok h (by simp) (by simp), bindF_some]
  by_cases ho : openP L N = true
  · rw [if_pos ho, ifb_f (by rfl), bounds_ok h.links h.n1 (by omega) ho ⟨by omega, by omega⟩, bindF_some, ContainsI_ok (by rw [boundsP_len]; omega), bindF_some, if_pos ho]
    rw [ifb_f]
    rw [Bool.eq_false_iff]
    intro hc
    have hm := List.contains_iff_mem.1 hc
    obtain ⟨i, hi, he⟩ := List.mem_iff_getElem.1 hm
    rw [boundsP_len] at hi
    have := bounds0_ne h ht ho (v := i) (by omega) (by omega)
    unfold gv at this
    rw [Int.toNat_natCast, List.getElem?_eq_getElem (by rw [boundsP_len]; exact hi)] at this
    simp only [Option.getD_some] at this
    omega
  · rw [if_neg ho, ifb_t (by rfl), if_neg ho]
theorem Least_ok (h : SysOk L N) (ht : TiedL L N) : f_chain_Least ((N : Int), L) = some (if openP L N then (leastP L N, 0) else ([], 9)) := by
  have h2 := h.n60
  have h3 := h.n1
  unfold f_chain_Least m_chain_Least
  rw [asked_ok h (by simp) (by simp), bindF_some]
  by_cases ho : openP L N = true
  · rw [if_pos ho, ifb_f (by rfl), bounds_ok h.links h.n1 (by omega) ho ⟨by omega, by omega⟩, bindF_some, if_pos ho]
    dsimp only
    rw [iff_make (by omega), Int.toNat_natCast]
    let B : List Int := (List.range N).map fun (n : Nat) => gv (boundsP L N n) 0
    have hB : B.length = N := by simp [B]
    have hBi : ∀ i, i < N → B[i]? = some (gv (boundsP L N i) 0) := fun i hi => by simp [B, hi]
    refine loop_acc (List.replicate N (0 : Int)) (fun i => B.take i ++ List.replicate (N - i) 0) _ (by simp) (fun i a hi ha kn => ?_) (fun kn => ?_)
    · dsimp only
      unfold m_chain_Least_L0
      have hiN : i < N := by simpa using hi
      have hl : i < (B.take i ++ List.replicate (N - i) (0 : Int)).length := by simp [hB]; omega
      rw [ifb_lt' hi, bounds_ok h.links h.n1 (by omega) ho ⟨by omega, by omega⟩, bindF_some]
      rw [iget_gv (by omega) (by rw [boundsP_len]; omega), show olen (B.take i ++ List.replicate (N - i) (0 : Int)) = ((N : Nat) : Int) by simp [olen, hB]; omega, iff_idx hiN, nget_toNat (List.getElem?_eq_getElem hl), ck_succ hiN (by omega), Int.toNat_natCast]
      congr 2
      have ht : (B.take i).length = i := by rw [List.length_take, hB]; omega
      rw [List.set_append_right _ _ (by rw [ht]; omega), ht, Nat.sub_self, show N - i = (N - (i + 1)) + 1 by omega, List.replicate_succ, List.set_cons_zero, take_succ (hBi i hiN), List.append_assoc]
      rfl
    · try dsimp only
      unfold m_chain_Least_L0
      rw [ifb_ge]
      dsimp only
      have e0 : B.take (List.replicate N (0 : Int)).length ++ List.replicate (N - (List.replicate N (0 : Int)).length) 0 = B := by simp [← hB]
      rw [e0, ContainsI_ok (by rw [hB]; omega), bindF_some]
      have hbd : ∀ x ∈ B, x ≤ 4503599627370496 := by
        intro x hx
        obtain ⟨n, hn, rfl⟩ := List.mem_map.1 hx
        exact boundsV_ne h ht ho (by omega) (by have := List.mem_range.1 hn; omega)
      rw [ifb_f (by
        rw [Bool.eq_false_iff]
        intro hc
        have := hbd _ (List.contains_iff_mem.1 hc)
        omega)]
      have hlo : ∀ x ∈ B, -9223372036854775807 ≤ x := by
        intro x hx
        obtain ⟨n, hn, rfl⟩ := List.mem_map.1 hx
        have hn' := List.mem_range.1 hn
        obtain ⟨p, hp⟩ := (openP_iff h.links (by omega)).1 ho
        have hb := boundsV_ne h ht ho (v := n) (by omega) (by omega)
        obtain ⟨vs, hw⟩ := (bounds_dist h.links (by omega) hp (s := n) ⟨by omega, by omega⟩).att 0 (by omega) (by omega) (by unfold Free; omega)
        have h6 := hw.low' hp
        have h7 := negS_ge (L := L) (fun l hl => (h.links.most l hl).1) h.links.m0
        have h8 := h.len
        omega
      refine loop_acc B (fun i => (B.take i).map (fun x => -x) ++ B.drop i) _ (by simp) (fun i a hi ha kn => ?_) (fun kn => ?_)
      · dsimp only
        unfold m_chain_Least_L1
        have hl : i < ((B.take i).map (fun x => -x) ++ B.drop i).length := by simp; omega
        have hlen : ((B.take i).map (fun x => -x) ++ B.drop i).length = B.length := by simp; omega
        have hge : ((B.take i).map (fun x => -x) ++ B.drop i)[i]? = some a := by
          rw [List.getElem?_append_right (by simp; omega)]
          simp [Nat.min_eq_left (Nat.le_of_lt hi), ha]
        have ham := List.mem_of_getElem? ha
        have b1 := hbd a ham
        have b2 := hlo a ham
        rw [ifb_lt' hi, show olen ((B.take i).map (fun x => -x) ++ B.drop i) = ((B.length : Nat) : Int) by unfold olen; rw [hlen], iff_idx hi, nget_toNat hge, ck_ok (by omega) (by omega), iff_idx hi, nget_toNat hge, ck_succ hi (by omega), Int.toNat_natCast]
        congr 2
        have ht : ((B.take i).map (fun x => -x)).length = i := by rw [List.length_map, List.length_take]; omega
        rw [List.set_append_right _ _ (by rw [ht]; omega), ht, Nat.sub_self, take_succ ha, List.map_append, List.append_assoc]
        obtain ⟨hi', rfl⟩ := List.getElem?_eq_some_iff.1 ha
        rw [List.drop_eq_getElem_cons hi', List.set_cons_zero, Int.zero_sub]
        rfl
      · try dsimp only
        unfold m_chain_Least_L1
        rw [ifb_ge]
        dsimp only
        have e1 : (B.take B.length).map (fun x => -x) ++ B.drop B.length = leastP L N := by rw [List.take_length, List.drop_length, List.append_nil]; simp [B, leastP]
        rw [e1]
  · rw [if_neg ho, ifb_t (by rfl), if_neg ho]
end
end Go.Proofs.ZzM
end

section
set_option linter.unusedVariables false
set_option linter.unusedSimpArgs false
namespace Go.Proofs.ZzM
open Go Go.Am

theorem drop_fits {b : Book} (h : Good b) {y : List Int} (hy : y.length = (nodesP b).length + 1) (h0 : gv y 0 = 0) (hp : Pot (linksP b) (gv y)) : FitsP b (y.drop 1) = (true, 0) := by
  have e : 0 :: y.drop 1 = y := by
    cases y with
    | nil => simp at hy
    | cons a t =>
      have : a = 0 := h0
      rw [this]; rfl
  rw [FitsP_iff]
  refine ⟨h, lengthsP_iff.2 ⟨by simp; omega, fun n hn => ?_⟩, ?_⟩
  · obtain ⟨i, hi, rfl⟩ := List.mem_iff_getElem.1 hn
    rw [List.length_drop] at hi
    have := pot_near h hp (v := ((1 + i : Nat) : Int)) (by omega) (by omega)
    rw [h0] at this
    unfold gv at this
    rw [Int.toNat_natCast, List.getElem?_eq_getElem (by omega)] at this
    rw [List.getElem_drop]
    simp only [Option.getD_some] at this
    omega
  · unfold fitsP
    rw [e]
    exact fitsL_iff.2 hp
theorem fits_open {b : Book} (h : Good b) {x : List Int} (hf : fitsP b x = true) : openP (linksP b) ((nodesP b).length + 1) = true := by
  have := h.sys.n60
  exact (openP_iff h.sys.links (by omega)).2 ⟨_, fitsL_iff.1 (show fitsL (linksP b) (0 :: x) = true from hf)⟩

theorem exactly_ok {b : Book} (hn : ∀ g ∈ b.2.1, I64 g.2.2.2.2.1.1) (x : List Int) : f_wringinglaw05_CompareExactly b x = some true := by
  unfold f_wringinglaw05_CompareExactly m_wringinglaw05_CompareExactly
  rw [small_ok, bindF_some, sanity_ok]
  by_cases hs : smallP b = true
  · obtain ⟨hsz, _, _⟩ := small_size hs
    rw [ifb_f (by simp [hs]), ilen_eq]
    by_cases h1 : 70 < x.length
    · rw [ifb_t (by simp [igt]; omega), bindF_some]
    · rw [ifb_f (by simp [igt]; omega), Fits_ok hsz hn, bindF_some, System_ok ⟨hsz, hn⟩, bindF_some]
      by_cases hc : checkP b = 0
      · have h := (checkP_iff b).1 hc
        have hS : SystemP b = ((((nodesP b).length : Int) + 1, linksP b), sourcesP b, 0) := by unfold SystemP; rw [if_neg (by simp [hc])]
        have hl := h.sys.n1
        have hl2 := h.sys.n60
        rw [hS]
        dsimp only
        rw [show (((nodesP b).length : Int) + 1) = (((nodesP b).length + 1 : Nat) : Int) by push_cast; rfl]
        rw [ifb_f (by rfl), Consistent_ok h.sys, Greatest_ok h.sys h.tied, Least_ok h.sys h.tied]
        simp only [bindF_some]
        have hsy := h.sys
        have hti := h.tied
        have g1 : openP (linksP b) ((nodesP b).length + 1) = true → FitsP b ((boundsP (linksP b) ((nodesP b).length + 1) 0).drop 1) = (true, 0) := fun ho => drop_fits h (boundsP_len 0) (bounds_self hsy ho (by omega) (by omega)) (bounds0_pot hsy hti ho)
        have g2 : openP (linksP b) ((nodesP b).length + 1) = true → FitsP b ((leastP (linksP b) ((nodesP b).length + 1)).drop 1) = (true, 0) := fun ho => drop_fits h leastP_len (least_zero hsy ho) (least_pot hsy hti ho)
        have l1 := boundsP_len (L := linksP b) (N := (nodesP b).length + 1) 0
        have l2 := leastP_len (L := linksP b) (N := (nodesP b).length + 1)
        have q1 : ieq (ilen (boundsP (linksP b) ((nodesP b).length + 1) 0)) 0 = false := by rw [ilen_eq, l1]; simp [ieq]; omega
        have q2 : ieq (ilen (leastP (linksP b) ((nodesP b).length + 1))) 0 = false := by rw [ilen_eq, l2]; simp [ieq]; omega
        have q3 : ile 1 (olen (boundsP (linksP b) ((nodesP b).length + 1) 0)) = true := by unfold olen; rw [l1]; simp [ile]; omega
        have q4 : ile 1 (olen (leastP (linksP b) ((nodesP b).length + 1))) = true := by unfold olen; rw [l2]; simp [ile]; omega
        by_cases hlx : lengthsP b x = true
        · have hF : FitsP b x = (fitsP b x, 0) := by unfold FitsP; rw [if_neg (by simp [hc]), if_pos hlx]
          obtain ⟨lx, bx⟩ := lengthsP_iff.1 hlx
          have hC := ChainFits_ok hsy (x := [0] ++ x) (by simp; omega) (fun a ha => by
            unfold Free
            rcases List.mem_append.1 ha with ha | ha
            · simp at ha; omega
            · have := bx a ha; omega)
          have hC' : f_chain_Fits ((((nodesP b).length + 1 : Nat) : Int), linksP b) ([0] ++ x) = some (fitsP b x, 0) := by
            rw [hC]
            unfold fitsP
            have e : gv ([0] ++ x) 0 = 0 := rfl
            rw [e]
            simp
          rw [hF, hC', iff_of (okLen_of (by simp only [List.length_singleton]; omega))]
          dsimp only
          rw [show ieq (0 : Int) 0 = true from rfl, bindF_some, show (fitsP b x == fitsP b x) = true from by simp]
          by_cases ho : openP (linksP b) ((nodesP b).length + 1) = true
          · simp only [ho, if_true, Bool.not_true, ifb_true, ifb_false, show ine (0 : Int) 0 = false from rfl, show ieq (0 : Int) 0 = true from rfl, q1, q2, q3, q4, Am.iff_true, Fits_ok hsz hn, bindF_some, g1 ho, g2 ho]
            cases fitsP b x <;> rfl
          · have hof : openP (linksP b) ((nodesP b).length + 1) = false := by simpa using ho
            have hff : fitsP b x = false := by
              cases hf : fitsP b x with
              | false => rfl
              | true => exact absurd (fits_open h hf) ho
            rw [hff, hof]
            rfl
        · have hF : FitsP b x = (false, 1) := by unfold FitsP; rw [if_neg (by simp [hc]), if_neg hlx]
          rw [hF]
          dsimp only
          rw [show ieq (1 : Int) 0 = false from rfl]
          by_cases ho : openP (linksP b) ((nodesP b).length + 1) = true
          · simp only [ho, if_true, Bool.not_true, ifb_true, ifb_false, show ine (0 : Int) 0 = false from rfl, show ieq (0 : Int) 0 = true from rfl, q1, q2, q3, q4, Am.iff_true, Fits_ok hsz hn, bindF_some, g1 ho, g2 ho]
          · have hof : openP (linksP b) ((nodesP b).length + 1) = false := by simpa using ho
            rw [hof]
            rfl
      · have e1 : FitsP b x = (false, checkP b) := by unfold FitsP; rw [if_pos hc]
        have e2 : (SystemP b).2.2 = checkP b := by unfold SystemP; rw [if_pos hc]
        rw [e1, e2, ifb_t (by simp [ine, hc])]
        simp [ieq]
  · rw [ifb_t (by simp [hs]), bindF_some]
end Go.Proofs.ZzM
end
