/- lemmas: PlLattice -/
import Derived.Test.YtfkfjebiaelniaaGreatPlB
import Derived.Test.YtfkfjebiaelniaaGreatMdT
set_option linter.all false
set_option linter.unusedSectionVars false
set_option linter.unusedVariables false
set_option linter.unusedSimpArgs false
set_option linter.unusedVariables false
set_option linter.unusedSimpArgs false
namespace Go.Proofs.ZzM
open Go Go.Am

/-- is a book not too large to be looked at? -/
def smallP (b : Book) : Bool :=
  !((b.2.2.2.2.1.take 60).any fun c => decide (9 < c.2.2.1.length) || decide (9 < c.2.2.2.1.length)) && (decide (b.2.1.length ≤ 14) && (decide (b.2.2.1.length ≤ 42) && (decide (b.2.2.2.1.length ≤ 14) && (decide (b.2.2.2.2.1.length ≤ 42) && decide (b.2.2.2.2.2.length ≤ 12)))))
theorem small_ok (b : Book) : f_wringinglaw05_small b = some (smallP b) := by
  unfold f_wringinglaw05_small m_wringinglaw05_small
  have last : (ifb (ile (ilen b.2.1) (14 : Int)) (ifb (ile (ilen b.2.2.1) (42 : Int)) (ifb (ile (ilen b.2.2.2.1) (14 : Int)) (ifb (ile (ilen b.2.2.2.2.1) (42 : Int)) (some (ile (ilen b.2.2.2.2.2) (12 : Int))) (some false)) (some false)) (some false)) (some false)) =
      some (decide (b.2.1.length ≤ 14) && (decide (b.2.2.1.length ≤ 42) && (decide (b.2.2.2.1.length ≤ 14) && (decide (b.2.2.2.2.1.length ≤ 42) && decide (b.2.2.2.2.2.length ≤ 12))))) := by
    have e : ∀ (n m : Nat), ile (n : Int) (m : Int) = decide (n ≤ m) := fun n m => by simp [ile]
    rw [ilen_eq, ilen_eq, ilen_eq, ilen_eq, ilen_eq, show (14 : Int) = ((14 : Nat) : Int) from rfl, show (42 : Int) = ((42 : Nat) : Int) from rfl, show (12 : Int) = ((12 : Nat) : Int) from rfl, e, e, e, e, e]
    generalize decide (b.2.1.length ≤ 14) = x1
    generalize decide (b.2.2.1.length ≤ 42) = x2
    generalize decide (b.2.2.2.1.length ≤ 14) = x3
    generalize decide (b.2.2.2.2.1.length ≤ 42) = x4
    cases x1 <;> cases x2 <;> cases x3 <;> cases x4 <;> rfl
  refine Eq.trans (loop_any (b.2.2.2.2.1.take 60) (fun c => decide (9 < c.2.2.1.length) || decide (9 < c.2.2.2.1.length)) (fun _ => some false) (some false) (some (decide (b.2.1.length ≤ 14) && (decide (b.2.2.1.length ≤ 42) && (decide (b.2.2.2.1.length ≤ 14) && (decide (b.2.2.2.2.1.length ≤ 42) && decide (b.2.2.2.2.2.length ≤ 12)))))) (fun _ => rfl) (fun i c hi hc kn => ?_) (fun kn => ?_)) ?_
  · try dsimp only
    unfold m_wringinglaw05_small_L0
    rw [List.length_take] at hi
    have hc' : b.2.2.2.2.1[i]? = some c := by rw [List.getElem?_take] at hc; split at hc <;> simp_all
    rw [ifb_lt' (show i < b.2.2.2.2.1.length by omega), ifb_t (by simp [ilt]; omega), iget_nat hc', iget_nat hc', ck_ok (by omega) (by omega), ifb_eq, ilen_eq, ilen_eq]
    by_cases h1 : 9 < c.2.2.1.length
    · rw [if_pos (by simp [igt]; omega), if_pos (by simp [h1])]
    · rw [if_neg (by simp [igt]; omega), ifb_eq]
      by_cases h2 : 9 < c.2.2.2.1.length
      · rw [if_pos (by simp [igt]; omega), if_pos (by simp [h2])]
      · rw [if_neg (by simp [igt]; omega), if_neg (by simp [h1, h2])]
  · try dsimp only
    unfold m_wringinglaw05_small_L0
    rw [last, List.length_take, ifb_eq]
    split
    · rename_i h
      have h' : 60 < b.2.2.2.2.1.length := by rw [ilen_eq] at h; simp [ilt] at h; omega
      rw [ifb_f (by simp [ilt]; omega)]
    · rfl
  · unfold smallP
    cases List.any (List.take 60 b.2.2.2.2.1) (fun c => decide (9 < c.2.2.1.length) || decide (9 < c.2.2.2.1.length)) <;> rfl
theorem small_size {b : Book} (h : smallP b = true) : SizeOk b ∧ b.2.2.2.2.1.length ≤ 42 ∧ ∀ c ∈ b.2.2.2.2.1, c.2.2.1.length ≤ 9 ∧ c.2.2.2.1.length ≤ 9 := by
  simp only [smallP, Bool.and_eq_true, Bool.not_eq_true', decide_eq_true_eq] at h
  obtain ⟨h0, h1, h2, h3, h4, h5⟩ := h
  have hp : ∀ c ∈ b.2.2.2.2.1, c.2.2.1.length ≤ 9 ∧ c.2.2.2.1.length ≤ 9 := by
    intro c hc
    rw [List.take_of_length_le (by omega)] at h0
    have := List.any_eq_false.1 h0 c hc
    simp at this
    omega
  exact ⟨⟨by omega, by omega, by omega, by omega, by omega, fun c hc => by have := hp c hc; omega⟩, h4, hp⟩

theorem FitsP_iff {b : Book} {x : List Int} : FitsP b x = (true, 0) ↔ Good b ∧ lengthsP b x = true ∧ fitsP b x = true := by
  unfold FitsP
  constructor
  · intro h
    split at h
    · cases h
    · rename_i hc
      have hc0 : checkP b = 0 := by simpa using hc
      split at h
      · rename_i hl
        simp only [Prod.mk.injEq, and_true] at h
        exact ⟨(checkP_iff b).1 hc0, hl, h⟩
      · cases h
  · rintro ⟨h1, h2, h3⟩
    rw [if_neg (by simp [(checkP_iff b).2 h1]), if_pos h2, h3]
theorem lengthsP_iff {b : Book} {x : List Int} : lengthsP b x = true ↔ x.length = (nodesP b).length ∧ ∀ n ∈ x, -4503599627370496 ≤ n ∧ n ≤ 4503599627370496 := by
  simp [lengthsP, inP]
theorem fitsL_iff {L : List Lk} {x : List Int} : fitsL L x = true ↔ Pot L (gv x) := by
  simp only [fitsL, List.all_eq_true, decide_eq_true_eq, Pot]
  exact ⟨fun h u v m hl => h (u, v, m) hl, fun h l hl => h l.1 l.2.1 l.2.2 hl⟩
theorem gv_cons (a : Int) (x : List Int) {v : Int} (hv : 0 ≤ v) : gv (a :: x) v = if v = 0 then a else gv x (v - 1) := by
  unfold gv
  by_cases h : v = 0
  · subst h; rfl
  · obtain ⟨n, rfl⟩ := Int.eq_ofNat_of_zero_le hv
    cases n with
    | zero => simp at h
    | succ n =>
      have e : (((n + 1 : Nat) : Int) - 1).toNat = n := by omega
      rw [if_neg h, e]
      simp
theorem gv_zip {f : Int → Int → Int} {x y : List Int} (hl : x.length = y.length) {v : Int} (h0 : 0 ≤ v) (h1 : v < x.length) : gv (List.zipWith f x y) v = f (gv x v) (gv y v) := by
  obtain ⟨n, rfl⟩ := Int.eq_ofNat_of_zero_le h0
  have hx : n < x.length := by omega
  have hy : n < y.length := by omega
  unfold gv
  rw [Int.toNat_natCast, List.getElem?_eq_getElem (show n < (List.zipWith f x y).length by simp; omega), List.getElem?_eq_getElem hx, List.getElem?_eq_getElem hy, List.getElem_zipWith]
  rfl
/-- lists made of two lists that fit -/
theorem zip_fits {b : Book} (h : Good b) {f : Int → Int → Int} (hf0 : f 0 0 = 0) (hfb : ∀ a c, -4503599627370496 ≤ a ∧ a ≤ 4503599627370496 → -4503599627370496 ≤ c ∧ c ≤ 4503599627370496 → -4503599627370496 ≤ f a c ∧ f a c ≤ 4503599627370496) (hfp : ∀ a a' c c' m : Int, a' ≤ a + m → c' ≤ c + m → f a' c' ≤ f a c + m)
    {x y : List Int} (hx : lengthsP b x = true) (hy : lengthsP b y = true) (fx : fitsP b x = true) (fy : fitsP b y = true) : FitsP b (List.zipWith f x y) = (true, 0) := by
  rw [FitsP_iff]
  obtain ⟨lx, bx⟩ := lengthsP_iff.1 hx
  obtain ⟨ly, by'⟩ := lengthsP_iff.1 hy
  refine ⟨h, lengthsP_iff.2 ⟨by simp; omega, fun n hn => ?_⟩, ?_⟩
  · obtain ⟨i, hi, rfl⟩ := List.mem_iff_getElem.1 hn
    simp only [List.length_zipWith] at hi
    rw [List.getElem_zipWith]
    exact hfb _ _ (bx _ (List.getElem_mem _)) (by' _ (List.getElem_mem _))
  · have px := fitsL_iff.1 (show fitsL (linksP b) (0 :: x) = true from fx)
    have py := fitsL_iff.1 (show fitsL (linksP b) (0 :: y) = true from fy)
    refine fitsL_iff.2 fun u v m hl => ?_
    have hr := h.sys.inr _ hl
    have key : ∀ v : Int, 0 ≤ v → v < ((nodesP b).length + 1 : Nat) → gv (0 :: List.zipWith f x y) v = f (gv (0 :: x) v) (gv (0 :: y) v) := by
      intro v h0 h1
      rw [gv_cons _ _ h0, gv_cons _ _ h0, gv_cons _ _ h0]
      by_cases hv : v = 0
      · simp [hv, hf0]
      · simp only [hv, if_false]
        exact gv_zip (by omega) (by omega) (by omega)
    rw [key v hr.2.1 hr.2.2, key u hr.1.1 hr.1.2]
    exact hfp _ _ _ _ _ (px u v m hl) (py u v m hl)

def nearF (a c : Int) : Int := a + (if c < a then -1 else if a < c then 1 else 0)

theorem zip_take {f : Int → Int → Int} {x y : List Int} {i : Nat} {a c : Int} (ha : x[i]? = some a) (hc : y[i]? = some c) : List.zipWith f (x.take (i + 1)) (y.take (i + 1)) = List.zipWith f (x.take i) (y.take i) ++ [f a c] := by
  obtain ⟨h1, _⟩ := List.getElem?_eq_some_iff.1 ha
  obtain ⟨h2, _⟩ := List.getElem?_eq_some_iff.1 hc
  rw [take_succ ha, take_succ hc, List.zipWith_append (by rw [List.length_take, List.length_take]; omega)]
  rfl

theorem lattice_ok {b : Book} (hn : ∀ g ∈ b.2.1, I64 g.2.2.2.2.1.1) (x y : List Int) : f_wringinglaw05_CompareLattice b x y = some true := by
  unfold f_wringinglaw05_CompareLattice m_wringinglaw05_CompareLattice
  rw [small_ok, bindF_some, sanity_ok]
  by_cases hs : smallP b = true
  · obtain ⟨hsz, _, _⟩ := small_size hs
    rw [ifb_f (by simp [hs]), ilen_eq, ilen_eq]
    by_cases h1 : 70 < x.length
    · rw [ifb_t (by simp [igt]; omega), bindF_some]
    · rw [ifb_f (by simp [igt]; omega)]
      by_cases h2 : y.length = x.length
      · rw [ifb_f (by simp [ine, h2]), Fits_ok hsz hn, bindF_some, Fits_ok hsz hn, bindF_some]
        by_cases e1 : (FitsP b x).2 = 0
        · rw [ifb_f (by simp [ine, e1])]
          by_cases e2 : (FitsP b y).2 = 0
          · rw [ifb_f (by simp [ine, e2])]
            cases f1 : (FitsP b x).1 with
            | false => rfl
            | true =>
            cases f2 : (FitsP b y).1 with
            | false => rfl
            | true =>
            simp only [Bool.not_true, ifb_false]
            obtain ⟨hg, lx, fx⟩ := FitsP_iff.1 (show FitsP b x = (true, 0) from Prod.ext f1 e1)
            obtain ⟨_, ly, fy⟩ := FitsP_iff.1 (show FitsP b y = (true, 0) from Prod.ext f2 e2)
            have bx := (lengthsP_iff.1 lx).2
            have by' := (lengthsP_iff.1 ly).2
            refine loop_acc x (fun i => (List.zipWith max (x.take i) (y.take i), List.zipWith min (x.take i) (y.take i), List.zipWith nearF (x.take i) (y.take i))) _ (by simp) (fun i a hi ha kn => ?_) (fun kn => ?_)
            · try dsimp only
              have hc : y[i]? = some (y[i]?.getD 0) := by rw [List.getElem?_eq_getElem (by omega)]; rfl
              generalize y[i]?.getD 0 = c at hc
              have ba := bx a (List.mem_of_getElem? ha)
              have bc := by' c (List.mem_of_getElem? hc)
              have len : ∀ f : Int → Int → Int, (List.zipWith f (x.take i) (y.take i)).length ≤ 70 := fun f => by simp; omega
              unfold m_wringinglaw05_CompareLattice_L0
              rw [ifb_lt' hi, iget_nat ha, iget_nat hc, okLen_of (by have := len max; simp only [List.length_singleton]; omega), Am.iff_true, iget_nat ha, iget_nat hc, okLen_of (by have := len min; simp only [List.length_singleton]; omega), Am.iff_true, iget_nat hc, iget_nat ha]
              rw [zip_take ha hc, zip_take ha hc, zip_take ha hc, imax_eq, imin_eq]
              have l3 := len nearF
              rw [ifb_eq]
              by_cases g1 : a < c
              · rw [if_pos (by simpa [igt] using g1), iget_nat hc, iget_nat ha, ifb_f (by simp [ilt]; omega), iget_nat ha, ck_ok (by omega) (by omega), okLen_of (by simp only [List.length_singleton]; omega), Am.iff_true, ck_succ hi (by omega)]
                have : nearF a c = a + 1 := by unfold nearF; rw [if_neg (by omega), if_pos g1]
                rw [this]
              · rw [if_neg (by simpa [igt] using g1), iget_nat hc, iget_nat ha, ifb_eq]
                by_cases g2 : c < a
                · rw [if_pos (by simpa [ilt] using g2), iget_nat ha, ck_ok (by omega) (by omega), okLen_of (by simp only [List.length_singleton]; omega), Am.iff_true, ck_succ hi (by omega)]
                  have : nearF a c = a + -1 := by unfold nearF; rw [if_pos g2]
                  rw [this]
                · rw [if_neg (by simpa [ilt] using g2), iget_nat ha, ck_ok (by omega) (by omega), okLen_of (by simp only [List.length_singleton]; omega), Am.iff_true, ck_succ hi (by omega)]
                  have : nearF a c = a + 0 := by unfold nearF; rw [if_neg g2, if_neg g1]
                  rw [this]
            · try dsimp only
              unfold m_wringinglaw05_CompareLattice_L0
              rw [ifb_ge, List.take_length, List.take_of_length_le (by omega)]
              dsimp only
              rw [Fits_ok hsz hn, bindF_some, Fits_ok hsz hn, bindF_some, Fits_ok hsz hn, bindF_some, bindF_some]
              rw [zip_fits hg (f := max) (by simp) (fun a c h1 h2 => by omega) (fun a a' c c' m h1 h2 => by omega) lx ly fx fy,
                zip_fits hg (f := min) (by simp) (fun a c h1 h2 => by omega) (fun a a' c c' m h1 h2 => by omega) lx ly fx fy,
                zip_fits hg (f := nearF) (by simp [nearF]) (fun a c h1 h2 => by unfold nearF; (repeat' split) <;> omega) (fun a a' c c' m h1 h2 => by unfold nearF; (repeat' split) <;> omega) lx ly fx fy]
              rfl
          · rw [ifb_t (by simp [ine, e2]), bindF_some]
        · rw [ifb_t (by simp [ine, e1]), bindF_some]
      · rw [ifb_t (by simp [ine]; omega), bindF_some]
  · rw [ifb_t (by simp [hs]), bindF_some]
end Go.Proofs.ZzM
