/- lemmas: PlLoop PlA PlSort PlPath PlB PlC PlD PlE PlF PlG -/
import Derived.Test.YtfkfjebiaelniaaGreatAmD
import Derived.Test.YtfkfjebiaelniaaGreatMdT
set_option linter.all false
set_option linter.unusedSectionVars false
set_option linter.unusedVariables false
set_option linter.unusedSimpArgs false
noncomputable section
namespace Go.Am
section
variable {ρ : Type}
def firstO {α β : Type} (e : Nat → α → Option β) : Nat → List α → Option β
  | _, [] => none
  | i, a :: t => match e i a with
    | some b => some b
    | none => firstO e (i + 1) t
theorem loop_first {α β : Type} (l : List α) (e : Nat → α → Option β) (k0 : β → Option ρ) (k1 : Option ρ) {f : Int → (Int → Option ρ) → Option ρ}
    (h : ∀ (i : Nat) (a : α), i < l.length → l[i]? = some a → ∀ kn, f i kn = match e i a with | some b => k0 b | none => kn ((i : Int) + 1))
    (hn : ∀ kn, f l.length kn = k1) : loopT f 0 = match firstO e 0 l with | some b => k0 b | none => k1 := by
  refine loopT_idx l (fun i t => match firstO e i t with | some b => k0 b | none => k1) hn fun i a t hd hi ha kn hk => ?_
  rw [h i a hi ha kn, hk, firstO]
  cases e i a <;> rfl
theorem loop_acc {α σ : Type} (l : List α) (g : Nat → σ) (r : Option ρ) {f : Int × σ → (Int × σ → Option ρ) → Option ρ} {s0 : σ} (h0 : g 0 = s0)
    (h : ∀ (i : Nat) (a : α), i < l.length → l[i]? = some a → ∀ kn, f (i, g i) kn = kn ((i : Int) + 1, g (i + 1)))
    (hn : ∀ kn, f (l.length, g l.length) kn = r) : loopT f (0, s0) = r := by
  subst h0
  have hs : ∀ s, (s = g 0) → loopT f (0, s) = r := fun s e => loopT_st l (fun _ _ _ => r) (fun i s => s = g i) (fun s hs kn => by rw [hs]; exact hn kn) (fun i a t s hd hi ha hI kn hk => by
    rw [hI, h i a hi ha kn]; exact hk _ rfl) e
  exact hs _ rfl
theorem loop_accE {α σ : Type} (l : List α) (g : Nat → σ) (r : Option ρ) {f : Int × σ → (Int × σ → Option ρ) → Option ρ} {s0 : σ} (P : Nat → Prop) (h0 : g 0 = s0) (hP : P 0)
    (h : ∀ (i : Nat) (a : α), i < l.length → l[i]? = some a → P i → ∀ kn, f (i, g i) kn = r ∨ (P (i + 1) ∧ f (i, g i) kn = kn ((i : Int) + 1, g (i + 1))))
    (hn : P l.length → ∀ kn, f (l.length, g l.length) kn = r) : loopT f (0, s0) = r := by
  subst h0
  have hs : ∀ s, (s = g 0 ∧ P 0) → loopT f (0, s) = r := fun s e => loopT_st l (fun _ _ _ => r) (fun i s => s = g i ∧ P i) (fun s hs kn => by rw [hs.1]; exact hn hs.2 kn) (fun i a t s hd hi ha hI kn hk => by
    rcases h i a hi ha hI.2 kn with h1 | ⟨h1, h2⟩
    · rw [hI.1, h1]
    · rw [hI.1, h2]; exact hk _ ⟨rfl, h1⟩) e
  exact hs _ ⟨rfl, hP⟩
theorem ck_succ {i n : Nat} (h : i < n) (hn : n ≤ 1000000000) (f : Int → Option ρ) : ck ((i : Int) + 1) f = f ((i : Int) + 1) := ck_ok (by omega) (by omega) f
theorem ifb_lt {i n : Nat} (h : i < n) (x y : Option ρ) : ifb (ilt (i : Int) (natI n)) x y = x := by simp [ifb_eq, natI_eq, h]
theorem ifb_ge (n : Nat) (x y : Option ρ) : ifb (ilt (n : Int) (natI n)) x y = y := by simp [ifb_eq, natI_eq]
theorem ifb_lt' {α : Type} {l : List α} {i : Nat} (h : i < l.length) (x y : Option ρ) : ifb (ilt (i : Int) (ilen l)) x y = x := ifb_lt h x y
theorem firstO_find {α : Type} (p : α → Bool) : ∀ (i : Nat) (l : List α), firstO (fun i a => bif p a then some (i : Int) else none) i l = (l.findIdx? p).map fun j => ((i + j : Nat) : Int)
  | _, [] => rfl
  | i, a :: t => by
    simp only [firstO, List.findIdx?_cons]
    cases hp : p a with
    | true => simp
    | false =>
      simp only [cond_false, Bool.false_eq_true, if_false]
      rw [firstO_find p (i + 1) t]
      cases t.findIdx? p with
      | none => rfl
      | some j => simp only [Option.map_some]; congr 1; omega
theorem firstO_const {α β : Type} (e : α → Option β) : ∀ (i : Nat) (l : List α), firstO (fun _ a => e a) i l = l.findSome? e
  | _, [] => rfl
  | i, a :: t => by
    simp only [firstO, List.findSome?_cons]
    cases e a with
    | some b => rfl
    | none => exact firstO_const e (i + 1) t
theorem firstO_none {α β : Type} {e : Nat → α → Option β} : ∀ {i : Nat} {l : List α}, firstO e i l = none ↔ ∀ j a, l[j]? = some a → e (i + j) a = none
  | _, [] => by simp [firstO]
  | i, a :: t => by
    simp only [firstO]
    constructor
    · intro h j b hb
      cases he : e i a with
      | some c => rw [he] at h; cases h
      | none =>
        rw [he] at h
        cases j with
        | zero => simp at hb; subst hb; simpa using he
        | succ j => have := (firstO_none.1 h) j b (by simpa using hb); rw [← this]; congr 1; omega
    · intro h
      have h0 := h 0 a (by simp)
      simp only [Nat.add_zero] at h0
      rw [h0]
      exact firstO_none.2 fun j b hb => by have := h (j + 1) b (by simpa using hb); rw [← this]; congr 1; omega
theorem take_succ {α : Type} {l : List α} {i : Nat} {a : α} (h : l[i]? = some a) : l.take (i + 1) = l.take i ++ [a] := by rw [List.take_succ, h]; rfl
end
end Go.Am
end

noncomputable section
namespace Go.Proofs.ZzM
open Go Go.Am
section
variable {ρ : Type}
theorem loop_inv {τ : Type} {f : τ → (τ → Option ρ) → Option ρ} {r : Option ρ} (I : τ → Prop) (μ : τ → Nat)
    (h : ∀ x, I x → (∀ kn, f x kn = r) ∨ ∃ y, I y ∧ μ y < μ x ∧ ∀ kn, f x kn = kn y) {x : τ} (hx : I x) : loopT f x = r :=
  loopT_fix (F := fun _ => r) I μ (fun x hx kn hk => by
    rcases h x hx with h1 | ⟨y, h1, h2, h3⟩
    · exact h1 kn
    · rw [h3, hk y h1 h2]) hx
theorem loop_find {α : Type} (l : List α) (p : α → Bool) (k0 : Int → Option ρ) (k1 : Option ρ) {f : Int → (Int → Option ρ) → Option ρ}
    (h : ∀ (i : Nat) (a : α), i < l.length → l[i]? = some a → ∀ kn, f i kn = if p a then k0 i else kn ((i : Int) + 1))
    (hn : ∀ kn, f l.length kn = k1) : loopT f 0 = match l.findIdx? p with | some j => k0 j | none => k1 := by
  rw [loop_first l (fun i a => bif p a then some (i : Int) else none) k0 k1 (fun i a hi ha kn => by rw [h i a hi ha kn]; cases p a <;> rfl) hn, firstO_find]
  cases l.findIdx? p with
  | none => rfl
  | some j => simp
theorem loop_any {α : Type} (l : List α) (p : α → Bool) (k0 : Int → Option ρ) (K k1 : Option ρ) {f : Int → (Int → Option ρ) → Option ρ} (hK : ∀ j : Nat, k0 j = K)
    (h : ∀ (i : Nat) (a : α), i < l.length → l[i]? = some a → ∀ kn, f i kn = if p a then k0 i else kn ((i : Int) + 1))
    (hn : ∀ kn, f l.length kn = k1) : loopT f 0 = if l.any p then K else k1 := by
  rw [loop_find l p k0 k1 h hn]
  cases hf : l.findIdx? p with
  | none =>
    have : l.any p = false := by
      rw [List.any_eq_false]
      intro x hx
      have := List.findIdx?_eq_none_iff.1 hf x hx
      simp [this]
    simp [this]
  | some j =>
    have : l.any p = true := by
      have := List.findIdx?_eq_some_iff_getElem.1 hf
      obtain ⟨hj, hp, _⟩ := this
      exact List.any_eq_true.2 ⟨_, List.getElem_mem hj, hp⟩
    simp [this, hK]
end
abbrev Gauge : Type := Int × Int × Int × (Int × Int) × ((Int × Int) × Int)
abbrev Loan : Type := Int × ((Int × Int) × Int)
abbrev Cmp : Type := Int × Int × List Int × List Int × Int × (Int × (Int × Int))
abbrev Book : Type := (Int × Int) × List Gauge × List (Int × Int) × List Loan × List Cmp × List (Int × Int)
abbrev Sys : Type := Int × List (Int × Int × Int)
abbrev Maker : Type := Book × List (Int × Int) × Sys × List (Int × Int)
section
variable {ρ : Type}
theorem ifb_t {b : Bool} (h : b = true) (x y : Option ρ) : ifb b x y = x := by rw [h]; rfl
theorem ifb_f {b : Bool} (h : b = false) (x y : Option ρ) : ifb b x y = y := by rw [h]; rfl
end
def I64 (n : Int) : Prop := -9223372036854775808 ≤ n ∧ n ≤ 9223372036854775807
def inP (n lo hi : Int) : Bool := decide (lo ≤ n) && decide (n ≤ hi)
def dayP (n : Int) : Bool := inP n 0 20000
def spanP (s : Int × Int) (lo hi : Int) : Bool := decide (lo ≤ s.1) && (decide (s.1 ≤ s.2) && decide (s.2 ≤ hi))
theorem within_ok (n lo hi : Int) : f_c_within n lo hi = some (inP n lo hi) := by
  unfold f_c_within m_c_within inP ile
  cases decide (lo ≤ n) <;> rfl
theorem isDay_ok (n : Int) : f_c_isDay n = some (dayP n) := by
  unfold f_c_isDay m_c_isDay
  rw [within_ok]; rfl
theorem inside_ok (s : Int × Int) (lo hi : Int) : f_c_inside s lo hi = some (spanP s lo hi) := by
  unfold f_c_inside m_c_inside spanP ile
  cases decide (lo ≤ s.1) <;> cases decide (s.1 ≤ s.2) <;> rfl
theorem size_ok {n : Int} (h : I64 n) : f_e_size n = some (n.natAbs : Int) := by
  obtain ⟨h1, h2⟩ := h
  unfold f_e_size m_e_size
  by_cases hn : n < 0
  · have : ilt n 0 = true := by simpa using hn
    rw [ifb_t this]
    congr 1
    simp only [IntKind.wrap, IntKind.bits, IntKind.signed]
    simp
    omega
  · have : ilt n 0 = false := by simpa using hn
    rw [ifb_f this]
    congr 1
    simp only [IntKind.wrap, IntKind.bits, IntKind.signed]
    simp
    omega
theorem gcd_ok (a b : Nat) : f_e_gcd a b = some ((Nat.gcd a b : Nat) : Int) := by
  unfold f_e_gcd m_e_gcd
  refine loop_inv (fun x : Int × Int => ∃ c d : Nat, x = ((c : Int), (d : Int)) ∧ Nat.gcd c d = Nat.gcd a b) (fun x => x.2.toNat) ?_ ⟨a, b, rfl, rfl⟩
  rintro x ⟨c, d, rfl, hg⟩
  cases d with
  | zero =>
    refine .inl fun kn => ?_
    rw [Nat.gcd_zero_right] at hg
    unfold m_e_gcd_L0
    simp [hg, ine]
  | succ d =>
    refine .inr ⟨(((d + 1 : Nat) : Int), ((c % (d + 1) : Nat) : Int)), ⟨d + 1, c % (d + 1), rfl, ?_⟩, ?_, fun kn => ?_⟩
    · rw [← hg, Nat.gcd_comm c (d + 1), Nat.gcd_rec (d + 1) c, Nat.gcd_comm]
    · have := Nat.mod_lt c (Nat.succ_pos d)
      simp only [Int.toNat_natCast]
      omega
    · unfold m_e_gcd_L0
      have h1 : ine ((d + 1 : Nat) : Int) 0 = true := by simp [ine]; omega
      have h2 : dieq ((d + 1 : Nat) : Int) 0 = false := by simp [dieq]; omega
      simp only [h1, ifb_t ifb_f h2]
      congr 1
def ratP (r : Int × Int) : Bool :=
  decide (1 ≤ r.2) && (decide (r.2 ≤ 2147483647) && (decide ((r.1.natAbs : Int) ≤ 2147483647) && decide (Nat.gcd r.1.natAbs r.2.natAbs = 1)))
theorem Valid_ok {r : Int × Int} (h : I64 r.1) : f_e_Valid r = some (ratP r) := by
  unfold f_e_Valid m_e_Valid ratP
  by_cases h1 : 1 ≤ r.2
  · by_cases h2 : r.2 ≤ 2147483647
    · have h3 : I64 r.2 := ⟨by omega, by omega⟩
      have e1 : ige r.2 1 = true := by simp [ige, h1]
      have e2 : ile r.2 2147483647 = true := by simp [ile, h2]
      rw [ifb_t e1, ifb_t e2, size_ok h, bindF_some]
      by_cases h4 : (r.1.natAbs : Int) ≤ 2147483647
      · have e4 : ile (r.1.natAbs : Int) 2147483647 = true := by simp [ile, h4]
        rw [ifb_t e4, bindF_some, size_ok h3, bindF_some, gcd_ok, bindF_some]
        congr 1
        rw [Bool.eq_iff_iff]
        simp only [ieq, beq_iff_eq, h1, h2, h4, decide_true, Bool.true_and, decide_eq_true_eq]
        omega
      · have e4 : ile (r.1.natAbs : Int) 2147483647 = false := by simp [ile]; omega
        rw [ifb_f e4]
        simp [h4]
    · have e1 : ige r.2 1 = true := by simp [ige, h1]
      have e2 : ile r.2 2147483647 = false := by simp [ile]; omega
      rw [ifb_t e1, ifb_f e2]
      simp [h2]
  · have e1 : ige r.2 1 = false := by simp [ige]; omega
    rw [ifb_f e1]
    simp [h1]
def gaugeP (g : Gauge) : Bool :=
  ratP g.2.2.2.2.1 && inP g.2.2.2.2.1.1 (-1000) 1000 && decide (g.2.2.2.2.1.2 ≤ 100) && inP g.1 1 1099511627776 && dayP g.2.1 && inP g.2.2.1 1 1125899906842624 && spanP g.2.2.2.1 (-1073741824) 1073741824 && inP g.2.2.2.2.2 0 1048576
theorem isGauge_ok {g : Gauge} (h : I64 g.2.2.2.2.1.1) : f_c_isGauge g = some (gaugeP g) := by
  unfold f_c_isGauge m_c_isGauge gaugeP
  rw [Valid_ok h, within_ok, within_ok, isDay_ok, within_ok, inside_ok, within_ok]
  generalize ratP g.2.2.2.2.1 = x1
  generalize inP g.2.2.2.2.1.1 (-1000) 1000 = x2
  generalize inP g.1 1 1099511627776 = x3
  generalize dayP g.2.1 = x4
  generalize inP g.2.2.1 1 1125899906842624 = x5
  generalize spanP g.2.2.2.1 (-1073741824) 1073741824 = x6
  generalize inP g.2.2.2.2.2 0 1048576 = x7
  unfold ile
  generalize decide (g.2.2.2.2.1.2 ≤ 100) = x8
  cases x1 <;> cases x2 <;> cases x3 <;> cases x4 <;> cases x5 <;> cases x6 <;> cases x8 <;> rfl
end Go.Proofs.ZzM
end

noncomputable section
namespace Go.Proofs.ZzM
open Go Go.Am
def insI (a : Int) : List Int → List Int
  | [] => [a]
  | b :: t => if a ≤ b then a :: b :: t else b :: insI a t
def isortI : List Int → List Int
  | [] => []
  | a :: t => insI a (isortI t)
def uniqF (p : Option Int) : List Int → List Int
  | [] => []
  | a :: t => if p = some a then uniqF (some a) t else a :: uniqF (some a) t
def setI (l : List Int) : List Int := uniqF none (isortI l)
theorem insI_perm (a : Int) : ∀ l, (insI a l).Perm (a :: l)
  | [] => List.Perm.refl _
  | b :: t => by
    unfold insI
    split
    · exact List.Perm.refl _
    · exact ((insI_perm a t).cons b).trans (List.Perm.swap a b t)
theorem isortI_perm : ∀ l, (isortI l).Perm l
  | [] => List.Perm.refl _
  | a :: t => (insI_perm a _).trans ((isortI_perm t).cons a)
theorem insI_sorted (a : Int) : ∀ {l : List Int}, l.Pairwise (· ≤ ·) → (insI a l).Pairwise (· ≤ ·)
  | [], _ => by simp [insI]
  | b :: t, h => by
    rw [List.pairwise_cons] at h
    unfold insI
    split
    · rename_i hab
      refine List.pairwise_cons.2 ⟨fun x hx => ?_, List.pairwise_cons.2 h⟩
      rcases List.mem_cons.1 hx with rfl | hx
      · exact hab
      · have := h.1 x hx; omega
    · rename_i hab
      refine List.pairwise_cons.2 ⟨fun x hx => ?_, insI_sorted a h.2⟩
      rcases List.mem_cons.1 ((insI_perm a t).mem_iff.1 hx) with rfl | hx
      · omega
      · exact h.1 x hx
theorem isortI_sorted : ∀ l : List Int, (isortI l).Pairwise (· ≤ ·)
  | [] => List.Pairwise.nil
  | a :: t => insI_sorted a (isortI_sorted t)
theorem sortI_eq (l : List Int) : sortI l = isortI l := by
  have h1 : (sortI l).Pairwise (· ≤ ·) := by
    have := List.pairwise_mergeSort (le := fun a b : Int => decide (a ≤ b)) (fun a b c h1 h2 => by simp at *; omega) (fun a b => by simp; omega) l
    exact this.imp fun h => by simpa using h
  exact List.Perm.eq_of_pairwise (le := (· ≤ ·)) (fun a b _ _ h1 h2 => by omega) h1 (isortI_sorted l) ((List.mergeSort_perm l _).trans (isortI_perm l).symm)
theorem uniqF_snoc (a : Int) : ∀ (l : List Int) (p : Option Int), uniqF p (l ++ [a]) = uniqF p l ++ (if (match l.getLast? with | some b => some b | none => p) = some a then [] else [a])
  | [], p => by simp only [List.nil_append, uniqF, List.getLast?_nil]; rfl
  | b :: t, p => by
    have ih := uniqF_snoc a t (some b)
    have e : (match (b :: t).getLast? with | some c => some c | none => p) = (match t.getLast? with | some c => some c | none => some b) := by
      cases t with
      | nil => rfl
      | cons c t => 
        rw [List.getLast?_cons_cons]
        cases h : (c :: t).getLast? with
        | none => simp at h
        | some x => rfl
    rw [e]
    simp only [List.cons_append, uniqF, ih]
    split <;> simp
theorem compactUpTo_eq (l : List Int) : ∀ m, m ≤ l.length → Lib.compactUpTo l.toArray m = uniqF none (l.take m)
  | 0, _ => by simp [Lib.compactUpTo, uniqF]
  | m + 1, h => by
    have hm : m < l.length := h
    rw [Lib.compactUpTo_succ, compactUpTo_eq l m (by omega), take_succ (List.getElem?_eq_getElem hm), uniqF_snoc]
    congr 1
    have e1 : l.toArray[m]! = l[m] := by simp [getElem!_pos, hm]
    rw [e1]
    unfold Lib.keeps
    rw [e1]
    cases m with
    | zero => simp
    | succ m =>
      have hm' : m < l.length := by omega
      have e2 : l.toArray[m + 1 - 1]! = l[m] := by simp [getElem!_pos, hm']
      rw [e2]
      have e3 : (l.take (m + 1)).getLast? = some l[m] := by rw [take_succ (List.getElem?_eq_getElem hm'), List.getLast?_append]; rfl
      rw [e3]
      by_cases hne : l[m + 1] = l[m]
      · simp [hne]
      · have : ¬ l[m] = l[m + 1] := fun h => hne h.symm
        simp [hne, this]
theorem compactI_eq (l : List Int) : compactI l = uniqF none l := by
  unfold compactI Lib.compact
  rw [compactUpTo_eq l l.length (Nat.le_refl _), List.take_length]
theorem setI_eq (l : List Int) : compactI (sortI l) = setI l := by rw [sortI_eq, compactI_eq]; rfl
theorem uniqF_mem : ∀ {l : List Int} {p : Option Int} {x : Int}, p ≠ some x → (x ∈ uniqF p l ↔ x ∈ l)
  | [], _, _, _ => Iff.rfl
  | a :: t, p, x, hp => by
    unfold uniqF
    by_cases hx : x = a
    · subst hx
      rw [if_neg hp]; simp
    · have ih := uniqF_mem (l := t) (p := some a) (x := x) (fun e => hx (by cases e; rfl))
      split <;> simp [ih, hx]
theorem uniqF_sub : ∀ {l : List Int} {p : Option Int} {x : Int}, x ∈ uniqF p l → x ∈ l
  | a :: t, p, x, h => by
    unfold uniqF at h
    split at h
    · exact List.mem_cons_of_mem _ (uniqF_sub h)
    · rcases List.mem_cons.1 h with rfl | h
      · simp
      · exact List.mem_cons_of_mem _ (uniqF_sub h)
theorem uniqF_lt : ∀ {l : List Int} {p : Option Int}, l.Pairwise (· ≤ ·) → (∀ q, p = some q → ∀ x ∈ l, q ≤ x) → (uniqF p l).Pairwise (· < ·) ∧ ∀ q, p = some q → ∀ x ∈ uniqF p l, q < x
  | [], p, _, _ => ⟨List.Pairwise.nil, fun _ _ _ h => by cases h⟩
  | a :: t, p, h, hp => by
    rw [List.pairwise_cons] at h
    obtain ⟨i1, i2⟩ := uniqF_lt (l := t) (p := some a) h.2 (fun q hq x hx => by cases hq; exact h.1 x hx)
    unfold uniqF
    split
    · rename_i e
      exact ⟨i1, fun q hq x hx => by rw [e] at hq; cases hq; exact i2 _ rfl x hx⟩
    · rename_i e
      refine ⟨List.pairwise_cons.2 ⟨fun x hx => i2 _ rfl x hx, i1⟩, fun q hq x hx => ?_⟩
      have := hp q hq a (by simp)
      have hne : q ≠ a := fun h => e (by rw [hq, h])
      rcases List.mem_cons.1 hx with rfl | hx
      · omega
      · have := i2 _ rfl x hx; omega
theorem setI_mem {l : List Int} {x : Int} : x ∈ setI l ↔ x ∈ l := by
  unfold setI
  rw [uniqF_mem (by simp), (isortI_perm l).mem_iff]
theorem setI_lt (l : List Int) : (setI l).Pairwise (· < ·) := (uniqF_lt (isortI_sorted l) (fun q hq => by cases hq)).1
theorem uniqF_len : ∀ (l : List Int) (p : Option Int), (uniqF p l).length ≤ l.length
  | [], _ => Nat.le_refl _
  | a :: t, p => by
    have := uniqF_len t (some a)
    unfold uniqF
    split <;> simp <;> omega
theorem setI_len (l : List Int) : (setI l).length ≤ l.length := by
  unfold setI
  have := uniqF_len (isortI l) none
  rwa [(isortI_perm l).length_eq] at this
theorem asc_ext {l m : List Int} (hl : l.Pairwise (· < ·)) (hm : m.Pairwise (· < ·)) (h : ∀ x, x ∈ l ↔ x ∈ m) : l = m := by
  induction l generalizing m with
  | nil =>
    cases m with
    | nil => rfl
    | cons a t => have := (h a).2 (by simp); cases this
  | cons a t ih =>
    rw [List.pairwise_cons] at hl
    cases m with
    | nil => have := (h a).1 (by simp); cases this
    | cons b u =>
      rw [List.pairwise_cons] at hm
      have hab : a = b := by
        rcases List.mem_cons.1 ((h a).1 (by simp)) with h1 | h1
        · exact h1
        · rcases List.mem_cons.1 ((h b).2 (by simp)) with h2 | h2
          · exact h2.symm
          · have := hm.1 a h1; have := hl.1 b h2; omega
      subst hab
      rw [ih hl.2 hm.2 fun x => ?_]
      constructor
      · intro hx
        rcases List.mem_cons.1 ((h x).1 (by simp [hx])) with h1 | h1
        · have := hl.1 x hx; omega
        · exact h1
      · intro hx
        rcases List.mem_cons.1 ((h x).2 (by simp [hx])) with h1 | h1
        · have := hm.1 x hx; omega
        · exact h1
end Go.Proofs.ZzM
end

noncomputable section
namespace Go.Proofs.ZzM
open Go Go.Am
abbrev Lk : Type := Int × Int × Int
inductive Wl (L : List Lk) (S : Int → Prop) : List Int → Int → Int → Prop
  | nil {v : Int} : S v → Wl L S [] v 0
  | step {vs : List Int} {u v m d : Int} : Wl L S vs u d → (u, v, m) ∈ L → Wl L S (u :: vs) v (d + m)
def Pot (L : List Lk) (p : Int → Int) : Prop := ∀ u v m, (u, v, m) ∈ L → p v ≤ p u + m
def InR (L : List Lk) (N : Nat) : Prop := ∀ l ∈ L, (0 ≤ l.1 ∧ l.1 < N) ∧ (0 ≤ l.2.1 ∧ l.2.1 < N)
section
variable {L : List Lk} {S : Int → Prop} {N : Nat} {p : Int → Int}
theorem Wl.cut (hp : Pot L p) {vs : List Int} {v d : Int} (h : Wl L S vs v d) : ∀ x ∈ vs, ∃ vs1 d1, Wl L S vs1 x d1 ∧ (x :: vs1) <:+ vs ∧ d1 + (p v - p x) ≤ d := by
  induction h with
  | nil h => intro x hx; cases hx
  | @step vs u v m d hw hl ih =>
    intro x hx
    have h1 := hp u v m hl
    rcases List.mem_cons.1 hx with rfl | hx
    · exact ⟨vs, d, hw, List.suffix_refl _, by omega⟩
    · obtain ⟨vs1, d1, g1, g2, g3⟩ := ih x hx
      exact ⟨vs1, d1, g1, g2.trans (List.suffix_cons _ _), by omega⟩
theorem Wl.simple (hp : Pot L p) {vs : List Int} {v d : Int} (h : Wl L S vs v d) : ∃ vs' d', Wl L S vs' v d' ∧ d' ≤ d ∧ (v :: vs').Nodup := by
  induction h with
  | nil h => exact ⟨[], 0, .nil h, Int.le_refl _, by simp⟩
  | @step vs u v m d hw hl ih =>
    obtain ⟨vs1, d1, g1, g2, g3⟩ := ih
    have hw1 := Wl.step g1 hl
    by_cases hv : v ∈ u :: vs1
    · obtain ⟨vs2, d2, k1, k2, k3⟩ := hw1.cut hp v hv
      exact ⟨vs2, d2, k1, by omega, g3.sublist k2.sublist⟩
    · exact ⟨u :: vs1, d1 + m, hw1, by omega, List.nodup_cons.2 ⟨hv, g3⟩⟩
theorem Wl.range (hL : InR L N) (hS : ∀ v, S v → 0 ≤ v ∧ v < N) {vs : List Int} {v d : Int} (h : Wl L S vs v d) : (0 ≤ v ∧ v < N) ∧ ∀ u ∈ vs, 0 ≤ u ∧ u < N := by
  induction h with
  | nil h => exact ⟨hS _ h, fun u hu => by cases hu⟩
  | @step vs u v m d hw hl ih =>
    refine ⟨(hL _ hl).2, fun w hw' => ?_⟩
    rcases List.mem_cons.1 hw' with rfl | h
    · exact ih.1
    · exact ih.2 w h
theorem pigeon : ∀ (N : Nat) (l : List Int), l.Nodup → (∀ x ∈ l, 0 ≤ x ∧ x < N) → l.length ≤ N
  | 0, l, _, h => by
    cases l with
    | nil => simp
    | cons a l => have := h a (by simp); omega
  | N + 1, l, hn, h => by
    have h1 : (l.erase (N : Int)).length ≤ N := pigeon N _ (hn.erase _) fun x hx => by
      have h2 := (hn.mem_erase_iff).1 hx
      have := h x h2.2
      have := h2.1
      omega
    have := List.length_erase (a := (N : Int)) (l := l)
    split at this <;> omega
theorem Wl.short (hL : InR L N) (hS : ∀ v, S v → 0 ≤ v ∧ v < N) {vs : List Int} {v d : Int} (h : Wl L S vs v d) (hn : (v :: vs).Nodup) : vs.length + 1 ≤ N := by
  have := h.range hL hS
  exact pigeon N (v :: vs) hn fun x hx => by
    rcases List.mem_cons.1 hx with rfl | hx
    · exact this.1
    · exact this.2 x hx
def negF (f : Lk → Bool) : List Lk → Int
  | [] => 0
  | l :: t => (if f l then min l.2.2 0 else 0) + negF f t
theorem negF_le (f : Lk → Bool) : ∀ L : List Lk, negF (fun _ => true) L ≤ negF f L
  | [] => Int.le_refl _
  | l :: t => by
    have := negF_le f t
    simp only [negF, if_true]
    split <;> omega
theorem negF_nonpos (f : Lk → Bool) : ∀ L : List Lk, negF f L ≤ 0
  | [] => Int.le_refl _
  | l :: t => by
    have := negF_nonpos f t
    simp only [negF]
    split <;> omega
theorem negF_mem {f : Lk → Bool} {l : Lk} (hf : f l = true) : ∀ {L : List Lk}, l ∈ L → negF f L ≤ l.2.2
  | a :: t, h => by
    simp only [negF]
    rcases List.mem_cons.1 h with rfl | h
    · have := negF_nonpos f t
      rw [if_pos hf]; omega
    · have := negF_mem hf h
      split <;> omega
theorem negF_or {f g : Lk → Bool} (h : ∀ l, f l = true → g l = false) : ∀ L : List Lk, negF (fun l => f l || g l) L = negF f L + negF g L
  | [] => rfl
  | l :: t => by
    have ih := negF_or h t
    simp only [negF, ih]
    by_cases hf : f l = true
    · simp [hf, h l hf]; omega
    · have hf' : f l = false := by simpa using hf
      by_cases hg : g l = true
      · simp [hf', hg]; omega
      · simp [hf', hg]
theorem Wl.low {vs : List Int} {v d : Int} (h : Wl L S vs v d) : vs.Nodup → negF (fun l => vs.contains l.1) L ≤ d := by
  induction h with
  | nil h => intro _; exact negF_nonpos _ _
  | @step vs u v m d hw hl ih =>
    intro hn
    rw [List.nodup_cons] at hn
    have h1 := ih hn.2
    have h2 : negF (fun l => l.1 == u) L ≤ m := negF_mem (f := fun l => l.1 == u) (l := (u, v, m)) (by simp) hl
    have h3 := negF_or (f := fun l : Lk => l.1 == u) (g := fun l => vs.contains l.1) (fun l hf => by
      simp only [beq_iff_eq] at hf
      rw [hf]
      simpa using hn.1) L
    have h4 : (fun l : Lk => (u :: vs).contains l.1) = fun l => (l.1 == u) || vs.contains l.1 := by funext l; rw [List.contains_cons]
    rw [h4, h3]
    omega
def negS (L : List Lk) : Int := negF (fun _ => true) L
theorem Wl.low' (hp : Pot L p) {vs : List Int} {v d : Int} (h : Wl L S vs v d) : negS L ≤ d := by
  obtain ⟨vs', d', h1, h2, h3⟩ := h.simple hp
  have := h1.low (List.nodup_cons.1 h3).2
  have := negF_le (fun l => vs'.contains l.1) L
  unfold negS
  omega
theorem Wl.high {M : Int} (hM : ∀ l ∈ L, l.2.2 ≤ M) {vs : List Int} {v d : Int} (h : Wl L S vs v d) : d ≤ vs.length * M := by
  induction h with
  | nil h => simp
  | @step vs u v m d hw hl ih =>
    have := hM _ hl
    simp only [List.length_cons, Int.natCast_succ, Int.add_mul, Int.one_mul]
    simp only at this
    omega
theorem Wl.lowM {M : Int} (hM : ∀ l ∈ L, -M ≤ l.2.2) {vs : List Int} {v d : Int} (h : Wl L S vs v d) : -(vs.length * M) ≤ d := by
  induction h with
  | nil h => simp
  | @step vs u v m d hw hl ih =>
    have := hM _ hl
    simp only [List.length_cons, Int.natCast_succ, Int.add_mul, Int.one_mul]
    simp only at this
    omega
theorem Wl.mono {S' : Int → Prop} (hS : ∀ v, S v → S' v) {vs : List Int} {v d : Int} (h : Wl L S vs v d) : Wl L S' vs v d := by
  induction h with
  | nil h => exact .nil (hS _ h)
  | step hw hl ih => exact .step ih hl
theorem Wl.sub {L' : List Lk} (hL : ∀ l ∈ L, l ∈ L') {vs : List Int} {v d : Int} (h : Wl L S vs v d) : Wl L' S vs v d := by
  induction h with
  | nil h => exact .nil h
  | step hw hl ih => exact .step ih (hL _ hl)
theorem Wl.pot (hp : Pot L p) {vs : List Int} {v d : Int} (h : Wl L S vs v d) : ∃ s, S s ∧ p v - p s ≤ d := by
  induction h with
  | @nil v h => exact ⟨v, h, by omega⟩
  | @step vs u v m d hw hl ih =>
    obtain ⟨s, h1, h2⟩ := ih
    have := hp u v m hl
    exact ⟨s, h1, by omega⟩
end
abbrev Free : Int := 1152921504606846976
structure Dist (L : List Lk) (S : Int → Prop) (N : Nat) (x : Int → Int) : Prop where
  att : ∀ v : Int, 0 ≤ v → v < N → x v ≠ Free → ∃ vs, Wl L S vs v (x v)
  low : ∀ v vs d, Wl L S vs v d → x v ≤ d
  bd : ∀ v : Int, 0 ≤ v → v < N → x v ≤ Free
theorem Dist.uniq {L : List Lk} {S : Int → Prop} {N : Nat} {x y : Int → Int} (hx : Dist L S N x) (hy : Dist L S N y) {v : Int} (h0 : 0 ≤ v) (h1 : v < N) : x v = y v := by
  have key : ∀ {x y : Int → Int}, Dist L S N x → Dist L S N y → x v ≤ y v := by
    intro x y hx hy
    by_cases h : y v = Free
    · rw [h]; exact hx.bd v h0 h1
    · obtain ⟨vs, hw⟩ := hy.att v h0 h1 h
      exact hx.low v vs _ hw
  exact Int.le_antisymm (key hx hy) (key hy hx)
def gv (x : List Int) (v : Int) : Int := x[v.toNat]?.getD 0
theorem gv_get {x : List Int} {v : Int} (h : v.toNat < x.length) : x[v.toNat]? = some (gv x v) := by
  unfold gv; rw [List.getElem?_eq_getElem h]; rfl
theorem gv_set {x : List Int} {u v : Int} (hu : 0 ≤ u) (hv : 0 ≤ v) (h : u.toNat < x.length) (y : Int) : gv (x.set u.toNat y) v = if v = u then y else gv x v := by
  unfold gv
  rw [List.getElem?_set]
  by_cases hvu : v = u
  · subst hvu; simp [h]
  · have : ¬ u.toNat = v.toNat := by omega
    simp [hvu, this]
theorem gv_ext {x y : List Int} (hl : x.length = y.length) (h : ∀ v : Int, 0 ≤ v → v < x.length → gv x v = gv y v) : x = y := by
  refine List.ext_getElem hl fun i h1 h2 => ?_
  have := h i (by omega) (by omega)
  unfold gv at this
  simpa [h1, h2] using this
def relaxL (x : List Int) (l : Lk) : List Int := if gv x l.1 < Free ∧ gv x l.1 + l.2.2 < gv x l.2.1 then x.set l.2.1.toNat (gv x l.1 + l.2.2) else x
def passP (L : List Lk) (x : List Int) : List Int := L.foldl relaxL x
def passes (L : List Lk) : Nat → List Int → List Int
  | 0, x => x
  | n + 1, x => passes L n (passP L x)
theorem relaxL_length (x : List Int) (l : Lk) : (relaxL x l).length = x.length := by unfold relaxL; split <;> simp
theorem passP_length (L : List Lk) : ∀ x : List Int, (passP L x).length = x.length := by
  induction L with
  | nil => intro x; rfl
  | cons l t ih => intro x; show (passP t (relaxL x l)).length = _; rw [ih, relaxL_length]
theorem passes_length (L : List Lk) : ∀ (n : Nat) (x : List Int), (passes L n x).length = x.length
  | 0, x => rfl
  | n + 1, x => by rw [passes, passes_length L n, passP_length]
theorem passes_succ (L : List Lk) : ∀ (n : Nat) (x : List Int), passes L (n + 1) x = passP L (passes L n x)
  | 0, x => rfl
  | n + 1, x => by rw [passes, passes_succ L n]; rfl
theorem passes_fix {L : List Lk} {x : List Int} (h : passP L x = x) : ∀ n, passes L n x = x
  | 0 => rfl
  | n + 1 => by rw [passes, h]; exact passes_fix h n
section
variable {L0 : List Lk} {S : Int → Prop} {N : Nat}
theorem relaxL_le {x : List Int} {l : Lk} (hl : (0 ≤ l.1 ∧ l.1 < N) ∧ (0 ≤ l.2.1 ∧ l.2.1 < N)) (hx : x.length = N) (v : Int) (hv : 0 ≤ v) : gv (relaxL x l) v ≤ gv x v := by
  unfold relaxL
  split
  · rename_i h
    rw [gv_set hl.2.1 hv (by omega)]
    split
    · rename_i h2; subst h2; omega
    · exact Int.le_refl _
  · exact Int.le_refl _
theorem passP_le : ∀ {L : List Lk}, InR L N → ∀ {x : List Int}, x.length = N → ∀ v, 0 ≤ v → gv (passP L x) v ≤ gv x v
  | [], _, x, _, v, _ => Int.le_refl _
  | l :: t, hL, x, hx, v, hv => by
    have h1 := relaxL_le (hL l (by simp)) hx v hv
    have h2 := passP_le (L := t) (fun l hl => hL l (by simp [hl])) (x := relaxL x l) (by rw [relaxL_length, hx]) v hv
    show gv (passP t (relaxL x l)) v ≤ _
    omega
theorem passP_link : ∀ {L : List Lk}, InR L N → ∀ {x : List Int}, x.length = N → ∀ u v m, (u, v, m) ∈ L → gv x u < Free → gv (passP L x) v ≤ gv x u + m
  | l :: t, hL, x, hx, u, v, m, hm, hf => by
    have ht : InR t N := fun l hl => hL l (by simp [hl])
    have hx' : (relaxL x l).length = N := by rw [relaxL_length, hx]
    show gv (passP t (relaxL x l)) v ≤ _
    rcases List.mem_cons.1 hm with rfl | hm
    · have hl := hL (u, v, m) (by simp)
      have h2 := passP_le ht hx' v hl.2.1
      have h3 : gv (relaxL x (u, v, m)) v ≤ gv x u + m := by
        unfold relaxL
        split
        · rw [gv_set hl.2.1 hl.2.1 (by simp only at hl; simp only; omega), if_pos rfl]; exact Int.le_refl _
        · rename_i h; simp only [not_and, Int.not_lt] at h; exact h hf
      omega
    · have hl := hL (u, v, m) (by simp [hm])
      have h1 := relaxL_le (hL l (by simp)) hx u hl.1.1
      have := passP_link ht hx' u v m hm (by omega)
      omega
def Att (L0 : List Lk) (S : Int → Prop) (N : Nat) (x : List Int) : Prop := ∀ v : Int, 0 ≤ v → v < N → gv x v < Free → ∃ vs, Wl L0 S vs v (gv x v)
theorem relaxL_att {x : List Int} {l : Lk} (hl : (0 ≤ l.1 ∧ l.1 < N) ∧ (0 ≤ l.2.1 ∧ l.2.1 < N)) (hm : l ∈ L0) (hx : x.length = N) (h : Att L0 S N x) : Att L0 S N (relaxL x l) := by
  unfold relaxL
  split
  · rename_i hc
    intro v h0 h1 hf
    rw [gv_set hl.2.1 h0 (by omega)] at hf ⊢
    split
    · rename_i h2
      obtain ⟨vs, hw⟩ := h l.1 hl.1.1 hl.1.2 hc.1
      exact ⟨_, h2 ▸ Wl.step hw hm⟩
    · rename_i h2
      rw [if_neg h2] at hf
      exact h v h0 h1 hf
  · exact h
theorem passP_att : ∀ {L : List Lk}, InR L N → (∀ l ∈ L, l ∈ L0) → ∀ {x : List Int}, x.length = N → Att L0 S N x → Att L0 S N (passP L x)
  | [], _, _, _, _, h => h
  | l :: t, hL, hsub, x, hx, h => passP_att (L := t) (fun l hl => hL l (by simp [hl])) (fun l hl => hsub l (by simp [hl])) (x := relaxL x l) (by rw [relaxL_length, hx]) (relaxL_att (hL l (by simp)) (hsub l (by simp)) hx h)
theorem passes_att (hL : InR L0 N) : ∀ (n : Nat) {x : List Int}, x.length = N → Att L0 S N x → Att L0 S N (passes L0 n x)
  | 0, _, _, h => h
  | n + 1, x, hx, h => passes_att hL n (by rw [passP_length, hx]) (passP_att hL (fun _ h => h) hx h)
theorem passes_le (hL : InR L0 N) : ∀ (n : Nat) {x : List Int}, x.length = N → ∀ v, 0 ≤ v → gv (passes L0 n x) v ≤ gv x v
  | 0, _, _, _, _ => Int.le_refl _
  | n + 1, x, hx, v, hv => Int.le_trans (passes_le hL n (by rw [passP_length, hx]) v hv) (passP_le hL hx v hv)
def start (S : Int → Bool) (N : Nat) : List Int := (List.range N).map fun (i : Nat) => if S i then 0 else Free
theorem start_gv (S : Int → Bool) {N : Nat} {v : Int} (h0 : 0 ≤ v) (h1 : v < N) : gv (start S N) v = if S v then 0 else Free := by
  unfold gv start
  have : v.toNat < N := by omega
  rw [List.getElem?_map, List.getElem?_range this]
  simp only [Option.map_some, Option.getD_some]
  rw [Int.toNat_of_nonneg h0]
theorem start_length (S : Int → Bool) (N : Nat) : (start S N).length = N := by simp [start]
end
theorem passes_low {L : List Lk} {S : Int → Bool} {N : Nat} {M : Int} (hL : InR L N) (hS : ∀ v, S v = true → 0 ≤ v ∧ v < N) (hM : ∀ l ∈ L, l.2.2 ≤ M) : ∀ (n : Nat), n * M < Free → 0 ≤ M → ∀ vs v d, Wl L (fun v => S v = true) vs v d → vs.length ≤ n → gv (passes L n (start S N)) v ≤ d
  | 0, _, _, vs, v, d, hw, hl => by
    cases hw with
    | nil h => 
      have := hS v h
      rw [passes, start_gv S this.1 this.2, if_pos h]; exact Int.le_refl _
    | step => simp at hl
  | n + 1, hn, hM0, vs, v, d, hw, hl => by
    have hn' : n * M < Free := by rw [Int.natCast_succ, Int.add_mul, Int.one_mul] at hn; omega
    have hlen : (passes L n (start S N)).length = N := by rw [passes_length, start_length]
    rw [passes_succ]
    cases hw with
    | nil h =>
      have h1 := passP_le hL hlen v (hS v h).1
      have h2 := passes_low hL hS hM n hn' hM0 [] v 0 (.nil h) (by simp)
      omega
    | @step vs u _ m d hw hlk =>
      have h2 := passes_low hL hS hM n hn' hM0 vs u d hw (by simpa using hl)
      have h3 := hw.high hM
      have h4 : (vs.length : Int) * M ≤ n * M := Int.mul_le_mul_of_nonneg_right (by simp at hl; omega) hM0
      have := passP_link hL hlen u v m hlk (by omega)
      omega
theorem passes_dist {L : List Lk} {S : Int → Bool} {N : Nat} {M : Int} {p : Int → Int} (hp : Pot L p) (hL : InR L N) (hS : ∀ v, S v = true → 0 ≤ v ∧ v < N) (hM : ∀ l ∈ L, l.2.2 ≤ M) (hM0 : 0 ≤ M) (hN : N * M < Free) (n : Nat) (hn : N ≤ n + 1) : Dist L (fun v => S v = true) N (gv (passes L n (start S N))) := by
  have hatt : Att L (fun v => S v = true) N (start S N) := fun v h0 h1 hf => by
    rw [start_gv S h0 h1] at hf ⊢
    split
    · rename_i h; exact ⟨[], .nil h⟩
    · rename_i h; rw [if_neg h] at hf; omega
  have hbd : ∀ v : Int, 0 ≤ v → v < N → gv (passes L n (start S N)) v ≤ Free := fun v h0 h1 => by
    have := passes_le hL n (start_length S N) v h0
    rw [start_gv S h0 h1] at this
    have hF : (0 : Int) ≤ Free := by decide
    split at this <;> omega
  have hlow : ∀ (n : Nat), N ≤ n + 1 → ∀ v vs d, Wl L (fun v => S v = true) vs v d → gv (passes L n (start S N)) v ≤ d := by
    intro n hn v vs d hw
    obtain ⟨vs', d', h1, h2, h3⟩ := hw.simple hp
    have h4 := h1.short hL hS h3
    have hpos : 0 < N := by omega
    obtain ⟨k, rfl⟩ : ∃ k, N = k + 1 := ⟨N - 1, by omega⟩
    have hk : (k : Int) * M < Free := by rw [Int.natCast_succ, Int.add_mul, Int.one_mul] at hN; omega
    have h5 := passes_low hL hS hM k hk hM0 vs' v d' h1 (by omega)
    obtain ⟨j, rfl⟩ : ∃ j, n = k + j := ⟨n - k, by omega⟩
    have h6 : ∀ (j : Nat), gv (passes L (k + j) (start S (k + 1))) v ≤ gv (passes L k (start S (k + 1))) v := by
      intro j
      induction j with
      | zero => exact Int.le_refl _
      | succ j ih =>
        rw [← Nat.add_assoc, passes_succ]
        have := passP_le hL (x := passes L (k + j) (start S (k + 1))) (by rw [passes_length, start_length]) v (h1.range hL hS).1.1
        omega
    have := h6 j
    omega
  exact ⟨fun v h0 h1 hne => passes_att hL n (start_length S N) hatt v h0 h1 (by have := hbd v h0 h1; omega), hlow n hn, hbd⟩
theorem Dist.pot {L : List Lk} {S : Int → Prop} {N : Nat} {x : Int → Int} (h : Dist L S N x) (hL : InR L N) {u v m : Int} (hl : (u, v, m) ∈ L) (hf : x u ≠ Free) : x v ≤ x u + m := by
  obtain ⟨vs, hw⟩ := h.att u (hL _ hl).1.1 (hL _ hl).1.2 hf
  exact h.low v _ _ (.step hw hl)
end Go.Proofs.ZzM
end

noncomputable section
namespace Go.Proofs.ZzM
open Go Go.Am
section
variable {ρ : Type}
theorem iget_pred {α : Type} {l : List α} {i : Nat} {a : α} (h0 : 0 < i) (h : l[i - 1]? = some a) (f : α → Option ρ) : iget l ((i : Int) - 1) f = f a := by
  have : ((i : Int) - 1) = ((i - 1 : Nat) : Int) := by omega
  rw [this, iget_nat h]
theorem ck_pred {i : Nat} (h : 0 < i) (hn : i ≤ 1000000000) (f : Int → Option ρ) : ck ((i : Int) - 1) f = f ((i : Int) - 1) := ck_ok (by omega) (by omega) f
theorem iff_idx {i n : Nat} (h : i < n) (x : Option ρ) : iff_ ((ile 0 (i : Int)) && (ilt (i : Int) (n : Int))) x = x := by
  have : ((ile 0 (i : Int)) && (ilt (i : Int) (n : Int))) = true := by simp [ile, ilt, h]
  rw [this, Am.iff_true]
theorem nget_toNat {α : Type} {l : List α} {i : Nat} {a : α} (h : l[i]? = some a) (f : α → Option ρ) : nget l (Int.toNat (i : Int)) f = f a := by
  rw [Int.toNat_natCast]; exact nget_nat h f
end
def backE {α : Type} (key : α → Int) (l : List α) (i : Nat) (a : α) : Bool :=
  decide (0 < i) && (l[i - 1]?).any fun q => decide (key a ≤ key q)
theorem prev_some {α : Type} {l : List α} {i : Nat} (hi : i < l.length) (h0 : 0 < i) : ∃ q, l[i - 1]? = some q :=
  ⟨l[i - 1], List.getElem?_eq_getElem (by omega)⟩
theorem back_iff {α : Type} (key : α → Int) (l : List α) : (∀ i a, l[i]? = some a → backE key l i a = false) ↔ l.Pairwise (fun a b => key a < key b) := by
  rw [List.pairwise_iff_getElem]
  constructor
  · intro h
    have step : ∀ i (h1 : i + 1 < l.length), key l[i] < key l[i + 1] := by
      intro i h1
      have := h (i + 1) l[i + 1] (List.getElem?_eq_getElem h1)
      simp only [backE, Nat.add_sub_cancel, Nat.succ_pos, decide_true, Bool.true_and, List.getElem?_eq_getElem (show i < l.length by omega), Option.any_some, decide_eq_false_iff_not] at this
      omega
    intro i j hi hj hij
    induction j with
    | zero => omega
    | succ j ih =>
      have := step j hj
      rcases Nat.lt_or_ge i j with hlt | hge
      · have := ih (by omega) hlt; omega
      · have : i = j := by omega
        subst this; assumption
  · intro h i a ha
    obtain ⟨hi, rfl⟩ := List.getElem?_eq_some_iff.1 ha
    unfold backE
    cases i with
    | zero => rfl
    | succ i =>
      have := h i (i + 1) (by omega) hi (by omega)
      simp only [Nat.add_sub_cancel, Nat.succ_pos, decide_true, Bool.true_and, List.getElem?_eq_getElem (show i < l.length by omega), Option.any_some, decide_eq_false_iff_not]
      omega
def gaugeE (l : List Gauge) (i : Nat) (g : Gauge) : Option Int :=
  if !gaugeP g then some 1 else if backE (fun g => g.1) l i g then some 6 else none
def gaugesE (b : Book) : Int := (firstO (gaugeE b.2.1) 0 b.2.1).getD 0
theorem checkGauges_ok {b : Book} (hr : ∀ g ∈ b.2.1, I64 g.2.2.2.2.1.1) (hn : b.2.1.length ≤ 1000) : f_c_checkGauges b = some (gaugesE b) := by
  unfold f_c_checkGauges m_c_checkGauges
  refine Eq.trans (loop_first b.2.1 (gaugeE b.2.1) some (some 0) (fun i a hi ha kn => ?_) (fun kn => ?_)) ?_
  · try dsimp only
    unfold m_c_checkGauges_L0
    rw [ifb_lt' hi, iget_nat ha, isGauge_ok (hr a (List.mem_of_getElem? ha)), bindF_some]
    unfold gaugeE
    cases hg : gaugeP a with
    | false => simp
    | true =>
      simp only [Bool.not_true, ifb_false, Bool.false_eq_true, if_false]
      rcases Nat.eq_zero_or_pos i with h0 | h0
      · subst h0
        have : igt ((0 : Nat) : Int) 0 = false := by simp [igt]
        rw [ifb_f this, ck_succ hi (by omega)]
        simp [backE]
      · obtain ⟨q, hq⟩ := prev_some hi h0
        have h1 : igt (i : Int) 0 = true := by simp [igt]; omega
        rw [ifb_t h1, ck_pred h0 (by omega), iget_pred h0 hq]
        simp only [backE, h0, decide_true, Bool.true_and, hq, Option.any_some]
        unfold ile
        cases h2 : decide (a.1 ≤ q.1) with
        | true => simp
        | false =>
          rw [ifb_false, ck_succ hi (by omega)]
          simp
  · try dsimp only
    unfold m_c_checkGauges_L0
    rw [ifb_ge]
  · unfold gaugesE
    cases firstO (gaugeE b.2.1) 0 b.2.1 <;> rfl
def shelfL (l : List Gauge) : List (Int × Gauge) := l.foldl (fun m g => mset (k := tI) (v := tyGauge) g.1 g m) []
def shelf (b : Book) : List (Int × Gauge) := shelfL b.2.1
theorem shelved_ok {b : Book} (hn : b.2.1.length ≤ 1000) : f_c_shelved b = some (shelf b) := by
  unfold f_c_shelved m_c_shelved
  refine loop_acc b.2.1 (fun i => shelfL (b.2.1.take i)) _ rfl (fun i a hi ha kn => ?_) (fun kn => ?_)
  · try dsimp only
    unfold m_c_shelved_L0
    rw [ifb_lt' hi, iget_nat ha, ck_succ hi (by omega), take_succ ha]
    simp only [shelfL, List.foldl_append, List.foldl_cons, List.foldl_nil]
  · try dsimp only
    unfold m_c_shelved_L0
    rw [ifb_ge, List.take_length]
    rfl
theorem mget_mset (x y : Int) (g : Gauge) : ∀ m : List (Int × Gauge), mget (k := tI) (v := tyGauge) x (mset (k := tI) (v := tyGauge) y g m) = if x = y then some g else mget (k := tI) (v := tyGauge) x m
  | [] => by
    unfold mset mget keyEq mget
    by_cases h : x = y <;> simp [h]
  | e :: m => by
    unfold mset
    by_cases h : y = e.1
    · have : keyEq tI y e.1 = true := by simp [keyEq, h]
      rw [this]
      try dsimp only
      unfold mget keyEq
      by_cases h2 : x = y
      · simp [h2]
      · have : ¬ x = e.1 := fun h3 => h2 (h3.trans h.symm)
        simp [h2, this]
    · have : keyEq tI y e.1 = false := by simp [keyEq, h]
      rw [this]
      try dsimp only
      have ih := mget_mset x y g m
      unfold mget
      by_cases h2 : x = e.1
      · have : keyEq tI x e.1 = true := by simp [keyEq, h2]
        rw [this]
        have : ¬ x = y := fun h3 => h (h3.symm.trans h2)
        simp [this]
      · have : keyEq tI x e.1 = false := by simp [keyEq, h2]
        rw [this]
        exact ih
def gaugeOf (b : Book) (id : Int) : Option Gauge := b.2.1.find? fun g => g.1 == id
theorem mget_shelfL (x : Int) (l : List Gauge) : mget (k := tI) (v := tyGauge) x (shelfL l) = l.reverse.find? fun g => g.1 == x := by
  unfold shelfL
  rw [← List.foldr_reverse]
  induction l.reverse with
  | nil => rfl
  | cons g t ih =>
    rw [List.foldr_cons, mget_mset, ih, List.find?_cons]
    by_cases h : x = g.1
    · simp [h]
    · have : (g.1 == x) = false := by simp; exact fun h2 => h h2.symm
      simp [h, this]
theorem find_reverse {l : List Gauge} (h : l.Pairwise fun a b => a.1 < b.1) (x : Int) : l.reverse.find? (fun g => g.1 == x) = l.find? fun g => g.1 == x := by
  induction l with
  | nil => rfl
  | cons g t ih =>
    rw [List.pairwise_cons] at h
    rw [List.reverse_cons, List.find?_append, ih h.2, List.find?_cons]
    by_cases hx : g.1 = x
    · have : t.find? (fun g => g.1 == x) = none := List.find?_eq_none.2 fun y hy => by have : g.1 < y.1 := h.1 y hy; simp; omega
      rw [this]; simp [hx]
    · have : (g.1 == x) = false := by simp [hx]
      simp [this]
theorem mget_shelf {b : Book} (h : b.2.1.Pairwise fun a b => a.1 < b.1) (x : Int) : mget (k := tI) (v := tyGauge) x (shelf b) = gaugeOf b x := by
  unfold shelf gaugeOf
  rw [mget_shelfL, find_reverse h]
def madeE (s : List (Int × Gauge)) (id day : Int) : Int :=
  match mget (k := tI) (v := tyGauge) id s with
  | some g => if day < g.2.1 then 4 else 0
  | none => 5
theorem made_ok (s : List (Int × Gauge)) (id day : Int) : f_c_shelf_made s id day = some (madeE s id day) := by
  unfold f_c_shelf_made m_c_shelf_made madeE
  cases h : mget (k := tI) (v := tyGauge) id s with
  | none => simp only [lget, h]
  | some g =>
    simp only [lget, h]
    rw [ifb_eq]
    by_cases h2 : day < g.2.1 <;> simp [h2]
def useE (s : List (Int × Gauge)) (id day : Int) : Int := if !dayP day then 1 else madeE s id day
theorem parts1_ok (s : List (Int × Gauge)) (id day : Int) : f_c_parts_1 id day s = some (useE s id day) := by
  unfold f_c_parts_1 m_c_parts_1 useE
  rw [isDay_ok, bindF_some, made_ok, bindF_some]
  cases dayP day <;> rfl
def loanE (b : Book) (s : List (Int × Gauge)) (i : Nat) (l : Loan) : Int :=
  if !spanP l.2.1 0 20000 then 1 else if !inP l.2.2 0 1048576 then 1 else if madeE s l.1 l.2.1.1 != 0 then madeE s l.1 l.2.1.1 else
  if (b.2.2.2.1.take i).any (fun x => x.1 == l.1 && (decide (x.2.1.1 ≤ l.2.1.2) && decide (l.2.1.1 ≤ x.2.1.2))) then 9 else
  if b.2.2.1.any (fun u => u.1 == l.1 && inP u.2 l.2.1.1 l.2.1.2) then 9 else 0
theorem checkLoan_ok {b : Book} (hn : b.2.2.2.1.length ≤ 1000) (hu : b.2.2.1.length ≤ 1000) (s : List (Int × Gauge)) {i : Nat} {l : Loan} (hl : b.2.2.2.1[i]? = some l) : f_c_checkLoan b s i = some (loanE b s i l) := by
  unfold f_c_checkLoan m_c_checkLoan loanE
  have hi : i < b.2.2.2.1.length := (List.getElem?_eq_some_iff.1 hl).1
  rw [iget_nat hl, inside_ok, bindF_some, within_ok, bindF_some, made_ok, bindF_some]
  cases spanP l.2.1 0 20000 with
  | false => rfl
  | true =>
  cases inP l.2.2 0 1048576 with
  | false => rfl
  | true =>
  cases hm : (madeE s l.1 l.2.1.1 != 0) with
  | true =>
    have : ine (madeE s l.1 l.2.1.1) 0 = true := hm
    simp [this]
  | false =>
  have hm' : ine (madeE s l.1 l.2.1.1) 0 = false := hm
  have hg : ((ile (0 : Int) (i : Int)) && (ile (i : Int) (olen b.2.2.2.1))) = true := by simp [ile, olen]; omega
  simp only [Bool.not_true, ifb_false, hm', Bool.false_eq_true, if_false]
  rw [iff_of hg, Int.toNat_natCast]
  have inner : ∀ (k : Int → Option Int), loopT (fun (v : Int) kk => m_c_checkLoan_L1 b.2.2.1 (ilen b.2.2.1) l.1 l.2.1.1 l.2.1.2 v (fun u => kk u) (fun z => ifb (ige z 0) (k 9) (k 0)) (fun _ => k 0)) (0 : Int) = if b.2.2.1.any (fun u => u.1 == l.1 && inP u.2 l.2.1.1 l.2.1.2) then k 9 else k 0 := by
    intro k
    refine loop_any b.2.2.1 _ (fun z => ifb (ige z 0) (k 9) (k 0)) (k 9) (k 0) (fun j => ?_) (fun j a hj ha kn => ?_) (fun kn => ?_)
    · have : ige (j : Int) 0 = true := by simp [ige]
      rw [ifb_t this]
    · try dsimp only
      unfold m_c_checkLoan_L1
      rw [ifb_lt' hj, iget_nat ha, within_ok, bindF_some, ck_succ hj (by omega)]
      cases h1 : (a.1 == l.1) with
      | false =>
        have : ieq a.1 l.1 = false := h1
        simp [this]
      | true =>
        have : ieq a.1 l.1 = true := h1
        rw [this]
        cases inP a.2 l.2.1.1 l.2.1.2 <;> simp
    · try dsimp only
      unfold m_c_checkLoan_L1
      rw [ifb_ge]
  rw [inner]
  refine Eq.trans (loop_any (b.2.2.2.1.take i) (fun x => x.1 == l.1 && (decide (x.2.1.1 ≤ l.2.1.2) && decide (l.2.1.1 ≤ x.2.1.2))) (fun z => ifb (ige z 0) (some 9) (if b.2.2.1.any (fun u => u.1 == l.1 && inP u.2 l.2.1.1 l.2.1.2) then some 9 else some 0)) (some 9) (if b.2.2.1.any (fun u => u.1 == l.1 && inP u.2 l.2.1.1 l.2.1.2) then some 9 else some 0) (fun j => ?_) (fun j a hj ha kn => ?_) (fun kn => ?_)) ?_
  · have : ige (j : Int) 0 = true := by simp [ige]
    rw [ifb_t this]
  · try dsimp only
    unfold m_c_checkLoan_L0
    have hj' : j ≤ 1000 := by rw [List.length_take] at hj; omega
    rw [ifb_lt' hj, iget_nat ha, ck_succ hj (by rw [List.length_take]; omega)]
    cases h1 : (a.1 == l.1) with
    | false =>
      have : ieq a.1 l.1 = false := h1
      simp [this]
    | true =>
      have : ieq a.1 l.1 = true := h1
      rw [this]
      cases h2 : decide (a.2.1.1 ≤ l.2.1.2) <;> cases h3 : decide (l.2.1.1 ≤ a.2.1.2) <;> simp [ile, h2, h3, ifb_eq] <;> simp_all
  · try dsimp only
    unfold m_c_checkLoan_L0
    rw [ifb_ge]
  · cases List.any (b.2.2.2.1.take i) _ <;> cases b.2.2.1.any _ <;> rfl
end Go.Proofs.ZzM
end

noncomputable section
namespace Go.Proofs.ZzM
open Go Go.Am
theorem IndexI_ok {l : List Int} (hn : l.length ≤ 1000000) (x : Int) : f_s_Index_int_int l x = some (match l.findIdx? (· == x) with | some j => (j : Int) | none => -1) := by
  unfold f_s_Index_int_int m_s_Index_int_int
  refine Eq.trans (loop_find l (· == x) some (some (-1)) (fun i a hi ha kn => ?_) (fun kn => ?_)) ?_
  · try dsimp only
    unfold m_s_Index_int_int_L0
    rw [ifb_lt' hi, iget_nat ha, ck_succ hi (by omega), ifb_eq]
    by_cases h : x = a
    · subst h; simp [ieq]
    · have h2 : ¬ a = x := fun e => h e.symm
      simp [ieq, h, h2]
  · try dsimp only
    unfold m_s_Index_int_int_L0
    rw [ifb_ge]
  · cases l.findIdx? (· == x) <;> rfl
theorem ContainsI_ok {l : List Int} (hn : l.length ≤ 1000000) (x : Int) : f_s_Contains_int_int l x = some (l.contains x) := by
  unfold f_s_Contains_int_int m_s_Contains_int_int
  rw [IndexI_ok hn, bindF_some]
  congr 1
  cases h : l.findIdx? (· == x) with
  | none =>
    have : l.contains x = false := by
      rw [Bool.eq_false_iff]
      intro hc
      have := List.findIdx?_eq_none_iff.1 h x (by simpa using hc)
      simp at this
    rw [this]; rfl
  | some j =>
    obtain ⟨hj, hp, _⟩ := List.findIdx?_eq_some_iff_getElem.1 h
    have : l.contains x = true := by
      have h2 : l[j] = x := by simpa using hp
      rw [← h2]; simp
    rw [this]
    simp [ige]
def leftP (a b : List Int) : List Int := a.filter fun x => !b.contains x
theorem left_ok {a b : List Int} (ha : a.length ≤ 1000000) (hb : b.length ≤ 1000000) : f_c_left a b = some (leftP a b) := by
  unfold f_c_left m_c_left
  rw [okLen_of (by omega), Am.iff_true]
  have second : ∀ z : Nat, z < a.length → leftP (a.take z) b = a.take z → b.contains (a[z]?.getD 0) = true →
      loopT (fun (v13 : (Val (.pair tI (.pair tI (.slice tI))))) kk17 => m_c_left_L1 b v13.1 v13.2.1 v13.2.2 (fun u14 u15 u16 => kk17 (u14, u15, u16)) (fun z12 => iff_ ((ile (0 : Int) z12.1) && (ile z12.1 (olen z12.2))) (iff_ ((ile (0 : Int) z12.1) && (ile z12.1 (olen (List.take (Int.toNat z12.1) z12.2 ++ List.replicate (List.length z12.2 - (Int.toNat z12.1)) (0 : Int) ++ List.drop ((Int.toNat z12.1) + (List.length z12.2 - (Int.toNat z12.1))) z12.2)))) (some (List.take (Int.toNat z12.1) (List.drop 0 (List.take (Int.toNat z12.1) z12.2 ++ List.replicate (List.length z12.2 - (Int.toNat z12.1)) (0 : Int) ++ List.drop ((Int.toNat z12.1) + (List.length z12.2 - (Int.toNat z12.1))) z12.2))))))) ((z : Int), ((z : Int) + 1), a) = some (leftP a b) := by
    intro z hz hp hc
    refine loop_inv (fun x : Int × Int × List Int => ∃ i j : Nat, x.1 = i ∧ x.2.1 = j ∧ i < j ∧ j ≤ a.length ∧ x.2.2.length = a.length ∧ x.2.2.take i = leftP (a.take j) b ∧ x.2.2.drop j = a.drop j) (fun x => a.length - x.2.1.toNat) ?_
      ⟨z, z + 1, rfl, by simp, by omega, by omega, rfl, ?_, rfl⟩
    · rintro ⟨x1, x2, s⟩ ⟨i, j, h1, h2, hij, hja, hl, ht, hd⟩
      simp only at h1 h2 hl ht hd
      subst h1 h2
      rcases Nat.lt_or_ge j a.length with hj | hj
      · refine .inr ?_
        have hsj : s[j]? = some a[j] := by
          have h3 : (s.drop j)[0]? = (a.drop j)[0]? := by rw [hd]
          rw [List.getElem?_drop, List.getElem?_drop] at h3
          simpa [List.getElem?_eq_getElem hj] using h3
        have hjs : j < s.length := by omega
        have hta : leftP (a.take (j + 1)) b = leftP (a.take j) b ++ if b.contains a[j] then [] else [a[j]] := by
          rw [take_succ (List.getElem?_eq_getElem hj), leftP, leftP, List.filter_append]
          congr 1
          cases h : b.contains a[j] with
          | true => simp only [List.filter_cons, h, Bool.not_true, Bool.false_eq_true, if_false, List.filter_nil, if_true]
          | false => simp only [List.filter_cons, h, Bool.not_false, Bool.false_eq_true, if_false, List.filter_nil, if_true]
        cases h : b.contains a[j] with
        | true =>
          refine ⟨(i, (j : Int) + 1, s), ⟨i, j + 1, rfl, by simp, by omega, by omega, hl, ?_, ?_⟩, by simp; omega, fun kn => ?_⟩
          · rw [hta, h]; simpa using ht
          · have := congrArg (List.drop 1) hd
            simpa [List.drop_drop, Nat.add_comm] using this
          · try dsimp only
            unfold m_c_left_L1
            rw [ifb_lt' hjs, iff_idx hjs, nget_toNat hsj, ContainsI_ok hb, bindF_some, h]
            simp only [Bool.not_true, ifb_false]
            rw [ck_succ hjs (by omega)]
        | false =>
          have his : i < s.length := by omega
          refine ⟨((i : Int) + 1, (j : Int) + 1, s.set i a[j]), ⟨i + 1, j + 1, by simp, by simp, by omega, by omega, by simpa using hl, ?_, ?_⟩, by simp; omega, fun kn => ?_⟩
          · show List.take (i + 1) (s.set i a[j]) = _
            rw [hta, h, List.take_succ, List.getElem?_set, List.take_set_of_le (Nat.le_refl i), ht]
            simp [his]
          · show List.drop (j + 1) (s.set i a[j]) = _
            rw [List.drop_set_of_lt (by omega)]
            have := congrArg (List.drop 1) hd
            simpa [List.drop_drop, Nat.add_comm] using this
          · try dsimp only
            unfold m_c_left_L1
            rw [ifb_lt' hjs, iff_idx hjs, nget_toNat hsj, ContainsI_ok hb, bindF_some, h]
            simp only [Bool.not_false, ifb_true]
            rw [iff_idx his, nget_toNat (List.getElem?_eq_getElem his), ck_succ his (by omega), ck_succ hjs (by omega), Int.toNat_natCast]
      · refine .inl fun kn => ?_
        have hje : j = s.length := by omega
        try dsimp only
        unfold m_c_left_L1
        rw [hje, ifb_ge]
        dsimp only
        have g1 : ((ile (0 : Int) (i : Int)) && (ile (i : Int) (olen s))) = true := by simp [ile, olen]; omega
        rw [iff_of g1]
        have g2 : ((ile (0 : Int) (i : Int)) && (ile (i : Int) (olen (List.take (Int.toNat (i : Int)) s ++ List.replicate (List.length s - (Int.toNat (i : Int))) (0 : Int) ++ List.drop ((Int.toNat (i : Int)) + (List.length s - (Int.toNat (i : Int)))) s)))) = true := by
          simp [ile, olen]; omega
        rw [iff_of g2, Int.toNat_natCast, List.drop_zero, List.append_assoc, List.take_append_of_le_length (by simp; omega), List.take_take, Nat.min_self, ht] 
        rw [List.take_of_length_le (by omega)]
    · show List.take z a = leftP (a.take (z + 1)) b
      have hz' : a[z]? = some a[z] := List.getElem?_eq_getElem hz
      rw [take_succ hz', leftP, List.filter_append]
      rw [hz'] at hc
      simp only [Option.getD_some] at hc
      have : List.filter (fun x => !b.contains x) [a[z]] = [] := by simp only [List.filter_cons, hc, Bool.not_true, Bool.false_eq_true, if_false, List.filter_nil]
      rw [this, List.append_nil]
      exact hp.symm
  refine Eq.trans (loop_find a (fun x => b.contains x) (fun z4 => ifb (ieq z4 (-1 : Int)) (some a) (ck (z4 + (1 : Int)) fun n5 => loopT (fun (v13 : (Val (.pair tI (.pair tI (.slice tI))))) kk17 => m_c_left_L1 b v13.1 v13.2.1 v13.2.2 (fun u14 u15 u16 => kk17 (u14, u15, u16)) (fun z12 => iff_ ((ile (0 : Int) z12.1) && (ile z12.1 (olen z12.2))) (iff_ ((ile (0 : Int) z12.1) && (ile z12.1 (olen (List.take (Int.toNat z12.1) z12.2 ++ List.replicate (List.length z12.2 - (Int.toNat z12.1)) (0 : Int) ++ List.drop ((Int.toNat z12.1) + (List.length z12.2 - (Int.toNat z12.1))) z12.2)))) (some (List.take (Int.toNat z12.1) (List.drop 0 (List.take (Int.toNat z12.1) z12.2 ++ List.replicate (List.length z12.2 - (Int.toNat z12.1)) (0 : Int) ++ List.drop ((Int.toNat z12.1) + (List.length z12.2 - (Int.toNat z12.1))) z12.2))))))) (z4, n5, a))) (some a) (fun i x hi hx kn => ?_) (fun kn => ?_)) ?_
  · try dsimp only
    unfold m_c_left_L0
    rw [ifb_lt' hi, iff_idx hi, nget_toNat hx, ContainsI_ok hb, bindF_some, ck_succ hi (by omega), ifb_eq]
  · try dsimp only
    unfold m_c_left_L0
    rw [ifb_ge]
  · cases h : a.findIdx? (fun x => b.contains x) with
    | none =>
      have : leftP a b = a := by
        rw [leftP, List.filter_eq_self]
        intro x hx
        have := List.findIdx?_eq_none_iff.1 h x hx
        simpa using this
      rw [this]
    | some z =>
      obtain ⟨hz, hc, hlt⟩ := List.findIdx?_eq_some_iff_getElem.1 h
      have h1 : ieq (z : Int) (-1) = false := by simp [ieq]
      try dsimp only
      rw [ifb_f h1, ck_succ hz (by omega)]
      refine second z hz ?_ ?_
      · rw [leftP, List.filter_eq_self]
        intro x hx
        obtain ⟨j, hj, rfl⟩ := List.mem_iff_getElem.1 hx
        rw [List.length_take] at hj
        rw [List.getElem_take]
        have := hlt j (by omega)
        simpa using this
      · rw [List.getElem?_eq_getElem hz]; exact hc
def pileE (l : List Int) (i : Nat) (a : Int) : Option Bool := if !inP a 1 1099511627776 then some false else if backE (fun x => x) l i a then some false else none
def pileP (l : List Int) : Bool := match firstO (pileE l) 0 l with | some _ => false | none => decide (l.length ≤ 6)
theorem isPile_ok {l : List Int} (hn : l.length ≤ 1000000) : f_c_isPile l = some (pileP l) := by
  unfold f_c_isPile m_c_isPile
  refine Eq.trans (loop_first l (pileE l) some (some (decide (l.length ≤ 6))) (fun i a hi ha kn => ?_) (fun kn => ?_)) ?_
  · try dsimp only
    unfold m_c_isPile_L0
    rw [ifb_lt' hi, iget_nat ha, within_ok, bindF_some]
    unfold pileE
    cases inP a 1 1099511627776 with
    | false => rfl
    | true =>
      simp only [Bool.not_true, ifb_false, Bool.false_eq_true, if_false]
      rcases Nat.eq_zero_or_pos i with h0 | h0
      · subst h0
        have : igt ((0 : Nat) : Int) 0 = false := by simp [igt]
        rw [ifb_f this, ck_succ hi (by omega)]
        simp [backE]
      · obtain ⟨q, hq⟩ := prev_some hi h0
        have h1 : igt (i : Int) 0 = true := by simp [igt]; omega
        rw [ifb_t h1, ck_pred h0 (by omega), iget_pred h0 hq]
        simp only [backE, h0, decide_true, Bool.true_and, hq, Option.any_some]
        unfold ile
        cases h2 : decide (a ≤ q) with
        | true => rfl
        | false =>
          rw [ifb_false, ck_succ hi (by omega)]
          rfl
  · try dsimp only
    unfold m_c_isPile_L0
    rw [ifb_ge, ilen_eq]
    simp [ile]
    omega
  · have hb : ∀ x, firstO (pileE l) 0 l = some x → x = false := by
      have : ∀ (m : List Int) (j : Nat) (x : Bool), firstO (pileE l) j m = some x → x = false := by
        intro m
        induction m with
        | nil => intro j x h; cases h
        | cons a m ih =>
          intro j x h
          unfold firstO at h
          cases hp : pileE l j a with
          | none => rw [hp] at h; exact ih _ _ h
          | some y =>
            rw [hp] at h
            cases h
            unfold pileE at hp
            split at hp
            · cases hp; rfl
            · split at hp
              · cases hp; rfl
              · cases hp
      exact this l 0
    unfold pileP
    cases h : firstO (pileE l) 0 l with
    | none => rfl
    | some x => rw [hb x h]
theorem pileP_iff (l : List Int) : pileP l = true ↔ (∀ x ∈ l, 1 ≤ x ∧ x ≤ 1099511627776) ∧ l.Pairwise (· < ·) ∧ l.length ≤ 6 := by
  have h0 : firstO (pileE l) 0 l = none ↔ (∀ x ∈ l, 1 ≤ x ∧ x ≤ 1099511627776) ∧ l.Pairwise (· < ·) := by
    rw [firstO_none, ← back_iff (fun x => x) l]
    constructor
    · intro h
      have h1 : ∀ (j : Nat) (a : Int), l[j]? = some a → inP a 1 1099511627776 = true ∧ backE (fun x => x) l j a = false := by
        intro j a ha
        have := h j a ha
        rw [Nat.zero_add] at this
        unfold pileE at this
        split at this
        · cases this
        · split at this
          · cases this
          · rename_i h1 h2
            exact ⟨by simpa using h1, by simpa using h2⟩
      refine ⟨fun x hx => ?_, fun i a ha => (h1 i a ha).2⟩
      obtain ⟨j, hj, rfl⟩ := List.mem_iff_getElem.1 hx
      have := (h1 j l[j] (List.getElem?_eq_getElem hj)).1
      simpa [inP] using this
    · rintro ⟨h1, h2⟩ j a ha
      rw [Nat.zero_add]
      have h3 := h1 a (List.mem_of_getElem? ha)
      have : inP a 1 1099511627776 = true := by simpa [inP] using h3
      simp [pileE, this, h2 j a ha]
  unfold pileP
  cases h : firstO (pileE l) 0 l with
  | none =>
    obtain ⟨h1, h2⟩ := h0.1 h
    simp only [decide_eq_true_eq]
    exact ⟨fun h3 => ⟨h1, h2, h3⟩, fun h3 => h3.2.2⟩
  | some x =>
    constructor
    · intro h2; cases h2
    · rintro ⟨h1, h2, h3⟩
      rw [h0.2 ⟨h1, h2⟩] at h; cases h
theorem Concat_ok {a b : List Int} (ha : a.length ≤ 1000000) (hb : b.length ≤ 1000000) : f_s_Concat_int_int [a, b] = some (a ++ b) := by
  have hk : ∀ n : Nat, n ≤ 4000000 → ∀ (f : Int → Option (List Int)), ck (n : Int) f = f n := fun n h f => ck_ok (by omega) (by omega) f
  have second : loopT (fun (v9 : (Val (.pair tI (.slice tI)))) kk12 => m_s_Concat_int_int_L1 [a, b] (ilen [a, b]) v9.1 v9.2 (fun u10 u11 => kk12 (u10, u11)) (fun z8 => some z8)) ((0 : Int), ([] : List Int)) = some (a ++ b) := by
    refine loop_acc [a, b] (fun i => ([a, b].take i).flatten) (some (a ++ b)) (f := fun (v9 : (Val (.pair tI (.slice tI)))) kk12 => m_s_Concat_int_int_L1 [a, b] (ilen [a, b]) v9.1 v9.2 (fun u10 u11 => kk12 (u10, u11)) (fun z8 => some z8)) rfl (fun i x hi hx kn => ?_) (fun kn => ?_)
    · try dsimp only
      unfold m_s_Concat_int_int_L1
      rw [ifb_lt' hi, iget_nat hx, ck_succ hi (by simp), take_succ hx, List.flatten_append]
      have : okLen ((List.take i [a, b]).flatten.length + x.length) = true := by
        refine okLen_of ?_
        have h1 : x.length ≤ 1000000 := by
          have := List.mem_of_getElem? hx
          simp at this
          rcases this with rfl | rfl <;> assumption
        have h2 : (List.take i [a, b]).flatten.length ≤ 2000000 := by
          have : i = 0 ∨ i = 1 := by simp at hi; omega
          rcases this with rfl | rfl <;> simp <;> omega
        omega
      rw [iff_of this]
      simp
    · try dsimp only
      unfold m_s_Concat_int_int_L1
      rw [ifb_ge]
      simp
  unfold f_s_Concat_int_int m_s_Concat_int_int
  refine loop_inv (fun x : Int × Int => ∃ i : Nat, i ≤ 2 ∧ x = ((([a, b].take i).flatten.length : Int), (i : Int))) (fun x => 2 - x.2.toNat) ?_ ⟨0, by omega, rfl⟩
  rintro x ⟨i, hi, rfl⟩
  rcases Nat.lt_or_ge i 2 with h2 | h2
  · refine .inr ⟨((([a, b].take (i + 1)).flatten.length : Int), (i : Int) + 1), ⟨i + 1, h2, by simp⟩, by simp; omega, fun kn => ?_⟩
    have hi' : i < [a, b].length := h2
    obtain ⟨x, hx⟩ : ∃ x, [a, b][i]? = some x := ⟨_, List.getElem?_eq_getElem hi'⟩
    have hxl : x.length ≤ 1000000 := by
      have := List.mem_of_getElem? hx
      simp at this
      rcases this with rfl | rfl <;> assumption
    have h3 : (List.take i [a, b]).flatten.length ≤ 2000000 := by
      have : i = 0 ∨ i = 1 := by omega
      rcases this with rfl | rfl <;> simp <;> omega
    try dsimp only
    unfold m_s_Concat_int_int_L0
    rw [ifb_lt' hi', iget_nat hx, ilen_eq]
    have e1 : (((List.take i [a, b]).flatten.length : Int) + (x.length : Int)) = ((List.take i [a, b]).flatten.length + x.length : Nat) := by omega
    rw [e1, hk _ (by omega)]
    have : ilt ((((List.take i [a, b]).flatten.length + x.length : Nat)) : Int) 0 = false := by simp [ilt]; omega
    rw [ifb_f this, ck_succ hi' (by simp), take_succ hx]
    simp
  · refine .inl fun kn => ?_
    obtain rfl : i = 2 := by omega
    try dsimp only
    unfold m_s_Concat_int_int_L0
    rw [show ((2 : Nat) : Int) = (([a, b].length : Nat) : Int) from rfl, ifb_ge]
    have e1 : ((List.take 2 [a, b]).flatten.length : Int) = ((a.length + b.length : Nat) : Int) := by simp
    have e2 : ilt (((a.length + b.length : Nat)) : Int) 0 = false := by simp [ilt]; omega
    rw [e1]
    dsimp only
    rw [ifb_f e2, Int.sub_zero, hk _ (by omega)]
    rcases Nat.eq_zero_or_pos (a.length + b.length) with h0 | h0
    · have : igt (((a.length + b.length : Nat)) : Int) 0 = false := by simp [igt]; omega
      rw [ifb_f this]
      exact second
    · have : igt (((a.length + b.length : Nat)) : Int) 0 = true := by simp [igt]; omega
      rw [ifb_t this]
      have : ((ilt (0 : Int) (((a.length + b.length : Nat)) : Int)) && (okLen (Int.toNat (((a.length + b.length : Nat)) : Int)))) = true := by
        rw [Int.toNat_natCast, okLen_of (by omega)]
        simp [ilt]; omega
      rw [iff_of this]
      have : ile 0 (olen (List.replicate (Int.toNat (((a.length + b.length : Nat)) : Int)) (0 : Int))) = true := by simp [ile]
      rw [iff_of this]
      exact second
def awayP (b : Book) (id day : Int) : Option Loan := b.2.2.2.1.find? fun l => l.1 == id && inP day l.2.1.1 l.2.1.2
theorem find_idx {α : Type} (p : α → Bool) : ∀ l : List α, l.find? p = (match l.findIdx? p with | some j => l[j]? | none => none)
  | [] => rfl
  | a :: l => by
    rw [List.find?_cons, List.findIdx?_cons]
    cases h : p a with
    | true => simp
    | false =>
      simp only [Bool.false_eq_true, if_false]
      rw [find_idx p l]
      cases l.findIdx? p <;> simp
theorem away_ok {b : Book} (hn : b.2.2.2.1.length ≤ 1000) (id day : Int) : f_c_away b id day = some (match awayP b id day with | some l => (l, true) | none => ((0, (0, 0), 0), false)) := by
  unfold f_c_away m_c_away
  refine Eq.trans (loop_find b.2.2.2.1 (fun l => l.1 == id && inP day l.2.1.1 l.2.1.2) (fun z5 => ifb (ilt z5 (0 : Int)) (some (((0 : Int), ((0 : Int), (0 : Int)), (0 : Int)), false)) (iget b.2.2.2.1 z5 fun e6 => some (e6, true))) (some ((0, (0, 0), 0), false)) (fun i a hi ha kn => ?_) (fun kn => ?_)) ?_
  · try dsimp only
    unfold m_c_away_L0
    rw [ifb_lt' hi, iget_nat ha, within_ok, bindF_some, ck_succ hi (by omega)]
    cases h1 : (a.1 == id) with
    | false =>
      have : ieq a.1 id = false := h1
      simp [this]
    | true =>
      have : ieq a.1 id = true := h1
      rw [this]
      cases inP day a.2.1.1 a.2.1.2 <;> simp
  · try dsimp only
    unfold m_c_away_L0
    rw [ifb_ge]
  · unfold awayP
    rw [find_idx]
    cases h : b.2.2.2.1.findIdx? (fun l => l.1 == id && inP day l.2.1.1 l.2.1.2) with
    | none => rfl
    | some j =>
      obtain ⟨hj, _, _⟩ := List.findIdx?_eq_some_iff_getElem.1 h
      have : ilt (j : Int) 0 = false := by simp [ilt]
      try dsimp only
      rw [ifb_f this, iget_nat (List.getElem?_eq_getElem hj), List.getElem?_eq_getElem hj]
end Go.Proofs.ZzM
end

noncomputable section
namespace Go.Proofs.ZzM
open Go Go.Am
def pilesE (b : Book) (s : List (Int × Gauge)) (c : Cmp) : Int :=
  if (c.2.2.1 ++ c.2.2.2.1).any (fun id => madeE s id c.2.1 == 5) then 5 else
  if (c.2.2.1 ++ c.2.2.2.1).any (fun id => madeE s id c.2.1 == 4) then 4 else
  if (c.2.2.1 ++ c.2.2.2.1).any (fun id => (awayP b id c.2.1).isSome) then 9 else
  if 1 < (leftP c.2.2.1 c.2.2.2.1).length then 1 else if 1 < (leftP c.2.2.2.1 c.2.2.1).length then 1 else
  if (leftP c.2.2.1 c.2.2.2.1).length + (leftP c.2.2.2.1 c.2.2.1).length = 0 then 1 else 0
def numsP (c : Cmp) : Bool :=
  inP c.1 1 1099511627776 && (dayP c.2.1 && (inP c.2.2.2.2.1 (-1125899906842624) 1125899906842624 && (inP c.2.2.2.2.2.1 0 1073741824 && (spanP c.2.2.2.2.2.2 (-10000) 10000 && (pileP c.2.2.1 && pileP c.2.2.2.1)))))
def compareE (b : Book) (s : List (Int × Gauge)) (i : Nat) (c : Cmp) : Int :=
  if !numsP c then 1 else if (b.2.2.2.2.1.take i).any (fun x => x.1 == c.1) then 6 else pilesE b s c
theorem leftP_len (a b : List Int) : (leftP a b).length ≤ a.length := List.length_filter_le _ _
set_option maxHeartbeats 1000000 in
theorem checkCompare_ok {b : Book} (hn : b.2.2.2.2.1.length ≤ 1000) (hl : b.2.2.2.1.length ≤ 1000) (s : List (Int × Gauge)) {i : Nat} {c : Cmp} (hA : c.2.2.1.length ≤ 1000) (hB : c.2.2.2.1.length ≤ 1000)
    (hc : b.2.2.2.2.1[i]? = some c) : f_c_checkCompare b s i = some (compareE b s i c) := by
  have hi : i < b.2.2.2.2.1.length := (List.getElem?_eq_some_iff.1 hc).1
  unfold f_c_checkCompare m_c_checkCompare compareE numsP
  rw [iget_nat hc, within_ok, bindF_some]
  cases inP c.1 1 1099511627776 with
  | false => rfl
  | true =>
  rw [isDay_ok, bindF_some]
  cases dayP c.2.1 with
  | false => rfl
  | true =>
  rw [within_ok, bindF_some]
  cases inP c.2.2.2.2.1 (-1125899906842624) 1125899906842624 with
  | false => rfl
  | true =>
  rw [within_ok, bindF_some]
  cases inP c.2.2.2.2.2.1 0 1073741824 with
  | false => rfl
  | true =>
  rw [inside_ok, bindF_some]
  cases spanP c.2.2.2.2.2.2 (-10000) 10000 with
  | false => rfl
  | true =>
  rw [isPile_ok (by omega), bindF_some]
  cases pileP c.2.2.1 with
  | false => rfl
  | true =>
  rw [isPile_ok (by omega), bindF_some]
  cases pileP c.2.2.2.1 with
  | false => rfl
  | true =>
  have hg : ((ile (0 : Int) (i : Int)) && (ile (i : Int) (olen b.2.2.2.2.1))) = true := by simp [ile, olen]; omega
  simp only [Bool.not_true, ifb_false, Bool.and_self, Bool.false_eq_true, if_false]
  rw [iff_of hg, Int.toNat_natCast]
  -- what comes behind the IDs
  have rest : (bindF (f_s_Concat_int_int ([c.2.2.1, c.2.2.2.1])) fun r12 => loopT (fun (v36 : Int) kk38 => m_c_checkCompare_L1 s r12 (ilen ([(5 : Int), (4 : Int)])) c.2.1 ([(5 : Int), (4 : Int)]) v36 (fun u37 => kk38 u37) (fun z23 => some z23) (fun _ => loopT (fun (v33 : Int) kk35 => m_c_checkCompare_L3 r12 (ilen r12) b.1.1 b.1.2 b.2.1 b.2.2.1 b.2.2.2.1 b.2.2.2.2.1 b.2.2.2.2.2 c.2.1 v33 (fun u34 => kk35 u34) (fun z28 => some z28) (fun _ => bindF (f_c_left c.2.2.1 c.2.2.2.1) fun r30 => bindF (f_c_left c.2.2.2.1 c.2.2.1) fun r31 => ifb (igt (ilen r30) (1 : Int)) (some (1 : Int)) (ifb (igt (ilen r31) (1 : Int)) (some (1 : Int)) (ck ((ilen r30) + (ilen r31)) fun n32 => ifb (ieq n32 (0 : Int)) (some (1 : Int)) (some (0 : Int)))))) (0 : Int))) (0 : Int)) = some (pilesE b s c) := by
    rw [Concat_ok (by omega) (by omega), bindF_some]
    have hall : (c.2.2.1 ++ c.2.2.2.1).length ≤ 2000 := by simp; omega
    have last : (bindF (f_c_left c.2.2.1 c.2.2.2.1) fun r30 => bindF (f_c_left c.2.2.2.1 c.2.2.1) fun r31 => ifb (igt (ilen r30) (1 : Int)) (some (1 : Int)) (ifb (igt (ilen r31) (1 : Int)) (some (1 : Int)) (ck ((ilen r30) + (ilen r31)) fun n32 => ifb (ieq n32 (0 : Int)) (some (1 : Int)) (some (0 : Int))))) =
        some (if 1 < (leftP c.2.2.1 c.2.2.2.1).length then 1 else if 1 < (leftP c.2.2.2.1 c.2.2.1).length then 1 else if (leftP c.2.2.1 c.2.2.2.1).length + (leftP c.2.2.2.1 c.2.2.1).length = 0 then 1 else 0) := by
      rw [left_ok (by omega) (by omega), bindF_some, left_ok (by omega) (by omega), bindF_some]
      have l1 := leftP_len c.2.2.1 c.2.2.2.1
      have l2 := leftP_len c.2.2.2.1 c.2.2.1
      rw [ilen_eq, ilen_eq, ck_ok (by omega) (by omega)]
      by_cases c1 : 1 < (leftP c.2.2.1 c.2.2.2.1).length
      · rw [ifb_t (by simp [igt]; omega), if_pos c1]
      rw [ifb_f (by simp [igt]; omega), if_neg c1]
      by_cases c2 : 1 < (leftP c.2.2.2.1 c.2.2.1).length
      · rw [ifb_t (by simp [igt]; omega), if_pos c2]
      rw [ifb_f (by simp [igt]; omega), if_neg c2]
      by_cases c3 : (leftP c.2.2.1 c.2.2.2.1).length + (leftP c.2.2.2.1 c.2.2.1).length = 0
      · rw [ifb_t (by simp [ieq]; omega), if_pos c3]
      rw [ifb_f (by simp [ieq]; omega), if_neg c3]
    refine Eq.trans (loop_first [(5 : Int), 4] (fun _ want => if (c.2.2.1 ++ c.2.2.2.1).any (fun id => madeE s id c.2.1 == want) then some want else none) some (some (if (c.2.2.1 ++ c.2.2.2.1).any (fun id => (awayP b id c.2.1).isSome) then 9 else if 1 < (leftP c.2.2.1 c.2.2.2.1).length then 1 else if 1 < (leftP c.2.2.2.1 c.2.2.1).length then 1 else if (leftP c.2.2.1 c.2.2.2.1).length + (leftP c.2.2.2.1 c.2.2.1).length = 0 then 1 else 0)) (fun j want hj hw kn => ?_) (fun kn => ?_)) ?_
    · try dsimp only
      unfold m_c_checkCompare_L1
      rw [ifb_lt' hj, iff_idx hj, nget_toNat hw]
      refine Eq.trans (loop_any (c.2.2.1 ++ c.2.2.2.1) (fun id => madeE s id c.2.1 == want) (fun _ => some want) (some want) (kn ((j : Int) + 1)) (fun _ => rfl) (fun k a hk ha kn' => ?_) (fun kn' => ?_)) ?_
      · try dsimp only
        unfold m_c_checkCompare_L2
        rw [ifb_lt' hk, iget_nat ha, made_ok, bindF_some, ck_succ hk (by omega), ifb_eq]
      · try dsimp only
        unfold m_c_checkCompare_L2
        rw [ifb_ge, ck_succ hj (by simp)]
      · cases List.any (c.2.2.1 ++ c.2.2.2.1) (fun id => madeE s id c.2.1 == want) <;> rfl
    · try dsimp only
      unfold m_c_checkCompare_L1
      rw [ifb_ge]
      refine Eq.trans (loop_any (c.2.2.1 ++ c.2.2.2.1) (fun id => (awayP b id c.2.1).isSome) (fun _ => some 9) (some 9) (some (if 1 < (leftP c.2.2.1 c.2.2.2.1).length then 1 else if 1 < (leftP c.2.2.2.1 c.2.2.1).length then 1 else if (leftP c.2.2.1 c.2.2.2.1).length + (leftP c.2.2.2.1 c.2.2.1).length = 0 then 1 else 0)) (fun _ => rfl) (fun k a hk ha kn' => ?_) (fun kn' => ?_)) ?_
      · try dsimp only
        unfold m_c_checkCompare_L3
        have haw := away_ok hl a c.2.1
        rw [ifb_lt' hk, iget_nat ha, ck_succ hk (by omega)]
        rw [show f_c_away ((b.1.1, b.1.2), b.2.1, b.2.2.1, b.2.2.2.1, b.2.2.2.2.1, b.2.2.2.2.2) a c.2.1 = f_c_away b a c.2.1 from rfl, haw, bindF_some]
        cases awayP b a c.2.1 <;> rfl
      · try dsimp only
        unfold m_c_checkCompare_L3
        rw [ifb_ge, last]
      · cases List.any (c.2.2.1 ++ c.2.2.2.1) (fun id => (awayP b id c.2.1).isSome) <;> rfl
    · unfold pilesE firstO firstO firstO
      try dsimp only
      cases List.any (c.2.2.1 ++ c.2.2.2.1) (fun id => madeE s id c.2.1 == 5) with
      | true => rfl
      | false =>
      cases List.any (c.2.2.1 ++ c.2.2.2.1) (fun id => madeE s id c.2.1 == 4) <;> rfl
  refine Eq.trans (loop_any (b.2.2.2.2.1.take i) (fun x => x.1 == c.1) (fun z11 => ifb (ige z11 (0 : Int)) (some 6) (some (pilesE b s c))) (some 6) (some (pilesE b s c)) (fun j => ?_) (fun j a hj ha kn => ?_) (fun kn => ?_)) ?_
  · have : ige (j : Int) 0 = true := by simp [ige]
    rw [ifb_t this]
  · try dsimp only
    unfold m_c_checkCompare_L0
    rw [rest, ifb_lt' hj, iget_nat ha, ck_succ hj (by rw [List.length_take]; omega), ifb_eq]
  · try dsimp only
    unfold m_c_checkCompare_L0
    rw [ifb_ge, rest]
  · cases List.any (b.2.2.2.2.1.take i) (fun x => x.1 == c.1) <;> rfl
def daysR (b : Book) (g : Gauge) : List Int :=
  [g.2.1] ++ (b.2.2.2.2.1.filter fun c => !(c.2.2.1.contains g.1 == c.2.2.2.1.contains g.1)).map (fun c => c.2.1) ++ (b.2.2.2.2.2.filter fun n => n.1 == g.1).map (fun n => n.2)
def daysP (b : Book) (g : Gauge) : List Int := setI (daysR b g)
structure SizeOk (b : Book) : Prop where
  gauges : b.2.1.length ≤ 1000
  uses : b.2.2.1.length ≤ 1000
  loans : b.2.2.2.1.length ≤ 1000
  compares : b.2.2.2.2.1.length ≤ 1000
  looks : b.2.2.2.2.2.length ≤ 1000
  piles : ∀ c ∈ b.2.2.2.2.1, c.2.2.1.length ≤ 1000 ∧ c.2.2.2.1.length ≤ 1000
theorem sortI_len (l : List Int) : (sortI l).length = l.length := List.length_mergeSort l
theorem daysR_len {b : Book} (hs : SizeOk b) (g : Gauge) : (daysR b g).length ≤ 2001 := by
  have h1 := hs.compares
  have h2 := hs.looks
  have h3 := List.length_filter_le (fun c : Cmp => !(c.2.2.1.contains g.1 == c.2.2.2.1.contains g.1)) b.2.2.2.2.1
  have h4 := List.length_filter_le (fun n : Int × Int => n.1 == g.1) b.2.2.2.2.2
  simp only [daysR, List.length_append, List.length_map, List.length_singleton]
  omega
theorem days_ok {b : Book} (hs : SizeOk b) (g : Gauge) : f_c_days b g = some (daysP b g) := by
  unfold f_c_days m_c_days
  have hr := daysR_len hs g
  have hd : (daysP b g).length ≤ 2001 := by
    unfold daysP
    have := setI_len (daysR b g)
    omega
  have hcl := hs.compares
  have hll := hs.looks
  refine loop_acc b.2.2.2.2.1 (fun i => [g.2.1] ++ ((b.2.2.2.2.1.take i).filter fun c => !(c.2.2.1.contains g.1 == c.2.2.2.1.contains g.1)).map (fun c => c.2.1)) _ rfl (fun i c hi hc kn => ?_) (fun kn => ?_)
  · try dsimp only
    unfold m_c_days_L0
    obtain ⟨p1, p2⟩ := hs.piles c (List.mem_of_getElem? hc)
    rw [ifb_lt' hi, iget_nat hc, ContainsI_ok (by omega), bindF_some, ContainsI_ok (by omega), bindF_some, ck_succ hi (by omega), ck_succ hi (by omega), take_succ hc, List.filter_append, List.map_append]
    have hlen : ([g.2.1] ++ ((b.2.2.2.2.1.take i).filter fun c => !(c.2.2.1.contains g.1 == c.2.2.2.1.contains g.1)).map (fun c => c.2.1)).length ≤ 1001 := by
      have h3 := List.length_filter_le (fun c : Cmp => !(c.2.2.1.contains g.1 == c.2.2.2.1.contains g.1)) (b.2.2.2.2.1.take i)
      rw [List.length_take] at h3
      simp only [List.length_append, List.length_map, List.length_singleton]
      omega
    rw [okLen_of (by simp only [List.length_singleton]; omega), Am.iff_true]
    cases h : (c.2.2.1.contains g.1 == c.2.2.2.1.contains g.1) with
    | true => simp only [Bool.not_true, ifb_false, List.filter_cons, h, Bool.false_eq_true, if_false, List.filter_nil, List.map_nil, List.append_nil]
    | false => simp only [Bool.not_false, ifb_true, List.filter_cons, h, if_true, List.filter_nil, List.map_cons, List.map_nil, List.append_assoc]
  · try dsimp only
    unfold m_c_days_L0
    rw [ifb_ge, List.take_length]
    refine loop_acc b.2.2.2.2.2 (fun i => [g.2.1] ++ (b.2.2.2.2.1.filter fun c => !(c.2.2.1.contains g.1 == c.2.2.2.1.contains g.1)).map (fun c => c.2.1) ++ ((b.2.2.2.2.2.take i).filter fun n => n.1 == g.1).map (fun n => n.2)) _ (by simp) (fun i n hi hn kn => ?_) (fun kn => ?_)
    · try dsimp only
      unfold m_c_days_L1
      rw [ifb_lt' hi, iget_nat hn, ck_succ hi (by omega), ck_succ hi (by omega), take_succ hn, List.filter_append, List.map_append]
      have hlen : ([g.2.1] ++ (b.2.2.2.2.1.filter fun c => !(c.2.2.1.contains g.1 == c.2.2.2.1.contains g.1)).map (fun c => c.2.1) ++ ((b.2.2.2.2.2.take i).filter fun n => n.1 == g.1).map (fun n => n.2)).length ≤ 2001 := by
        have h3 := List.length_filter_le (fun c : Cmp => !(c.2.2.1.contains g.1 == c.2.2.2.1.contains g.1)) b.2.2.2.2.1
        have h4 := List.length_filter_le (fun n : Int × Int => n.1 == g.1) (b.2.2.2.2.2.take i)
        rw [List.length_take] at h4
        simp only [List.length_append, List.length_map, List.length_singleton]
        omega
      rw [okLen_of (by simp only [List.length_singleton]; omega), Am.iff_true]
      cases h : (n.1 == g.1) with
      | true =>
        have : ieq n.1 g.1 = true := h
        simp [h, this]
      | false =>
        have : ieq n.1 g.1 = false := h
        simp [h, this]
    · try dsimp only
      unfold m_c_days_L1
      rw [ifb_ge, List.take_length]
      rw [show ([g.2.1] ++ (b.2.2.2.2.1.filter fun c => !(c.2.2.1.contains g.1 == c.2.2.2.1.contains g.1)).map (fun c => c.2.1) ++ (b.2.2.2.2.2.filter fun n => n.1 == g.1).map (fun n => n.2)) = daysR b g from rfl]
      dsimp only
      rw [okLen_of (by omega), Am.iff_true, okLen_of (by rw [sortI_len]; omega), Am.iff_true, setI_eq]
      rfl
def nodesP (b : Book) : List (Int × Int) := b.2.1.flatMap fun g => (daysP b g).map fun d => ((g.1, d) : Int × Int)
theorem daysP_len {b : Book} (hs : SizeOk b) (g : Gauge) : (daysP b g).length ≤ 2001 := by
  unfold daysP
  have := setI_len (daysR b g)
  have := daysR_len hs g
  omega
theorem flatMap_len {α β : Type} (f : α → List β) (n : Nat) (h : ∀ a, (f a).length ≤ n) : ∀ l : List α, (l.flatMap f).length ≤ l.length * n
  | [] => by simp
  | a :: l => by
    have := flatMap_len f n h l
    have := h a
    simp only [List.flatMap_cons, List.length_append, List.length_cons, Nat.add_mul, Nat.one_mul]
    omega
theorem nodes_ok {b : Book} (hs : SizeOk b) : f_c_nodes b = some (nodesP b) := by
  unfold f_c_nodes m_c_nodes
  have hg := hs.gauges
  have hlen : ∀ l : List Gauge, (l.flatMap fun g => (daysP b g).map fun d => ((g.1, d) : Int × Int)).length ≤ l.length * 2001 := fun l =>
    flatMap_len _ 2001 (fun g => by rw [List.length_map]; exact daysP_len hs g) l
  refine loop_acc b.2.1 (fun i => (b.2.1.take i).flatMap fun g => (daysP b g).map fun d => ((g.1, d) : Int × Int)) _ rfl (fun i g hi hg' kn => ?_) (fun kn => ?_)
  · try dsimp only
    unfold m_c_nodes_L0
    rw [ifb_lt' hi, iget_nat hg']
    rw [show f_c_days ((b.1.1, b.1.2), b.2.1, b.2.2.1, b.2.2.2.1, b.2.2.2.2.1, b.2.2.2.2.2) g = f_c_days b g from rfl, days_ok hs, bindF_some]
    have hd := daysP_len hs g
    have hi2 := hlen (b.2.1.take i)
    have htl : (b.2.1.take i).length ≤ 1000 := by rw [List.length_take]; omega
    refine loop_acc (daysP b g) (fun j => ((b.2.1.take i).flatMap fun g => (daysP b g).map fun d => ((g.1, d) : Int × Int)) ++ ((daysP b g).take j).map fun d => ((g.1, d) : Int × Int)) _ (by simp) (fun j d hj hd' kn' => ?_) (fun kn' => ?_)
    · try dsimp only
      unfold m_c_nodes_L1
      rw [ifb_lt' hj, iget_nat hd', ck_succ hj (by omega), take_succ hd', List.map_append]
      rw [okLen_of (by simp only [List.length_append, List.length_map, List.length_take, List.length_singleton]; omega), Am.iff_true]
      simp
    · try dsimp only
      unfold m_c_nodes_L1
      rw [ifb_ge, List.take_length]
      dsimp only
      rw [ck_succ hi (by omega), take_succ hg', List.flatMap_append]
      simp
  · try dsimp only
    unfold m_c_nodes_L0
    rw [ifb_ge, List.take_length]
    rfl
def partsP (b : Book) (s : List (Int × Gauge)) : List Int :=
  b.2.2.1.map (fun u => useE s u.1 u.2) ++ (b.2.2.2.1.mapIdx (fun i l => loanE b s i l) ++ (b.2.2.2.2.1.mapIdx (fun i c => compareE b s i c) ++ b.2.2.2.2.2.map (fun u => useE s u.1 u.2)))
theorem mapO_upto {α : Type} {f : Int → Option Int} {g : Nat → α → Int} (l : List α) (h : ∀ (i : Nat) (a : α), l[i]? = some a → f i = some (g i a)) : mapO f (uptoI l.length) = some (l.mapIdx g) := by
  have h1 : ∀ i, i < l.length → f (i : Int) = some ((l.mapIdx g)[i]?.getD 0) := by
    intro i hi
    rw [h i l[i] (List.getElem?_eq_getElem hi)]
    simp [hi]
  have h2 : ∀ x ∈ uptoI l.length, f x = some ((l.mapIdx g)[x.toNat]?.getD 0) := by
    intro x hx
    unfold uptoI at hx
    obtain ⟨i, hi, rfl⟩ := List.mem_map.1 hx
    rw [h1 i (by simpa using hi)]
    rfl
  rw [mapO_some h2]
  congr 1
  refine List.ext_getElem (by simp [uptoI]) fun i h3 h4 => ?_
  have h5 : i < l.length := by simpa using h4
  simp [uptoI, h5]
theorem parts_ok {b : Book} (hs : SizeOk b) (s : List (Int × Gauge)) : l_c_parts b s = some (partsP b s) := by
  unfold l_c_parts partsP
  rw [mapO_some (fun u _ => parts1_ok s u.1 u.2), bindF_some, mapO_upto b.2.2.2.1 (fun i l hl => checkLoan_ok hs.loans hs.uses s hl), bindF_some,
    mapO_upto b.2.2.2.2.1 (fun i c hc => checkCompare_ok hs.compares hs.loans s (hs.piles c (List.mem_of_getElem? hc)).1 (hs.piles c (List.mem_of_getElem? hc)).2 hc), bindF_some, mapO_some (fun u _ => parts1_ok s u.1 u.2), bindF_some]
def checkP (b : Book) : Int :=
  if !spanP b.1 0 1000000 then 1 else
  if 12 < b.2.1.length then 2 else if 40 < b.2.2.1.length then 2 else if 12 < b.2.2.2.1.length then 2 else if 40 < b.2.2.2.2.1.length then 2 else if 10 < b.2.2.2.2.2.length then 2 else
  if gaugesE b != 0 then gaugesE b else
  match (partsP b (shelf b)).find? (fun e => e != 0) with
  | some e => e
  | none => if 59 < (nodesP b).length then 2 else if 300 < 2 * b.2.1.length + 2 * ((nodesP b).length - b.2.1.length : Int) + 2 * b.2.2.2.2.1.length then 2 else 0
theorem nodesP_len {b : Book} (hs : SizeOk b) : (nodesP b).length ≤ 2001000 := by
  have := flatMap_len (fun g : Gauge => (daysP b g).map fun d => ((g.1, d) : Int × Int)) 2001 (fun g => by rw [List.length_map]; exact daysP_len hs g) b.2.1
  have h2 := hs.gauges
  unfold nodesP
  omega
theorem Check_ok {b : Book} (hs : SizeOk b) (hr : ∀ g ∈ b.2.1, I64 g.2.2.2.2.1.1) : f_c_Check b = some (checkP b) := by
  unfold f_c_Check m_c_Check checkP
  rw [inside_ok, bindF_some]
  cases spanP b.1 0 1000000 with
  | false => rfl
  | true =>
  have h1 := hs.gauges
  have h2 := hs.compares
  have h3 := nodesP_len hs
  rw [ifb_f (show (!true) = false from rfl), if_neg (by simp)]
  simp only [ilen_eq]
  by_cases c0 : 12 < b.2.1.length
  · rw [ifb_t (by simp [igt]; omega), if_pos c0]
  rw [ifb_f (by simp [igt]; omega), if_neg c0]
  by_cases c1 : 40 < b.2.2.1.length
  · rw [ifb_t (by simp [igt]; omega), if_pos c1]
  rw [ifb_f (by simp [igt]; omega), if_neg c1]
  by_cases c2 : 12 < b.2.2.2.1.length
  · rw [ifb_t (by simp [igt]; omega), if_pos c2]
  rw [ifb_f (by simp [igt]; omega), if_neg c2]
  by_cases c3 : 40 < b.2.2.2.2.1.length
  · rw [ifb_t (by simp [igt]; omega), if_pos c3]
  rw [ifb_f (by simp [igt]; omega), if_neg c3]
  by_cases c4 : 10 < b.2.2.2.2.2.length
  · rw [ifb_t (by simp [igt]; omega), if_pos c4]
  rw [ifb_f (by simp [igt]; omega), if_neg c4]
  rw [checkGauges_ok hr h1, bindF_some]
  cases hm : (gaugesE b != 0) with
  | true =>
    have : ine (gaugesE b) 0 = true := hm
    rw [ifb_t this, if_pos rfl]
  | false =>
  have : ine (gaugesE b) 0 = false := hm
  rw [ifb_f this, if_neg (by simp)]
  rw [shelved_ok h1, bindF_some]
  unfold rangeK
  rw [parts_ok hs, bindF_some]
  cases (partsP b (shelf b)).find? (fun e => e != 0) with
  | some e => rfl
  | none =>
  dsimp only
  rw [nodes_ok hs, bindF_some]
  by_cases c5 : 59 < (nodesP b).length
  · rw [ifb_t (by simp [igt]; omega), if_pos c5]
  rw [ifb_f (by simp [igt]; omega), if_neg c5]
  rw [ck_ok (by omega) (by omega), ck_ok (by omega) (by omega), ck_ok (by omega) (by omega), ck_ok (by omega) (by omega), ck_ok (by omega) (by omega), ck_ok (by omega) (by omega)]
  by_cases c6 : 300 < 2 * b.2.1.length + 2 * ((nodesP b).length - b.2.1.length : Int) + 2 * b.2.2.2.2.1.length
  · rw [ifb_t (by simp [igt]; omega), if_pos c6]
  rw [ifb_f (by simp [igt]; omega), if_neg c6]
end Go.Proofs.ZzM
end

noncomputable section
namespace Go.Proofs.ZzM
open Go Go.Am
theorem wrapU {n : Nat} (h : n < 18446744073709551616) : IntKind.wrap .u64 (n : Int) = n := by
  simp only [IntKind.wrap, IntKind.bits, IntKind.signed]
  simp
  omega
theorem wrapI {n : Nat} (h : n < 9223372036854775808) : IntKind.wrap .i64 (n : Int) = n := by
  simp only [IntKind.wrap, IntKind.bits, IntKind.signed]
  simp
  omega
def nodeIdx (l : List (Int × Int)) (x d : Int) : Option Nat := l.findIdx? fun n => decide (x = n.1) && decide (d = n.2)
theorem IndexN_ok {l : List (Int × Int)} (hn : l.length ≤ 100000000) (x d : Int) : f_s_Index_api_Node_api_Node l (x, d) = some (match nodeIdx l x d with | some j => (j : Int) | none => -1) := by
  unfold f_s_Index_api_Node_api_Node m_s_Index_api_Node_api_Node
  refine Eq.trans (loop_find l (fun n => decide (x = n.1) && decide (d = n.2)) some (some (-1)) (fun i a hi ha kn => ?_) (fun kn => ?_)) ?_
  · try dsimp only
    unfold m_s_Index_api_Node_api_Node_L0
    rw [ifb_lt' hi, iget_nat ha, ck_succ hi (by omega), ifb_eq, Bool.and_true]
  · try dsimp only
    unfold m_s_Index_api_Node_api_Node_L0
    rw [ifb_ge]
  · unfold nodeIdx
    cases List.findIdx? (fun n => decide (x = n.1) && decide (d = n.2)) l <;> rfl
def atP (l : List (Int × Int)) (p : List Int) (d : Int) : Int :=
  match p with
  | [] => 0
  | x :: _ => match nodeIdx l x d with | some j => (j : Int) + 1 | none => 0
theorem nodeIdx_lt {l : List (Int × Int)} {x d : Int} {j : Nat} (h : nodeIdx l x d = some j) : j < l.length ∧ l[j]? = some (x, d) := by
  unfold nodeIdx at h
  obtain ⟨hj, hp, _⟩ := List.findIdx?_eq_some_iff_getElem.1 h
  refine ⟨hj, ?_⟩
  rw [List.getElem?_eq_getElem hj]
  simp only [Bool.and_eq_true, decide_eq_true_eq] at hp
  congr 1
  exact Prod.ext hp.1.symm hp.2.symm
theorem at_ok (m : Maker) (p : List Int) (d : Int) (hn : m.2.1.length ≤ 100000000) : f_c_maker_at m p d = some (atP m.2.1 p d) := by
  unfold f_c_maker_at m_c_maker_at atP
  cases p with
  | nil => simp [ilen_eq, ieq]
  | cons x p =>
    have h : ieq (ilen (x :: p)) 0 = false := by
      rw [ilen_eq]
      simp only [ieq, List.length_cons, beq_eq_false_iff_ne, ne_eq]
      omega
    rw [h, ifb_false, show (0 : Int) = ((0 : Nat) : Int) from rfl, iget_nat (a := x) rfl, IndexN_ok hn, bindF_some]
    cases hx : nodeIdx m.2.1 x d with
    | none => dsimp only; rw [ck_ok (by omega) (by omega)]; simp only [hx]; rfl
    | some j =>
      have := (nodeIdx_lt hx).1
      dsimp only
      rw [ck_ok (by omega) (by omega)]
      simp only [hx]
def rateP (s : List (Int × Gauge)) (p : List Int) : Int × Int :=
  match p with
  | [] => (0, 1)
  | x :: _ => match mget (k := tI) (v := tyGauge) x s with
    | some g => g.2.2.2.2.1
    | none => (0, 0)
theorem rateOf_ok (s : List (Int × Gauge)) (p : List Int) : f_c_shelf_rateOf s p = some (rateP s p) := by
  unfold f_c_shelf_rateOf m_c_shelf_rateOf rateP
  cases p with
  | nil => simp [ilen_eq, ieq]
  | cons x p =>
    have h : ieq (ilen (x :: p)) 0 = false := by
      rw [ilen_eq]
      simp only [ieq, List.length_cons, beq_eq_false_iff_ne, ne_eq]
      omega
    rw [h, ifb_false, show (0 : Int) = ((0 : Nat) : Int) from rfl, iget_nat (a := x) rfl]
    cases hx : mget (k := tI) (v := tyGauge) x s with
    | none => simp only [lget, hx]
    | some g => simp only [lget, hx]
theorem valid_ok {l : List (Int × Int)} (hr : ∀ r ∈ l, I64 r.1) (hn : l.length ≤ 1000) : f_e_valid l = some (if l.any (fun r => !ratP r) then 1 else 0) := by
  unfold f_e_valid m_e_valid
  refine Eq.trans (loop_any l (fun r => !ratP r) (fun _ => some 1) (some 1) (some 0) (fun _ => rfl) (fun i a hi ha kn => ?_) (fun kn => ?_)) ?_
  · try dsimp only
    unfold m_e_valid_L0
    rw [ifb_lt' hi, iget_nat ha, Valid_ok (hr a (List.mem_of_getElem? ha)), bindF_some, ck_succ hi (by omega), ifb_eq]
  · try dsimp only
    unfold m_e_valid_L0
    rw [ifb_ge]
  · cases l.any (fun r => !ratP r) <;> rfl
def redP (n d : Int) : Int × Int := (n / (Nat.gcd n.natAbs d.natAbs : Nat), d / (Nat.gcd n.natAbs d.natAbs : Nat))
theorem ratP_iff (r : Int × Int) : ratP r = true ↔ 1 ≤ r.2 ∧ r.2 ≤ 2147483647 ∧ (r.1.natAbs : Int) ≤ 2147483647 ∧ Nat.gcd r.1.natAbs r.2.natAbs = 1 := by
  simp [ratP]
theorem red_spec {n d : Int} (hd : 0 < d) : ∃ g : Nat, 0 < g ∧ g = Nat.gcd n.natAbs d.natAbs ∧ n = (redP n d).1 * g ∧ d = (redP n d).2 * g := by
  have hg : 0 < Nat.gcd n.natAbs d.natAbs := Nat.gcd_pos_of_pos_right _ (by omega)
  refine ⟨_, hg, rfl, ?_, ?_⟩
  · exact (Int.ediv_mul_cancel (Int.ofNat_dvd_left.2 (Nat.gcd_dvd_left _ _))).symm
  · exact (Int.ediv_mul_cancel (Int.ofNat_dvd_left.2 (Nat.gcd_dvd_right _ _))).symm
theorem red_rat {n d : Int} (hd : 0 < d) (hn : n.natAbs ≤ 2147483647) (hd2 : d ≤ 2147483647) : ratP (redP n d) = true := by
  obtain ⟨g, h0, hg, h1, h2⟩ := red_spec (n := n) hd
  rw [ratP_iff]
  have a1 : n.natAbs = (redP n d).1.natAbs * g := by conv => lhs; rw [h1]; rw [Int.natAbs_mul, Int.natAbs_natCast]
  have a2 : d.natAbs = (redP n d).2.natAbs * g := by conv => lhs; rw [h2]; rw [Int.natAbs_mul, Int.natAbs_natCast]
  have p2 : 0 < (redP n d).2 := by
    rcases Int.lt_trichotomy (redP n d).2 0 with h | h | h
    · have := Int.mul_neg_of_neg_of_pos h (show (0 : Int) < g by omega); omega
    · rw [h] at h2; simp at h2; omega
    · exact h
  have b1 : (redP n d).1.natAbs ≤ n.natAbs := by rw [a1]; exact Nat.le_mul_of_pos_right _ h0
  have b2 : (redP n d).2.natAbs ≤ d.natAbs := by rw [a2]; exact Nat.le_mul_of_pos_right _ h0
  refine ⟨by omega, by omega, by omega, ?_⟩
  have := Nat.gcd_mul_right (redP n d).1.natAbs g (redP n d).2.natAbs
  rw [← a1, ← a2, ← hg] at this
  have h3 : (Nat.gcd (redP n d).1.natAbs (redP n d).2.natAbs) * g = 1 * g := by omega
  exact Nat.eq_of_mul_eq_mul_right h0 h3
theorem reduced_ok {n d : Int} (hd : 0 < d) (hn : n.natAbs ≤ 2147483647) (hd2 : d ≤ 2147483647) : f_e_reduced n d = some (redP n d, 0) := by
  obtain ⟨g, h0, hg, h1, h2⟩ := red_spec (n := n) hd
  have hr := (ratP_iff _).1 (red_rat hd hn hd2)
  unfold f_e_reduced m_e_reduced
  rw [size_ok ⟨by omega, by omega⟩, bindF_some, size_ok ⟨by omega, by omega⟩, bindF_some, gcd_ok, bindF_some, ← hg]
  have a1 : n.natAbs = (redP n d).1.natAbs * g := by conv => lhs; rw [h1]; rw [Int.natAbs_mul, Int.natAbs_natCast]
  have a2 : d.natAbs = (redP n d).2.natAbs * g := by conv => lhs; rw [h2]; rw [Int.natAbs_mul, Int.natAbs_natCast]
  have q1 : Int.tdiv (n.natAbs : Int) (g : Int) = ((redP n d).1.natAbs : Int) := by
    rw [a1, Int.natCast_mul]; exact Int.mul_tdiv_cancel _ (by omega)
  have q2 : Int.tdiv (d.natAbs : Int) (g : Int) = ((redP n d).2.natAbs : Int) := by
    rw [a2, Int.natCast_mul]; exact Int.mul_tdiv_cancel _ (by omega)
  have z : dieq (g : Int) 0 = false := by simp [dieq]; omega
  have g1 : igt ((redP n d).1.natAbs : Int) 2147483647 = false := by simp [igt]; omega
  have g2 : igt ((redP n d).2.natAbs : Int) 2147483647 = false := by simp [igt]; omega
  rw [ifb_f z, ifb_f z, q1, q2, wrapU (by omega), wrapU (by omega), wrapI (by omega), wrapI (by omega), ifb_f g1, ifb_f g2]
  have hd0 : ilt d 0 = false := by simp [ilt]; omega
  rw [hd0]
  have e2 : ((redP n d).2.natAbs : Int) = (redP n d).2 := by omega
  rw [e2]
  by_cases hneg : n < 0
  · have hn0 : ilt n 0 = true := by simp [ilt, hneg]
    have : (redP n d).1 ≤ 0 := by
      rcases Int.lt_or_le 0 (redP n d).1 with h | h
      · have := Int.mul_pos h (show (0 : Int) < g by omega); omega
      · exact h
    rw [hn0]
    rw [show (!true == false) = true from rfl, ifb_true, ck_ok (by omega) (by omega)]
    have : 0 - ((redP n d).1.natAbs : Int) = (redP n d).1 := by omega
    rw [this]
  · have hn0 : ilt n 0 = false := by simp [ilt]; omega
    have : 0 ≤ (redP n d).1 := by
      rcases Int.lt_or_le (redP n d).1 0 with h | h
      · have := Int.mul_neg_of_neg_of_pos h (show (0 : Int) < g by omega); omega
      · exact h
    rw [hn0]
    rw [show (!false == false) = false from rfl, ifb_false]
    have : ((redP n d).1.natAbs : Int) = (redP n d).1 := by omega
    rw [this]
structure Rat' (r : Int × Int) (n d : Int) : Prop where
  rat : ratP r = true
  num : -n ≤ r.1 ∧ r.1 ≤ n
  den : r.2 ≤ d
theorem Rat'.pos {r : Int × Int} {n d : Int} (h : Rat' r n d) : 1 ≤ r.2 := ((ratP_iff r).1 h.rat).1
theorem Rat'.i64 {r : Int × Int} {n d : Int} (h : Rat' r n d) : I64 r.1 := by
  have := ((ratP_iff r).1 h.rat).2.2.1
  exact ⟨by omega, by omega⟩
theorem valid2 {x y : Int × Int} (hx : ratP x = true) (hy : ratP y = true) : f_e_valid [x, y] = some 0 := by
  rw [valid_ok]
  · simp [hx, hy]
  · intro r hr
    have : ratP r = true := by simp at hr; rcases hr with rfl | rfl <;> assumption
    have := ((ratP_iff r).1 this).2.2.1
    exact ⟨by omega, by omega⟩
  · simp
theorem mulBound {a b m n : Int} (h1 : -m ≤ a ∧ a ≤ m) (h2 : -n ≤ b ∧ b ≤ n) : -(m * n) ≤ a * b ∧ a * b ≤ m * n := by
  have hm : 0 ≤ m := by omega
  have hn : 0 ≤ n := by omega
  have h3 : (a * b).natAbs ≤ (m * n).natAbs := by
    rw [Int.natAbs_mul, Int.natAbs_mul]
    exact Nat.mul_le_mul (by omega) (by omega)
  have h4 : 0 ≤ m * n := Int.mul_nonneg hm hn
  omega
def subP (x y : Int × Int) : Int × Int := redP (x.1 * y.2 - y.1 * x.2) (x.2 * y.2)
theorem sub_bounds {x y : Int × Int} (hx : Rat' x 1000 100) (hy : Rat' y 1000 100) : (x.1 * y.2 - y.1 * x.2).natAbs ≤ 200000 ∧ 0 < x.2 * y.2 ∧ x.2 * y.2 ≤ 10000 := by
  have h1 := mulBound hx.num (show -100 ≤ y.2 ∧ y.2 ≤ 100 from ⟨by have := hy.pos; omega, hy.den⟩)
  have h2 := mulBound hy.num (show -100 ≤ x.2 ∧ x.2 ≤ 100 from ⟨by have := hx.pos; omega, hx.den⟩)
  have h3 := mulBound (show -100 ≤ x.2 ∧ x.2 ≤ 100 from ⟨by have := hx.pos; omega, hx.den⟩) (show -100 ≤ y.2 ∧ y.2 ≤ 100 from ⟨by have := hy.pos; omega, hy.den⟩)
  have h4 := Int.mul_pos (show 0 < x.2 by have := hx.pos; omega) (show 0 < y.2 by have := hy.pos; omega)
  refine ⟨by omega, h4, by omega⟩
theorem Sub_ok {x y : Int × Int} (hx : Rat' x 1000 100) (hy : Rat' y 1000 100) : f_e_Sub x y = some (subP x y, 0) := by
  obtain ⟨b1, b2, b3⟩ := sub_bounds hx hy
  have h1 := mulBound hx.num (show -100 ≤ y.2 ∧ y.2 ≤ 100 from ⟨by have := hy.pos; omega, hy.den⟩)
  have h2 := mulBound hy.num (show -100 ≤ x.2 ∧ x.2 ≤ 100 from ⟨by have := hx.pos; omega, hx.den⟩)
  unfold f_e_Sub m_e_Sub
  rw [valid2 hx.rat hy.rat, bindF_some]
  rw [show ine (0 : Int) 0 = false from rfl, ifb_false, ck_ok (by omega) (by omega), ck_ok (by omega) (by omega), ck_ok (by omega) (by omega), ck_ok (by omega) (by omega), reduced_ok b2 (by omega) (by omega), bindF_some]
  rfl
theorem red_num {n d : Int} (hd : 0 < d) : (redP n d).1.natAbs ≤ n.natAbs ∧ (redP n d).2 ≤ d := by
  obtain ⟨g, h0, hg, h1, h2⟩ := red_spec (n := n) hd
  have a1 : n.natAbs = (redP n d).1.natAbs * g := by conv => lhs; rw [h1]; rw [Int.natAbs_mul, Int.natAbs_natCast]
  have a2 : d.natAbs = (redP n d).2.natAbs * g := by conv => lhs; rw [h2]; rw [Int.natAbs_mul, Int.natAbs_natCast]
  have b1 : (redP n d).1.natAbs ≤ n.natAbs := by rw [a1]; exact Nat.le_mul_of_pos_right _ h0
  have b2 : (redP n d).2.natAbs ≤ d.natAbs := by rw [a2]; exact Nat.le_mul_of_pos_right _ h0
  exact ⟨b1, by omega⟩
theorem sub_rat {x y : Int × Int} (hx : Rat' x 1000 100) (hy : Rat' y 1000 100) : Rat' (subP x y) 200000 10000 := by
  obtain ⟨b1, b2, b3⟩ := sub_bounds hx hy
  obtain ⟨c1, c2⟩ := red_num (n := x.1 * y.2 - y.1 * x.2) b2
  exact ⟨red_rat b2 (by omega) (by omega), by unfold subP; omega, by unfold subP; omega⟩
def mulP (k : Int × Int) (n : Int) : Int × Int := redP (k.1 * n) k.2
theorem mul_bounds {k : Int × Int} (hk : Rat' k 200000 10000) {n : Int} (hn : -10000 ≤ n ∧ n ≤ 10000) : (k.1 * n).natAbs ≤ 2000000000 := by
  have := mulBound hk.num hn
  omega
theorem int_rat {n : Int} (hn : -10000 ≤ n ∧ n ≤ 10000) : ratP (n, 1) = true := by
  rw [ratP_iff]
  exact ⟨by simp, by simp, by simp; omega, by simp⟩
theorem Mul_ok {k : Int × Int} (hk : Rat' k 200000 10000) {n : Int} (hn : -10000 ≤ n ∧ n ≤ 10000) : f_e_Mul k (n, 1) = some (mulP k n, 0) := by
  have b := mul_bounds hk hn
  have p := hk.pos
  have q := hk.den
  unfold f_e_Mul m_e_Mul
  rw [valid2 hk.rat (int_rat hn), bindF_some]
  rw [show ine (0 : Int) 0 = false from rfl, ifb_false, ck_ok (by simp only; omega) (by simp only; omega), Int.mul_one, ck_ok (by omega) (by omega), reduced_ok (by omega) (by simp only; omega) (by omega), bindF_some]
  rfl
theorem mul_rat {k : Int × Int} (hk : Rat' k 200000 10000) {n : Int} (hn : -10000 ≤ n ∧ n ≤ 10000) : Rat' (mulP k n) 2000000000 10000 := by
  have b := mul_bounds hk hn
  have p := hk.pos
  have q := hk.den
  obtain ⟨c1, c2⟩ := red_num (n := k.1 * n) (show 0 < k.2 by omega)
  exact ⟨red_rat (by omega) (by omega) (by omega), by unfold mulP; omega, by unfold mulP; omega⟩
def cmpP (x y : Int × Int) : Int := if x = y then 0 else if x.1 * y.2 < y.1 * x.2 then -1 else if y.1 * x.2 < x.1 * y.2 then 1 else 0
theorem cmp_ok {x y : Int × Int} {m d : Int} (hx : Rat' x m d) (hy : Rat' y m d) (hm : m ≤ 2000000000) (hd : d ≤ 10000) : f_e_cmp x y = some (cmpP x y) := by
  have h1 := mulBound hx.num (show -d ≤ y.2 ∧ y.2 ≤ d from ⟨by have := hy.pos; have := hy.den; omega, hy.den⟩)
  have h2 := mulBound hy.num (show -d ≤ x.2 ∧ x.2 ≤ d from ⟨by have := hx.pos; have := hx.den; omega, hx.den⟩)
  have h0 : 0 ≤ m ∧ 0 ≤ d := ⟨by have := hx.num; omega, by have := hx.pos; have := hx.den; omega⟩
  have h3 : m * d ≤ 2000000000 * 10000 := Int.mul_le_mul hm hd h0.2 (by omega)
  unfold f_e_cmp m_e_cmp cmpP
  rw [ck_ok (by omega) (by omega), ck_ok (by omega) (by omega)]
  simp only [ifb_eq, Bool.and_true, Bool.and_eq_true, decide_eq_true_eq, dieq, ilt, igt, gt_iff_lt]
  have : (x.1 = y.1 ∧ x.2 = y.2) ↔ x = y := ⟨fun h => Prod.ext h.1 h.2, fun h => by rw [h]; exact ⟨rfl, rfl⟩⟩
  simp only [this]
  (repeat' split) <;> rfl
def overP (k : Int × Int) (heat : Int × Int) : (Int × Int) × (Int × Int) :=
  if 0 < cmpP (mulP k heat.1) (mulP k heat.2) then (mulP k heat.2, mulP k heat.1) else (mulP k heat.1, mulP k heat.2)
theorem over_ok {k heat : Int × Int} (hk : Rat' k 200000 10000) (hh : spanP heat (-10000) 10000 = true) : f_c_rate_over k heat = some (overP k heat) := by
  simp only [spanP, Bool.and_eq_true, decide_eq_true_eq] at hh
  obtain ⟨h1, h2, h3⟩ := hh
  have n1 : -10000 ≤ heat.1 ∧ heat.1 ≤ 10000 := ⟨by omega, by omega⟩
  have n2 : -10000 ≤ heat.2 ∧ heat.2 ≤ 10000 := ⟨by omega, by omega⟩
  have r1 : Rat' (heat.1, 1) 10000 10000 := ⟨int_rat n1, n1, by simp⟩
  have r2 : Rat' (heat.2, 1) 10000 10000 := ⟨int_rat n2, n2, by simp⟩
  unfold f_c_rate_over m_c_rate_over f_e_Scale m_e_Scale f_e_ValidRange m_e_ValidRange
  rw [valid2 r1.rat r2.rat, bindF_some]
  have : ieq 0 0 = true := rfl
  rw [ifb_t this, cmp_ok r1 r2 (by omega) (by omega), bindF_some]
  have hc : ile (cmpP (heat.1, 1) (heat.2, 1)) 0 = true := by
    unfold cmpP
    simp only [ile, decide_eq_true_eq, Int.mul_one]
    split
    · omega
    · split
      · omega
      · rw [if_neg (by omega)]; omega
  rw [hc, bindF_some]
  simp only [Bool.not_true, ifb_false]
  rw [Valid_ok hk.i64, hk.rat, bindF_some]
  simp only [Bool.not_true, ifb_false]
  rw [Mul_ok hk n1, bindF_some, Mul_ok hk n2, bindF_some]
  simp only [show ine (0 : Int) 0 = false from rfl, ifb_false]
  rw [cmp_ok (mul_rat hk n1) (mul_rat hk n2) (by omega) (by omega), bindF_some]
  unfold overP
  rw [ifb_eq]
  by_cases h : 0 < cmpP (mulP k heat.1) (mulP k heat.2)
  · rw [if_pos h, if_pos (by simpa [igt] using h)]; rfl
  · rw [if_neg h, if_neg (by simpa [igt] using h)]; rfl
def rateK (s : List (Int × Gauge)) (c : Cmp) : Int × Int := subP (rateP s (leftP c.2.2.1 c.2.2.2.1)) (rateP s (leftP c.2.2.2.1 c.2.2.1))
def growthP (b : Book) (c : Cmp) : (Int × Int) × (Int × Int) := overP (rateK (shelf b) c) c.2.2.2.2.2.2
theorem growth_ok {b : Book} (hs : SizeOk b) {c : Cmp} (hA : c.2.2.1.length ≤ 1000) (hB : c.2.2.2.1.length ≤ 1000)
    (h1 : Rat' (rateP (shelf b) (leftP c.2.2.1 c.2.2.2.1)) 1000 100) (h2 : Rat' (rateP (shelf b) (leftP c.2.2.2.1 c.2.2.1)) 1000 100) (hh : spanP c.2.2.2.2.2.2 (-10000) 10000 = true) : f_c_growth b c = some (growthP b c) := by
  unfold f_c_growth m_c_growth
  rw [shelved_ok hs.gauges, bindF_some, left_ok (by omega) (by omega), bindF_some, rateOf_ok, bindF_some, left_ok (by omega) (by omega), bindF_some, rateOf_ok, bindF_some]
  unfold f_c_rate_less m_c_rate_less
  rw [Sub_ok h1 h2, bindF_some, bindF_some]
  try dsimp only
  rw [over_ok (sub_rat h1 h2) hh, bindF_some]
  rfl
def filmsP (b : Book) (c : Cmp) : Int × Int :=
  (((c.2.2.1.length - 1 : Nat) : Int) * b.1.1 - ((c.2.2.2.1.length - 1 : Nat) : Int) * b.1.2, ((c.2.2.1.length - 1 : Nat) : Int) * b.1.2 - ((c.2.2.2.1.length - 1 : Nat) : Int) * b.1.1)
theorem films_ok {b : Book} {c : Cmp} (hA : c.2.2.1.length ≤ 1000) (hB : c.2.2.2.1.length ≤ 1000) (h1 : 0 ≤ b.1.1) (h2 : b.1.1 ≤ 1000000) (h3 : 0 ≤ b.1.2) (h4 : b.1.2 ≤ 1000000) : f_c_films b c = some (filmsP b c) := by
  unfold f_c_films m_c_films filmsP
  have e : ∀ n : Nat, imax 0 ((n : Int) - 1) = ((n - 1 : Nat) : Int) := by
    intro n
    unfold imax
    split <;> omega
  have bd : ∀ (n : Nat) (x : Int), n ≤ 1000 → 0 ≤ x → x ≤ 1000000 → 0 ≤ ((n - 1 : Nat) : Int) * x ∧ ((n - 1 : Nat) : Int) * x ≤ 1000000000 := by
    intro n x hn h0 hx
    refine ⟨Int.mul_nonneg (by omega) h0, ?_⟩
    have := Int.mul_le_mul (show ((n - 1 : Nat) : Int) ≤ 1000 by omega) hx h0 (by omega)
    omega
  have b1 := bd _ _ hA h1 h2
  have b2 := bd _ _ hA h3 h4
  have b3 := bd _ _ hB h1 h2
  have b4 := bd _ _ hB h3 h4
  simp only [ilen_eq]
  rw [ck_ok (by omega) (by omega), ck_ok (by omega) (by omega)]
  simp only [e]
  rw [ck_ok (by omega) (by omega), ck_ok (by omega) (by omega), ck_ok (by omega) (by omega), ck_ok (by omega) (by omega), ck_ok (by omega) (by omega), ck_ok (by omega) (by omega)]
theorem floor_ok {n d : Int} (hd : 1 ≤ d) (hn : -4000000000 ≤ n ∧ n ≤ 4000000000) : f_e_floor n d = some (n / d) := by
  unfold f_e_floor m_e_floor
  have z : dieq d 0 = false := by simp [dieq]; omega
  rw [ifb_f z]
  have t := Int.mul_tdiv_add_tmod n d
  have b1 : -4000000000 ≤ Int.tdiv n d ∧ Int.tdiv n d ≤ 4000000000 := by
    have := Int.natAbs_tdiv_le_natAbs n d
    omega
  rw [ck_ok (by omega) (by omega), ifb_f z, ifb_eq]
  by_cases h : Int.tmod n d < 0
  · rw [if_pos (by simpa [ilt] using h), ck_ok (by omega) (by omega)]
    congr 1
    have h5 : -d < Int.tmod n d := by
      have h6 := Int.natAbs_tmod n d
      have h7 := Nat.mod_lt n.natAbs (show 0 < d.natAbs by omega)
      omega
    refine (Int.ediv_eq_iff_of_pos (by omega)).2 ⟨?_, ?_⟩ |>.symm
    · rw [Int.sub_mul, Int.mul_comm]; omega
    · rw [Int.sub_mul, Int.mul_comm (Int.tdiv n d)]; omega
  · rw [if_neg (by simpa [ilt] using h)]
    congr 1
    have h5 : Int.tmod n d < d := by
      have h6 := Int.natAbs_tmod n d
      have h7 := Nat.mod_lt n.natAbs (show 0 < d.natAbs by omega)
      omega
    refine (Int.ediv_eq_iff_of_pos (by omega)).2 ⟨?_, ?_⟩ |>.symm
    · rw [Int.mul_comm]; omega
    · rw [Int.mul_comm (Int.tdiv n d)]; omega
theorem valid1 {x : Int × Int} (hx : ratP x = true) : f_e_valid [x] = some 0 := by
  rw [valid_ok]
  · simp [hx]
  · intro r hr
    have : ratP r = true := by simp at hr; subst hr; assumption
    have := ((ratP_iff r).1 this).2.2.1
    exact ⟨by omega, by omega⟩
  · simp
def ceilP (r : Int × Int) : Int := -(-r.1 / r.2)
theorem Floor_ok {r : Int × Int} (h : ratP r = true) : f_e_Floor r = some (r.1 / r.2, 0) := by
  unfold f_e_Floor m_e_Floor
  have := (ratP_iff r).1 h
  rw [valid1 h, bindF_some]
  rw [show ine (0 : Int) 0 = false from rfl, ifb_false, floor_ok (by omega) (by omega), bindF_some]
theorem ediv_bound {n d : Int} (hd : 1 ≤ d) : (n / d).natAbs ≤ n.natAbs := by
  exact Int.natAbs_ediv_le_natAbs n d
theorem Ceil_ok {r : Int × Int} (h : ratP r = true) : f_e_Ceil r = some (ceilP r, 0) := by
  unfold f_e_Ceil m_e_Ceil ceilP
  have := (ratP_iff r).1 h
  rw [valid1 h, bindF_some]
  rw [show ine (0 : Int) 0 = false from rfl, ifb_false, ck_ok (by omega) (by omega), floor_ok (by omega) (by omega), bindF_some]
  have hb := ediv_bound (n := 0 - r.1) (show 1 ≤ r.2 by omega)
  rw [ck_ok (by omega) (by omega), Int.zero_sub, Int.zero_sub]
def saysP (b : Book) (c : Cmp) : Int × Int :=
  (c.2.2.2.2.1 - c.2.2.2.2.2.1 - (filmsP b c).2 - (growthP b c).2.1 / (growthP b c).2.2, c.2.2.2.2.1 + c.2.2.2.2.2.1 - (filmsP b c).1 - ceilP (growthP b c).1)
end Go.Proofs.ZzM
end

noncomputable section
namespace Go.Proofs.ZzM
open Go Go.Am
structure Good (b : Book) : Prop where
  film : 0 ≤ b.1.1 ∧ b.1.1 ≤ b.1.2 ∧ b.1.2 ≤ 1000000
  nG : b.2.1.length ≤ 12
  nU : b.2.2.1.length ≤ 40
  nL : b.2.2.2.1.length ≤ 12
  nC : b.2.2.2.2.1.length ≤ 40
  nK : b.2.2.2.2.2.length ≤ 10
  gauge : ∀ g ∈ b.2.1, gaugeP g = true
  ids : b.2.1.Pairwise fun a b => a.1 < b.1
  uses : ∀ u ∈ b.2.2.1, useE (shelf b) u.1 u.2 = 0
  loans : ∀ i l, b.2.2.2.1[i]? = some l → loanE b (shelf b) i l = 0
  compares : ∀ i c, b.2.2.2.2.1[i]? = some c → compareE b (shelf b) i c = 0
  looks : ∀ u ∈ b.2.2.2.2.2, useE (shelf b) u.1 u.2 = 0
  nodes : (nodesP b).length ≤ 59
  links : 2 * (nodesP b).length + 2 * b.2.2.2.2.1.length ≤ 300
theorem gaugesE_iff (b : Book) : gaugesE b = 0 ↔ (∀ g ∈ b.2.1, gaugeP g = true) ∧ b.2.1.Pairwise fun a b => a.1 < b.1 := by
  have h0 : firstO (gaugeE b.2.1) 0 b.2.1 = none ↔ (∀ g ∈ b.2.1, gaugeP g = true) ∧ b.2.1.Pairwise fun a b => a.1 < b.1 := by
    rw [firstO_none, ← back_iff (fun g : Gauge => g.1) b.2.1]
    constructor
    · intro h
      have h1 : ∀ (j : Nat) (a : Gauge), b.2.1[j]? = some a → gaugeP a = true ∧ backE (fun g : Gauge => g.1) b.2.1 j a = false := by
        intro j a ha
        have := h j a ha
        rw [Nat.zero_add] at this
        unfold gaugeE at this
        split at this
        · cases this
        · split at this
          · cases this
          · rename_i h1 h2
            exact ⟨by simpa using h1, by simpa using h2⟩
      refine ⟨fun x hx => ?_, fun i a ha => (h1 i a ha).2⟩
      obtain ⟨j, hj, rfl⟩ := List.mem_iff_getElem.1 hx
      exact (h1 j _ (List.getElem?_eq_getElem hj)).1
    · rintro ⟨h1, h2⟩ j a ha
      rw [Nat.zero_add]
      simp [gaugeE, h1 a (List.mem_of_getElem? ha), h2 j a ha]
  rw [← h0]
  unfold gaugesE
  cases h : firstO (gaugeE b.2.1) 0 b.2.1 with
  | none => simp
  | some e =>
    have : ∀ (m : List Gauge) (j : Nat) (x : Int), firstO (gaugeE b.2.1) j m = some x → x ≠ 0 := by
      intro m
      induction m with
      | nil => intro j x h; cases h
      | cons a m ih =>
        intro j x h
        unfold firstO at h
        cases hp : gaugeE b.2.1 j a with
        | none => rw [hp] at h; exact ih _ _ h
        | some y =>
          rw [hp] at h
          cases h
          unfold gaugeE at hp
          split at hp
          · cases hp; omega
          · split at hp
            · cases hp; omega
            · cases hp
    simp [this _ _ _ h]
theorem checkP_iff (b : Book) : checkP b = 0 ↔ Good b := by
  unfold checkP
  constructor
  · intro h
    split at h
    · omega
    rename_i h1
    (repeat' split at h) <;> try omega
    · rename_i hg
      have hg' : gaugesE b ≠ 0 := by simpa using hg
      exact (hg' h).elim
    · rename_i hf
      have := List.find?_some hf
      rename_i e
      simp at this
      exact (this h).elim
    · rename_i hn1 hn2 hn3 hn4 hn5 hg e hf hn6 hn7
      have hg0 : gaugesE b = 0 := by simpa using hg
      obtain ⟨g1, g2⟩ := (gaugesE_iff b).1 hg0
      have hall : ∀ x ∈ partsP b (shelf b), x = 0 := fun x hx => by
        have := List.find?_eq_none.1 hf x hx
        simpa using this
      simp only [partsP, List.mem_append] at hall
      have hs : spanP b.1 0 1000000 = true := by simpa using h1
      simp only [spanP, Bool.and_eq_true, decide_eq_true_eq] at hs
      refine ⟨⟨hs.1, hs.2.1, hs.2.2⟩, by omega, by omega, by omega, by omega, by omega, g1, g2, fun u hu => hall _ (.inl (List.mem_map.2 ⟨u, hu, rfl⟩)), fun i l hl => ?_, fun i c hc => ?_, fun u hu => hall _ (.inr (.inr (.inr (List.mem_map.2 ⟨u, hu, rfl⟩)))), by omega, by omega⟩
      · obtain ⟨hi, rfl⟩ := List.getElem?_eq_some_iff.1 hl
        exact hall _ (.inr (.inl (List.mem_mapIdx.2 ⟨i, hi, rfl⟩)))
      · obtain ⟨hi, rfl⟩ := List.getElem?_eq_some_iff.1 hc
        exact hall _ (.inr (.inr (.inl (List.mem_mapIdx.2 ⟨i, hi, rfl⟩))))
  · intro h
    have hs : spanP b.1 0 1000000 = true := by simp [spanP, h.film.1, h.film.2.1, h.film.2.2]
    have hg : gaugesE b = 0 := (gaugesE_iff b).2 ⟨h.gauge, h.ids⟩
    have hall : (partsP b (shelf b)).find? (fun e => e != 0) = none := by
      rw [List.find?_eq_none]
      intro x hx
      simp only [partsP, List.mem_append, List.mem_map, List.mem_mapIdx] at hx
      have : x = 0 := by
        rcases hx with ⟨u, hu, rfl⟩ | ⟨i, hi, rfl⟩ | ⟨i, hi, rfl⟩ | ⟨u, hu, rfl⟩
        · exact h.uses u hu
        · exact h.loans i _ (List.getElem?_eq_getElem hi)
        · exact h.compares i _ (List.getElem?_eq_getElem hi)
        · exact h.looks u hu
      simp [this]
    have := h.nG; have := h.nU; have := h.nL; have := h.nC; have := h.nK; have := h.nodes; have := h.links
    rw [hs, hg, hall]
    simp only [Bool.not_true, Bool.false_eq_true, if_false, bne_self_eq_false]
    rw [if_neg (by omega), if_neg (by omega), if_neg (by omega), if_neg (by omega), if_neg (by omega), if_neg (by omega), if_neg (by omega)]
section
variable {b : Book}
theorem pileP_len {l : List Int} (h : pileP l = true) : l.length ≤ 6 := ((pileP_iff l).1 h).2.2
theorem Good.nums (h : Good b) {c : Cmp} (hc : c ∈ b.2.2.2.2.1) : numsP c = true := by
  obtain ⟨i, hi, rfl⟩ := List.mem_iff_getElem.1 hc
  have := h.compares i _ (List.getElem?_eq_getElem hi)
  unfold compareE at this
  split at this
  · omega
  · rename_i h; simpa using h
theorem Good.pilesOf (h : Good b) {c : Cmp} (hc : c ∈ b.2.2.2.2.1) : pilesE b (shelf b) c = 0 := by
  obtain ⟨i, hi, rfl⟩ := List.mem_iff_getElem.1 hc
  have := h.compares i _ (List.getElem?_eq_getElem hi)
  unfold compareE at this
  split at this
  · omega
  · split at this
    · omega
    · exact this
theorem numsP_iff (c : Cmp) : numsP c = true ↔ (1 ≤ c.1 ∧ c.1 ≤ 1099511627776) ∧ (0 ≤ c.2.1 ∧ c.2.1 ≤ 20000) ∧ (-1125899906842624 ≤ c.2.2.2.2.1 ∧ c.2.2.2.2.1 ≤ 1125899906842624) ∧ (0 ≤ c.2.2.2.2.2.1 ∧ c.2.2.2.2.2.1 ≤ 1073741824) ∧ spanP c.2.2.2.2.2.2 (-10000) 10000 = true ∧ pileP c.2.2.1 = true ∧ pileP c.2.2.2.1 = true := by
  simp [numsP, inP, dayP, and_assoc]
theorem Good.size (h : Good b) : SizeOk b := by
  have h1 := h.nG; have h2 := h.nU; have h3 := h.nL; have h4 := h.nC; have h5 := h.nK
  refine ⟨by omega, by omega, by omega, by omega, by omega, fun c hc => ?_⟩
  have := (numsP_iff c).1 (h.nums hc)
  have a := pileP_len this.2.2.2.2.2.1
  have b := pileP_len this.2.2.2.2.2.2
  omega
theorem gaugeP_iff (g : Gauge) : gaugeP g = true ↔ ratP g.2.2.2.2.1 = true ∧ (-1000 ≤ g.2.2.2.2.1.1 ∧ g.2.2.2.2.1.1 ≤ 1000) ∧ g.2.2.2.2.1.2 ≤ 100 ∧ (1 ≤ g.1 ∧ g.1 ≤ 1099511627776) ∧ (0 ≤ g.2.1 ∧ g.2.1 ≤ 20000) ∧ (1 ≤ g.2.2.1 ∧ g.2.2.1 ≤ 1125899906842624) ∧ (-1073741824 ≤ g.2.2.2.1.1 ∧ g.2.2.2.1.1 ≤ g.2.2.2.1.2 ∧ g.2.2.2.1.2 ≤ 1073741824) ∧ (0 ≤ g.2.2.2.2.2 ∧ g.2.2.2.2.2 ≤ 1048576) := by
  simp [gaugeP, inP, dayP, spanP, and_assoc]
theorem gaugeOf_some {id : Int} {g : Gauge} (h : gaugeOf b id = some g) : g ∈ b.2.1 ∧ g.1 = id := by
  unfold gaugeOf at h
  exact ⟨List.mem_of_find?_eq_some h, by simpa using List.find?_some h⟩
theorem gaugeOf_mem (hi : b.2.1.Pairwise fun a b => a.1 < b.1) {g : Gauge} (hg : g ∈ b.2.1) : gaugeOf b g.1 = some g := by
  unfold gaugeOf
  induction hl : b.2.1 generalizing b with
  | nil => rw [hl] at hg; cases hg
  | cons a t ih =>
    rw [hl] at hg hi
    rw [List.pairwise_cons] at hi
    rw [List.find?_cons]
    rcases List.mem_cons.1 hg with rfl | hg
    · simp
    · have h1 := hi.1 g hg
      have : (a.1 == g.1) = false := by simp; omega
      rw [this]
      have := ih (b := (b.1, t, b.2.2)) hi.2 hg rfl
      exact this
theorem madeE_zero (h : Good b) {id day : Int} (hm : madeE (shelf b) id day = 0) : ∃ g, gaugeOf b id = some g ∧ g.2.1 ≤ day := by
  unfold madeE at hm
  rw [mget_shelf h.ids] at hm
  split at hm
  · rename_i g hg
    split at hm
    · omega
    · exact ⟨g, hg, by omega⟩
  · omega
theorem madeE_cases (s : List (Int × Gauge)) (id day : Int) : madeE s id day = 0 ∨ madeE s id day = 4 ∨ madeE s id day = 5 := by
  unfold madeE
  split
  · split <;> simp
  · simp
theorem Good.pile (h : Good b) {c : Cmp} (hc : c ∈ b.2.2.2.2.1) {x : Int} (hx : x ∈ c.2.2.1 ++ c.2.2.2.1) : (∃ g, gaugeOf b x = some g ∧ g.2.1 ≤ c.2.1) ∧ awayP b x c.2.1 = none := by
  have hp := h.pilesOf hc
  unfold pilesE at hp
  split at hp
  · omega
  rename_i h5
  split at hp
  · omega
  rename_i h4
  split at hp
  · omega
  rename_i h9
  have a5 := (List.any_eq_false.1 (Bool.eq_false_iff.2 h5)) x hx
  have a4 := (List.any_eq_false.1 (Bool.eq_false_iff.2 h4)) x hx
  have a9 := (List.any_eq_false.1 (Bool.eq_false_iff.2 h9)) x hx
  simp at a5 a4 a9
  refine ⟨madeE_zero h ?_, a9⟩
  rcases madeE_cases (shelf b) x c.2.1 with h0 | h0 | h0
  · exact h0
  · exact (a4 h0).elim
  · exact (a5 h0).elim
theorem Good.lefts (h : Good b) {c : Cmp} (hc : c ∈ b.2.2.2.2.1) : (leftP c.2.2.1 c.2.2.2.1).length ≤ 1 ∧ (leftP c.2.2.2.1 c.2.2.1).length ≤ 1 ∧ (leftP c.2.2.1 c.2.2.2.1).length + (leftP c.2.2.2.1 c.2.2.1).length ≠ 0 := by
  have hp := h.pilesOf hc
  unfold pilesE at hp
  (repeat' split at hp) <;> first | omega | exact ⟨by omega, by omega, by omega⟩
theorem leftP_mem {a c : List Int} {x : Int} : x ∈ leftP a c ↔ x ∈ a ∧ x ∉ c := by
  simp [leftP]
theorem Good.rate (h : Good b) {p : List Int} (hp : ∀ x ∈ p, ∃ g, gaugeOf b x = some g) : Rat' (rateP (shelf b) p) 1000 100 := by
  unfold rateP
  cases p with
  | nil =>
    have : Rat' (0, 1) 1000 100 := ⟨by decide, by decide, by decide⟩
    exact this
  | cons x t =>
    obtain ⟨g, hg⟩ := hp x (by simp)
    try dsimp only
    rw [mget_shelf h.ids, hg]
    have := (gaugeP_iff g).1 (h.gauge g (gaugeOf_some hg).1)
    exact ⟨this.1, this.2.1, this.2.2.1⟩
theorem Good.rates (h : Good b) {c : Cmp} (hc : c ∈ b.2.2.2.2.1) : Rat' (rateP (shelf b) (leftP c.2.2.1 c.2.2.2.1)) 1000 100 ∧ Rat' (rateP (shelf b) (leftP c.2.2.2.1 c.2.2.1)) 1000 100 := by
  constructor
  · exact h.rate fun x hx => by
      obtain ⟨⟨g, hg, _⟩, _⟩ := h.pile hc (List.mem_append_left _ (leftP_mem.1 hx).1)
      exact ⟨g, hg⟩
  · exact h.rate fun x hx => by
      obtain ⟨⟨g, hg, _⟩, _⟩ := h.pile hc (List.mem_append_right _ (leftP_mem.1 hx).1)
      exact ⟨g, hg⟩
theorem Good.growth (h : Good b) {c : Cmp} (hc : c ∈ b.2.2.2.2.1) : f_c_growth b c = some (growthP b c) := by
  obtain ⟨r1, r2⟩ := h.rates hc
  have hn := (numsP_iff c).1 (h.nums hc)
  have a := pileP_len hn.2.2.2.2.2.1
  have b := pileP_len hn.2.2.2.2.2.2
  exact growth_ok h.size (by omega) (by omega) r1 r2 hn.2.2.2.2.1
theorem Good.films (h : Good b) {c : Cmp} (hA : c.2.2.1.length ≤ 1000) (hB : c.2.2.2.1.length ≤ 1000) : f_c_films b c = some (filmsP b c) := by
  have := h.film
  exact films_ok hA hB (by omega) (by omega) (by omega) (by omega)
theorem over_rat {k heat : Int × Int} (hk : Rat' k 200000 10000) (hh : spanP heat (-10000) 10000 = true) : Rat' (overP k heat).1 2000000000 10000 ∧ Rat' (overP k heat).2 2000000000 10000 := by
  simp only [spanP, Bool.and_eq_true, decide_eq_true_eq] at hh
  have r1 := mul_rat hk (n := heat.1) ⟨by omega, by omega⟩
  have r2 := mul_rat hk (n := heat.2) ⟨by omega, by omega⟩
  unfold overP
  split
  · exact ⟨r2, r1⟩
  · exact ⟨r1, r2⟩
theorem films_bound {c : Cmp} (hA : c.2.2.1.length ≤ 1000) (hB : c.2.2.2.1.length ≤ 1000) (h1 : 0 ≤ b.1.1) (h2 : b.1.1 ≤ 1000000) (h3 : 0 ≤ b.1.2) (h4 : b.1.2 ≤ 1000000) :
    (-1000000000 ≤ (filmsP b c).1 ∧ (filmsP b c).1 ≤ 1000000000) ∧ (-1000000000 ≤ (filmsP b c).2 ∧ (filmsP b c).2 ≤ 1000000000) := by
  have bd : ∀ (n : Nat) (x : Int), n ≤ 1000 → 0 ≤ x → x ≤ 1000000 → 0 ≤ ((n - 1 : Nat) : Int) * x ∧ ((n - 1 : Nat) : Int) * x ≤ 1000000000 := by
    intro n x hn h0 hx
    refine ⟨Int.mul_nonneg (by omega) h0, ?_⟩
    have := Int.mul_le_mul (show ((n - 1 : Nat) : Int) ≤ 1000 by omega) hx h0 (by omega)
    omega
  have b1 := bd _ _ hA h1 h2
  have b2 := bd _ _ hA h3 h4
  have b3 := bd _ _ hB h1 h2
  have b4 := bd _ _ hB h3 h4
  unfold filmsP
  try dsimp only
  omega
theorem floor_bound {r : Int × Int} (h : Rat' r 2000000000 10000) : -2000000000 ≤ r.1 / r.2 ∧ r.1 / r.2 ≤ 2000000000 := by
  have := ediv_bound (n := r.1) h.pos
  have := h.num
  omega
theorem ceil_bound {r : Int × Int} (h : Rat' r 2000000000 10000) : -2000000000 ≤ ceilP r ∧ ceilP r ≤ 2000000000 := by
  have := ediv_bound (n := -r.1) h.pos
  have := h.num
  unfold ceilP
  omega
theorem Good.says (h : Good b) {c : Cmp} (hc : c ∈ b.2.2.2.2.1) : f_c_says b c = some (saysP b c) := by
  obtain ⟨r1, r2⟩ := h.rates hc
  have hn := (numsP_iff c).1 (h.nums hc)
  have ha := pileP_len hn.2.2.2.2.2.1
  have hb := pileP_len hn.2.2.2.2.2.2
  have hf := h.film
  obtain ⟨g1, g2⟩ := over_rat (sub_rat r1 r2) hn.2.2.2.2.1
  have fb := films_bound (b := b) (c := c) (by omega) (by omega) (by omega) (by omega) (by omega) (by omega)
  have q1 : Rat' (growthP b c).1 2000000000 10000 := g1
  have q2 : Rat' (growthP b c).2 2000000000 10000 := g2
  have c1 := ceil_bound q1
  have c2 := floor_bound q2
  unfold f_c_says m_c_says saysP
  rw [h.growth hc, bindF_some, h.films (by omega) (by omega), bindF_some, Floor_ok q2.rat, bindF_some, Ceil_ok q1.rat, bindF_some]
  try dsimp only
  have n3 := hn.2.2.1
  have n4 := hn.2.2.2.1
  rw [ck_ok (by omega) (by omega), ck_ok (by omega) (by omega), ck_ok (by omega) (by omega), ck_ok (by omega) (by omega), ck_ok (by omega) (by omega), ck_ok (by omega) (by omega)]
end
def loanDays (l : Loan) (f t : Int) : Int := min l.2.1.2 (t - 1) - max l.2.1.1 f + 1
def loanLoss (id f t : Int) : List Loan → Int
  | [] => 0
  | l :: r => (if l.1 = id ∧ 0 < loanDays l f t then loanDays l f t * l.2.2 else 0) + loanLoss id f t r
theorem loanLoss_append (id f t : Int) : ∀ (x y : List Loan), loanLoss id f t (x ++ y) = loanLoss id f t x + loanLoss id f t y
  | [], y => by simp [loanLoss]
  | l :: r, y => by
    simp only [List.cons_append, loanLoss, loanLoss_append id f t r y]
    omega
def useDays (b : Book) (id f t : Int) : List Int := (b.2.2.1.filter fun u => u.1 == id && inP u.2 f (t - 1)).map fun u => u.2
def lossP (b : Book) (g : Gauge) (f t : Int) : Int := loanLoss g.1 f t b.2.2.2.1 + (setI (useDays b g.1 f t)).length * g.2.2.2.2.2
theorem imin_eq (a c : Int) : imin a c = min a c := by unfold imin; split <;> omega
theorem imax_eq (a c : Int) : imax a c = max a c := by unfold imax; split <;> omega
theorem loanE_zero {b : Book} (h : Good b) {l : Loan} (hl : l ∈ b.2.2.2.1) : (0 ≤ l.2.1.1 ∧ l.2.1.1 ≤ l.2.1.2 ∧ l.2.1.2 ≤ 20000) ∧ (0 ≤ l.2.2 ∧ l.2.2 ≤ 1048576) := by
  obtain ⟨i, hi, rfl⟩ := List.mem_iff_getElem.1 hl
  have := h.loans i _ (List.getElem?_eq_getElem hi)
  unfold loanE at this
  split at this
  · omega
  rename_i h1
  split at this
  · omega
  rename_i h2
  simp only [Bool.not_eq_true', Bool.not_eq_false, spanP, inP, Bool.and_eq_true, decide_eq_true_eq] at h1 h2
  exact ⟨h1, h2⟩
theorem loan_bound {l : Loan} (h : (0 ≤ l.2.1.1 ∧ l.2.1.1 ≤ l.2.1.2 ∧ l.2.1.2 ≤ 20000) ∧ (0 ≤ l.2.2 ∧ l.2.2 ≤ 1048576)) {f t : Int} (hf : 0 ≤ f) (hd : 0 < loanDays l f t) : 0 ≤ loanDays l f t * l.2.2 ∧ loanDays l f t * l.2.2 ≤ 20001 * 1048576 := by
  refine ⟨Int.mul_nonneg (by omega) h.2.1, Int.mul_le_mul ?_ h.2.2 h.2.1 (by omega)⟩
  unfold loanDays
  omega
theorem loanLoss_bound {id f t : Int} (hf : 0 ≤ f) : ∀ {x : List Loan}, (∀ l ∈ x, (0 ≤ l.2.1.1 ∧ l.2.1.1 ≤ l.2.1.2 ∧ l.2.1.2 ≤ 20000) ∧ (0 ≤ l.2.2 ∧ l.2.2 ≤ 1048576)) → 0 ≤ loanLoss id f t x ∧ loanLoss id f t x ≤ x.length * (20001 * 1048576)
  | [], _ => by simp [loanLoss]
  | l :: r, h => by
    have ih := loanLoss_bound (id := id) (t := t) hf (x := r) fun l hl => h l (by simp [hl])
    simp only [loanLoss, List.length_cons, Int.natCast_succ, Int.add_mul, Int.one_mul]
    split
    · rename_i hc
      have := loan_bound (h l (by simp)) hf hc.2
      omega
    · omega
theorem loss_ok {b : Book} (h : Good b) {g : Gauge} (hg : 0 ≤ g.2.2.2.2.2 ∧ g.2.2.2.2.2 ≤ 1048576) {f t : Int} (hf : 0 ≤ f ∧ f ≤ 100000) (ht : 0 ≤ t ∧ t ≤ 100000) : f_c_loss b g f t = some (lossP b g f t) := by
  have hL := h.nL
  have hU := h.nU
  have hlb : ∀ i, 0 ≤ loanLoss g.1 f t (b.2.2.2.1.take i) ∧ loanLoss g.1 f t (b.2.2.2.1.take i) ≤ 12 * (20001 * 1048576) := by
    intro i
    have h1 := loanLoss_bound (id := g.1) (t := t) hf.1 (x := b.2.2.2.1.take i) fun l hl => loanE_zero h (List.mem_of_mem_take hl)
    have h2 : ((b.2.2.2.1.take i).length : Int) * (20001 * 1048576) ≤ 12 * (20001 * 1048576) := Int.mul_le_mul_of_nonneg_right (by rw [List.length_take]; omega) (by omega)
    omega
  unfold f_c_loss m_c_loss
  refine loop_inv (fun x : Int × Int => ∃ i : Nat, i ≤ b.2.2.2.1.length ∧ x = (loanLoss g.1 f t (b.2.2.2.1.take i), (i : Int))) (fun x => b.2.2.2.1.length - x.2.toNat) ?_ ⟨0, by omega, rfl⟩
  rintro x ⟨i, hi, rfl⟩
  rcases Nat.lt_or_ge i b.2.2.2.1.length with hlt | hge
  · have hl : b.2.2.2.1[i]? = some b.2.2.2.1[i] := List.getElem?_eq_getElem hlt
    have hz := loanE_zero h (List.mem_of_getElem? hl)
    refine .inr ⟨(loanLoss g.1 f t (b.2.2.2.1.take (i + 1)), (i : Int) + 1), ⟨i + 1, hlt, by simp⟩, by simp; omega, fun kn => ?_⟩
    try dsimp only
    unfold m_c_loss_L0
    have b1 := hlb i
    have b2 := hlb (i + 1)
    have e1 : loanLoss g.1 f t (b.2.2.2.1.take (i + 1)) = loanLoss g.1 f t (b.2.2.2.1.take i) + (if b.2.2.2.1[i].1 = g.1 ∧ 0 < loanDays b.2.2.2.1[i] f t then loanDays b.2.2.2.1[i] f t * b.2.2.2.1[i].2.2 else 0) := by
      rw [take_succ hl, loanLoss_append]; simp [loanLoss]
    rw [ifb_lt' hlt, iget_nat hl, ck_ok (by omega) (by omega), imin_eq, imax_eq, ck_ok (by omega) (by omega), ck_ok (by omega) (by omega)]
    rw [show min b.2.2.2.1[i].2.1.2 (t - 1) - max b.2.2.2.1[i].2.1.1 f + 1 = loanDays b.2.2.2.1[i] f t from rfl, ifb_eq]
    by_cases hid : b.2.2.2.1[i].1 = g.1
    · rw [if_pos (by simpa [ieq] using hid), ifb_eq]
      by_cases hd : 0 < loanDays b.2.2.2.1[i] f t
      · have lb := loan_bound hz hf.1 hd
        rw [if_pos ⟨hid, hd⟩] at e1
        rw [if_pos (by simpa [igt] using hd), ck_ok (by omega) (by omega), ck_ok (by omega) (by omega), ck_succ hlt (by omega), e1]
      · rw [if_neg (fun hc => hd hc.2)] at e1
        rw [if_neg (by simpa [igt] using hd), ck_succ hlt (by omega), e1, Int.add_zero]
    · rw [if_neg (fun hc => hid hc.1)] at e1
      rw [if_neg (by simpa [ieq] using hid), ck_succ hlt (by omega), e1, Int.add_zero]
  · refine .inl fun kn => ?_
    have : i = b.2.2.2.1.length := by omega
    subst this
    try dsimp only
    unfold m_c_loss_L0
    rw [ifb_ge, List.take_length]
    have hud : ∀ x : List (Int × Int), x.length ≤ 40 → ((x.filter fun u => u.1 == g.1 && inP u.2 f (t - 1)).map fun u => u.2).length ≤ 40 := by
      intro x hx
      rw [List.length_map]
      exact Nat.le_trans (List.length_filter_le _ _) hx
    refine loop_acc b.2.2.1 (fun i => ((b.2.2.1.take i).filter fun u => u.1 == g.1 && inP u.2 f (t - 1)).map fun u => u.2) _ rfl (fun i u hi hu kn' => ?_) (fun kn' => ?_)
    · try dsimp only
      unfold m_c_loss_L1
      have hx := hud (b.2.2.1.take i) (by rw [List.length_take]; omega)
      rw [ifb_lt' hi, iget_nat hu, ck_ok (by omega) (by omega), within_ok, bindF_some, okLen_of (by simp only [List.length_singleton]; omega), Am.iff_true, ck_succ hi (by omega), ck_succ hi (by omega), take_succ hu, List.filter_append, List.map_append]
      cases h1 : (u.1 == g.1) with
      | false =>
        have : ieq u.1 g.1 = false := h1
        simp only [this, ifb_false, List.filter_cons, h1, Bool.false_and, Bool.false_eq_true, if_false, List.filter_nil, List.map_nil, List.append_nil]
      | true =>
        have : ieq u.1 g.1 = true := h1
        rw [this]
        cases h2 : inP u.2 f (t - 1) with
        | false => simp only [ifb_true, ifb_false, List.filter_cons, h1, h2, Bool.true_and, Bool.false_eq_true, if_false, List.filter_nil, List.map_nil, List.append_nil]
        | true => simp only [ifb_true, List.filter_cons, h1, h2, Bool.true_and, if_true, List.filter_nil, List.map_nil, List.map_cons]
    · try dsimp only
      unfold m_c_loss_L1
      rw [ifb_ge, List.take_length]
      rw [show ((b.2.2.1.filter fun u => u.1 == g.1 && inP u.2 f (t - 1)).map fun u => u.2) = useDays b g.1 f t from rfl]
      have h40 : (useDays b g.1 f t).length ≤ 40 := hud _ hU
      have hc40 : (setI (useDays b g.1 f t)).length ≤ 40 := by
        have := setI_len (useDays b g.1 f t)
        omega
      have hm : 0 ≤ ((setI (useDays b g.1 f t)).length : Int) * g.2.2.2.2.2 ∧ ((setI (useDays b g.1 f t)).length : Int) * g.2.2.2.2.2 ≤ 40 * 1048576 :=
        ⟨Int.mul_nonneg (by omega) hg.1, Int.mul_le_mul (by omega) hg.2 hg.1 (by omega)⟩
      have b1 := hlb b.2.2.2.1.length
      rw [List.take_length] at b1
      dsimp only
      rw [okLen_of (by omega), Am.iff_true, okLen_of (by rw [sortI_len]; omega), Am.iff_true, setI_eq, ilen_eq, ck_ok (by omega) (by omega), ck_ok (by omega) (by omega)]
      rfl
end Go.Proofs.ZzM
end

noncomputable section
namespace Go.Proofs.ZzM
open Go Go.Am
def gaugeLinks (b : Book) (g : Gauge) : List Lk :=
  [(0, atP (nodesP b) [g.1] g.2.1, g.2.2.1 + g.2.2.2.1.2), (atP (nodesP b) [g.1] g.2.1, 0, -(g.2.2.1 + g.2.2.2.1.1))] ++
  (List.range ((daysP b g).length - 1)).flatMap fun (k : Nat) => [(atP (nodesP b) [g.1] g.2.1 + k, atP (nodesP b) [g.1] g.2.1 + k + 1, 0), (atP (nodesP b) [g.1] g.2.1 + k + 1, atP (nodesP b) [g.1] g.2.1 + k, lossP b g ((daysP b g)[k]?.getD 0) ((daysP b g)[k + 1]?.getD 0))]
def cx (b : Book) (c : Cmp) : Int := atP (nodesP b) (leftP c.2.2.1 c.2.2.2.1) c.2.1
def cy (b : Book) (c : Cmp) : Int := atP (nodesP b) (leftP c.2.2.2.1 c.2.2.1) c.2.1
def compareLinks (b : Book) (c : Cmp) : List Lk := [(cy b c, cx b c, (saysP b c).2), (cx b c, cy b c, -(saysP b c).1)]
def linksP (b : Book) : List Lk := b.2.1.flatMap (gaugeLinks b) ++ b.2.2.2.2.1.flatMap (compareLinks b)
def gaugeSources (b : Book) (i : Nat) (g : Gauge) : List (Int × Int) := [(1, (i : Int)), (1, (i : Int))] ++ (List.range ((daysP b g).length - 1)).flatMap fun _ => [(2, (i : Int)), (2, (i : Int))]
def sourcesP (b : Book) : List (Int × Int) := (b.2.1.mapIdx (gaugeSources b)).flatten ++ (b.2.2.2.2.1.mapIdx fun i _ => [(3, (i : Int)), (3, (i : Int))]).flatten
section
variable {b : Book}
theorem useE_zero (h : Good b) {id day : Int} (hu : useE (shelf b) id day = 0) : (0 ≤ day ∧ day ≤ 20000) ∧ ∃ g, gaugeOf b id = some g ∧ g.2.1 ≤ day := by
  unfold useE at hu
  split at hu
  · omega
  · rename_i hd
    simp only [Bool.not_eq_true', Bool.not_eq_false, dayP, inP, Bool.and_eq_true, decide_eq_true_eq] at hd
    exact ⟨hd, madeE_zero h hu⟩
theorem daysP_mem {g : Gauge} {d : Int} : d ∈ daysP b g ↔ d = g.2.1 ∨ (∃ c ∈ b.2.2.2.2.1, (c.2.2.1.contains g.1) ≠ (c.2.2.2.1.contains g.1) ∧ c.2.1 = d) ∨ (∃ n ∈ b.2.2.2.2.2, n.1 = g.1 ∧ n.2 = d) := by
  unfold daysP
  rw [setI_mem, daysR]
  simp only [List.mem_append, List.mem_singleton, List.mem_map, List.mem_filter]
  constructor
  · rintro ((h | ⟨c, ⟨h1, h2⟩, h3⟩) | ⟨n, ⟨h1, h2⟩, h3⟩)
    · exact .inl h
    · exact .inr (.inl ⟨c, h1, by simpa using h2, h3⟩)
    · exact .inr (.inr ⟨n, h1, by simpa using h2, h3⟩)
  · rintro (h | ⟨c, h1, h2, h3⟩ | ⟨n, h1, h2, h3⟩)
    · exact .inl (.inl h)
    · exact .inl (.inr ⟨c, ⟨h1, by simpa using h2⟩, h3⟩)
    · exact .inr ⟨n, ⟨h1, by simpa using h2⟩, h3⟩
theorem Good.gaugeR (h : Good b) {g : Gauge} (hg : g ∈ b.2.1) : ratP g.2.2.2.2.1 = true ∧ (-1000 ≤ g.2.2.2.2.1.1 ∧ g.2.2.2.2.1.1 ≤ 1000) ∧ g.2.2.2.2.1.2 ≤ 100 ∧ (1 ≤ g.1 ∧ g.1 ≤ 1099511627776) ∧ (0 ≤ g.2.1 ∧ g.2.1 ≤ 20000) ∧ (1 ≤ g.2.2.1 ∧ g.2.2.1 ≤ 1125899906842624) ∧ (-1073741824 ≤ g.2.2.2.1.1 ∧ g.2.2.2.1.1 ≤ g.2.2.2.1.2 ∧ g.2.2.2.1.2 ≤ 1073741824) ∧ (0 ≤ g.2.2.2.2.2 ∧ g.2.2.2.2.2 ≤ 1048576) := (gaugeP_iff g).1 (h.gauge g hg)
theorem Good.day (h : Good b) {g : Gauge} (hg : g ∈ b.2.1) {d : Int} (hd : d ∈ daysP b g) : g.2.1 ≤ d ∧ 0 ≤ d ∧ d ≤ 20000 := by
  have hr := h.gaugeR hg
  have hgo := gaugeOf_mem h.ids hg
  rcases daysP_mem.1 hd with rfl | ⟨c, hc, h1, rfl⟩ | ⟨n, hn, h1, rfl⟩
  · have := hr.2.2.2.2.1; omega
  · have hn := (numsP_iff c).1 (h.nums hc)
    have hx : g.1 ∈ c.2.2.1 ++ c.2.2.2.1 := by
      rw [List.mem_append]
      by_cases h2 : g.1 ∈ c.2.2.1
      · exact .inl h2
      · refine .inr ?_
        have e1 : c.2.2.1.contains g.1 = false := by simpa using h2
        rw [e1] at h1
        have : c.2.2.2.1.contains g.1 = true := by cases hh : c.2.2.2.1.contains g.1 <;> simp_all
        simpa using this
    obtain ⟨⟨g', h3, h4⟩, _⟩ := h.pile hc hx
    rw [hgo] at h3; cases h3
    have := hn.2.1
    omega
  · obtain ⟨h2, g', h3, h4⟩ := useE_zero h (h.looks n hn)
    rw [h1, hgo] at h3; cases h3
    omega
theorem daysP_ne (g : Gauge) : g.2.1 ∈ daysP b g := daysP_mem.2 (.inl rfl)
theorem days_len (h : Good b) {g : Gauge} (hg : g ∈ b.2.1) : (daysP b g).length ≤ 59 := by
  have h1 : ∀ l : List Gauge, g ∈ l → (daysP b g).length ≤ (l.flatMap fun g => (daysP b g).map fun d => ((g.1, d) : Int × Int)).length := by
    intro l
    induction l with
    | nil => intro hg; cases hg
    | cons a t ih =>
      intro hg
      rw [List.flatMap_cons, List.length_append, List.length_map]
      rcases List.mem_cons.1 hg with rfl | hg
      · omega
      · have := ih hg; omega
  have := h1 b.2.1 hg
  have := h.nodes
  unfold nodesP at this
  omega
theorem atP_bound {p : List Int} {d : Int} : 0 ≤ atP (nodesP b) p d ∧ atP (nodesP b) p d ≤ (nodesP b).length := by
  unfold atP
  cases p with
  | nil => simp
  | cons x t =>
    try dsimp only
    cases h : nodeIdx (nodesP b) x d with
    | none => simp
    | some j => have := (nodeIdx_lt h).1; dsimp only; omega
theorem saysP_bound (h : Good b) {c : Cmp} (hc : c ∈ b.2.2.2.2.1) : (-1125904000000000 ≤ (saysP b c).1 ∧ (saysP b c).1 ≤ 1125904000000000) ∧ (-1125904000000000 ≤ (saysP b c).2 ∧ (saysP b c).2 ≤ 1125904000000000) := by
  obtain ⟨r1, r2⟩ := h.rates hc
  have hn := (numsP_iff c).1 (h.nums hc)
  have ha := pileP_len hn.2.2.2.2.2.1
  have hb := pileP_len hn.2.2.2.2.2.2
  have hf := h.film
  obtain ⟨g1, g2⟩ := over_rat (sub_rat r1 r2) hn.2.2.2.2.1
  have fb := films_bound (b := b) (c := c) (by omega) (by omega) (by omega) (by omega) (by omega) (by omega)
  have q1 : Rat' (growthP b c).1 2000000000 10000 := g1
  have q2 : Rat' (growthP b c).2 2000000000 10000 := g2
  have c1 := ceil_bound q1
  have c2 := floor_bound q2
  have n3 := hn.2.2.1
  have n4 := hn.2.2.2.1
  unfold saysP
  try dsimp only
  omega
theorem lossP_bound (h : Good b) {g : Gauge} (hg : g ∈ b.2.1) {f t : Int} (hf : 0 ≤ f) : 0 ≤ lossP b g f t ∧ lossP b g f t ≤ 12 * (20001 * 1048576) + 40 * 1048576 := by
  have hr := (h.gaugeR hg).2.2.2.2.2.2.2
  have h1 := loanLoss_bound (id := g.1) (t := t) hf (x := b.2.2.2.1) fun l hl => loanE_zero h hl
  have h2 : (b.2.2.2.1.length : Int) * (20001 * 1048576) ≤ 12 * (20001 * 1048576) := Int.mul_le_mul_of_nonneg_right (by have := h.nL; omega) (by omega)
  have h3 : (useDays b g.1 f t).length ≤ 40 := by
    unfold useDays
    rw [List.length_map]
    exact Nat.le_trans (List.length_filter_le _ _) h.nU
  have h4 := setI_len (useDays b g.1 f t)
  have hm : 0 ≤ ((setI (useDays b g.1 f t)).length : Int) * g.2.2.2.2.2 ∧ ((setI (useDays b g.1 f t)).length : Int) * g.2.2.2.2.2 ≤ 40 * 1048576 :=
    ⟨Int.mul_nonneg (by omega) hr.1, Int.mul_le_mul (by omega) hr.2 hr.1 (by omega)⟩
  unfold lossP
  omega
end
theorem mapIdx_take {α β : Type} (f : Nat → α → β) {l : List α} {i : Nat} {a : α} (h : l[i]? = some a) : (l.take (i + 1)).mapIdx f = (l.take i).mapIdx f ++ [f i a] := by
  have hi : i < l.length := (List.getElem?_eq_some_iff.1 h).1
  have : (l.take i).length = i := by rw [List.length_take]; omega
  rw [take_succ h, List.mapIdx_append]
  simp [this]
theorem range_flat {α : Type} (f : Nat → List α) (j : Nat) : (List.range (j + 1)).flatMap f = (List.range j).flatMap f ++ f j := by
  rw [List.range_succ, List.flatMap_append]; simp
theorem sources_len {α : Type} (f : Nat → List α) (n : Nat) (h : ∀ k, (f k).length = 2) : ((List.range n).flatMap f).length = 2 * n := by
  induction n with
  | zero => rfl
  | succ n ih => rw [range_flat, List.length_append, ih, h]; omega
set_option maxHeartbeats 2000000 in
theorem made_ok' {b : Book} (h : Good b) : f_c_made b = some (b, nodesP b, (((nodesP b).length : Int) + 1, linksP b), sourcesP b) := by
  unfold f_c_made m_c_made
  have hN := h.nodes
  have hG := h.nG
  have hC := h.nC
  rw [nodes_ok h.size, bindF_some, ilen_eq, ck_ok (by omega) (by omega)]
  -- lengths of what comes
  have gl : ∀ g ∈ b.2.1, (gaugeLinks b g).length ≤ 120 ∧ ∀ i, (gaugeSources b i g).length ≤ 120 := by
    intro g hg
    have := days_len h hg
    constructor
    · unfold gaugeLinks
      rw [List.length_append, sources_len _ _ (fun _ => rfl)]
      simp only [List.length_cons, List.length_nil]; omega
    · intro i
      unfold gaugeSources
      rw [List.length_append, sources_len _ _ (fun _ => rfl)]
      simp only [List.length_cons, List.length_nil]; omega
  have gls : ∀ i, ((b.2.1.take i).flatMap (gaugeLinks b)).length ≤ 1440 ∧ (((b.2.1.take i).mapIdx (gaugeSources b)).flatten).length ≤ 1440 := by
    intro i
    induction i with
    | zero => simp
    | succ i ih =>
      have key : ∀ i, i ≤ b.2.1.length → ((b.2.1.take i).flatMap (gaugeLinks b)).length ≤ i * 120 ∧ (((b.2.1.take i).mapIdx (gaugeSources b)).flatten).length ≤ i * 120 := by
        intro i
        induction i with
        | zero => intro _; simp
        | succ i ih =>
          intro hi
          have ih := ih (by omega)
          have hg : b.2.1[i]? = some b.2.1[i] := List.getElem?_eq_getElem hi
          have h2 := gl _ (List.mem_of_getElem? hg)
          have h3 := h2.2 i
          rw [mapIdx_take _ hg, take_succ hg, List.flatMap_append, List.flatten_append, List.length_append, List.length_append]
          simp only [List.flatMap_cons, List.flatMap_nil, List.append_nil, List.flatten_cons, List.flatten_nil]
          omega
      rcases Nat.lt_or_ge b.2.1.length (i + 1) with h1 | h1
      · rw [List.take_of_length_le (by omega)]
        have := key b.2.1.length (Nat.le_refl _)
        rw [List.take_length] at this
        omega
      · have := key (i + 1) h1
        omega
  refine loop_acc b.2.1 (fun i => ((b.2.1.take i).flatMap (gaugeLinks b), ((b.2.1.take i).mapIdx (gaugeSources b)).flatten)) _ rfl (fun i g hi hg kn => ?_) (fun kn => ?_)
  · try dsimp only
    unfold m_c_made_L0
    have hgm := List.mem_of_getElem? hg
    have hr := h.gaugeR hgm
    have hd := days_len h hgm
    have hls := gls i
    have hat := atP_bound (b := b) (p := [g.1]) (d := g.2.1)
    rw [ifb_lt' hi, iget_nat hg]
    rw [show f_c_days ((b.1.1, b.1.2), b.2.1, b.2.2.1, b.2.2.2.1, b.2.2.2.2.1, b.2.2.2.2.2) g = f_c_days b g from rfl, days_ok h.size, bindF_some]
    rw [at_ok _ _ _ (by dsimp only; omega), bindF_some]
    try dsimp only
    have r1 := hr.2.2.2.2.2.1
    have r2 := hr.2.2.2.2.2.2.1
    rw [ck_ok (by omega) (by omega), ck_ok (by omega) (by omega), ck_ok (by omega) (by omega), okLen_of (by simp only [List.length_cons, List.length_nil]; omega), Am.iff_true, okLen_of (by simp only [List.length_cons, List.length_nil]; omega), Am.iff_true]
    refine loop_inv (fun x : Int × List Lk × List (Int × Int) => ∃ j : Nat, j + 1 ≤ (daysP b g).length ∧ x.1 = (j : Int) + 1 ∧
        x.2.1 = (b.2.1.take i).flatMap (gaugeLinks b) ++ ([(0, atP (nodesP b) [g.1] g.2.1, g.2.2.1 + g.2.2.2.1.2), (atP (nodesP b) [g.1] g.2.1, 0, -(g.2.2.1 + g.2.2.2.1.1))] ++
          (List.range j).flatMap fun (k : Nat) => [(atP (nodesP b) [g.1] g.2.1 + k, atP (nodesP b) [g.1] g.2.1 + k + 1, 0), (atP (nodesP b) [g.1] g.2.1 + k + 1, atP (nodesP b) [g.1] g.2.1 + k, lossP b g ((daysP b g)[k]?.getD 0) ((daysP b g)[k + 1]?.getD 0))]) ∧
        x.2.2 = ((b.2.1.take i).mapIdx (gaugeSources b)).flatten ++ ([(1, (i : Int)), (1, (i : Int))] ++ (List.range j).flatMap fun _ => [(2, (i : Int)), (2, (i : Int))])) (fun x => (daysP b g).length - x.1.toNat) ?_
      ⟨0, List.length_pos_of_mem (daysP_ne g), rfl, by simp, by simp⟩
    rintro ⟨x1, ls, ss⟩ ⟨j, hj, e1, e2, e3⟩
    dsimp only at e1 e2 e3 ⊢
    subst e1
    have hlls : ls.length ≤ 1562 := by
      rw [e2, List.length_append, List.length_append, sources_len _ _ (fun _ => rfl)]
      simp only [List.length_cons, List.length_nil]; omega
    have hlss : ss.length ≤ 1562 := by
      rw [e3, List.length_append, List.length_append, sources_len _ _ (fun _ => rfl)]
      simp only [List.length_cons, List.length_nil]; omega
    rcases Nat.lt_or_ge (j + 1) (daysP b g).length with hlt | hge
    · refine .inr ⟨((j : Int) + 1 + 1, _, _), ⟨j + 1, hlt, by push_cast; rfl, rfl, rfl⟩, by dsimp only; omega, fun kn' => ?_⟩
      try dsimp only
      unfold m_c_made_L1
      have g1 : (daysP b g)[j]? = some ((daysP b g)[j]?.getD 0) := by rw [List.getElem?_eq_getElem (by omega)]; rfl
      have g2 : (daysP b g)[j + 1]? = some ((daysP b g)[j + 1]?.getD 0) := by rw [List.getElem?_eq_getElem hlt]; rfl
      have d1 := h.day hgm (List.mem_of_getElem? g1)
      have d2 := h.day hgm (List.mem_of_getElem? g2)
      have lb := lossP_bound h hgm (t := (daysP b g)[j + 1]?.getD 0) d1.2.1
      have ec : ((j : Int) + 1) = ((j + 1 : Nat) : Int) := by push_cast; rfl
      rw [ec, ifb_lt' hlt, ck_ok (by omega) (by omega), ck_ok (by omega) (by omega), ck_ok (by omega) (by omega), ck_ok (by omega) (by omega)]
      rw [show (((j + 1 : Nat) : Int) - 1) = ((j : Nat) : Int) by omega, iget_nat g1, iget_nat g2]
      rw [show f_c_loss ((b.1.1, b.1.2), b.2.1, b.2.2.1, b.2.2.2.1, b.2.2.2.2.1, b.2.2.2.2.2) (g.1, g.2.1, g.2.2.1, (g.2.2.2.1.1, g.2.2.2.1.2), (g.2.2.2.2.1.1, g.2.2.2.2.1.2), g.2.2.2.2.2) ((daysP b g)[j]?.getD 0) ((daysP b g)[j + 1]?.getD 0) = f_c_loss b g ((daysP b g)[j]?.getD 0) ((daysP b g)[j + 1]?.getD 0) from rfl]
      rw [loss_ok h hr.2.2.2.2.2.2.2 ⟨by omega, by omega⟩ ⟨by omega, by omega⟩, bindF_some, ck_ok (by omega) (by omega), ck_ok (by omega) (by omega), okLen_of (by simp only [List.length_cons, List.length_nil]; omega), Am.iff_true, okLen_of (by simp only [List.length_cons, List.length_nil]; omega), Am.iff_true, ck_succ hlt (by omega)]
      rw [range_flat, range_flat, e2, e3]
      have a1 : atP (nodesP b) [g.1] g.2.1 + ((j + 1 : Nat) : Int) - 1 = atP (nodesP b) [g.1] g.2.1 + (j : Int) := by push_cast; omega
      have a2 : atP (nodesP b) [g.1] g.2.1 + ((j + 1 : Nat) : Int) = atP (nodesP b) [g.1] g.2.1 + (j : Int) + 1 := by push_cast; omega
      have a3 : 0 - (0 - lossP b g ((daysP b g)[j]?.getD 0) ((daysP b g)[j + 1]?.getD 0)) = lossP b g ((daysP b g)[j]?.getD 0) ((daysP b g)[j + 1]?.getD 0) := by omega
      rw [a1, a2, a3]
      simp only [List.append_assoc]
    · refine .inl fun kn' => ?_
      have hje : j + 1 = (daysP b g).length := by omega
      unfold m_c_made_L1
      rw [show ((j : Int) + 1) = (((daysP b g).length : Nat) : Int) by rw [← hje]; push_cast; rfl, ifb_ge]
      dsimp only
      rw [ck_succ hi (by omega)]
      rw [mapIdx_take _ hg, take_succ hg, List.flatMap_append, List.flatten_append, e2, e3, show j = (daysP b g).length - 1 by omega]
      simp only [List.flatMap_cons, List.flatMap_nil, List.append_nil, List.flatten_cons, List.flatten_nil]
      rfl
  · try dsimp only
    unfold m_c_made_L0
    rw [ifb_ge, List.take_length]
    have hls := gls b.2.1.length
    rw [List.take_length] at hls
    have cl : ∀ i, i ≤ b.2.2.2.2.1.length → ((b.2.2.2.2.1.take i).flatMap (compareLinks b)).length = 2 * i ∧ (((b.2.2.2.2.1.take i).mapIdx fun i _ => [((3 : Int), (i : Int)), ((3 : Int), (i : Int))]).flatten).length = 2 * i := by
      intro i
      induction i with
      | zero => intro _; simp
      | succ i ih =>
        intro hi
        have ih := ih (by omega)
        have hg : b.2.2.2.2.1[i]? = some b.2.2.2.2.1[i] := List.getElem?_eq_getElem hi
        rw [mapIdx_take _ hg, take_succ hg, List.flatMap_append, List.flatten_append, List.length_append, List.length_append]
        simp only [List.flatMap_cons, List.flatMap_nil, List.append_nil, List.flatten_cons, List.flatten_nil, compareLinks, List.length_cons, List.length_nil]
        omega
    refine loop_acc b.2.2.2.2.1 (fun i => (b.2.1.flatMap (gaugeLinks b) ++ (b.2.2.2.2.1.take i).flatMap (compareLinks b), (b.2.1.mapIdx (gaugeSources b)).flatten ++ ((b.2.2.2.2.1.take i).mapIdx fun i _ => [((3 : Int), (i : Int)), ((3 : Int), (i : Int))]).flatten)) _ (by simp) (fun i c hi hc kn' => ?_) (fun kn' => ?_)
    · try dsimp only
      unfold m_c_made_L2
      have hcm := List.mem_of_getElem? hc
      have hn := (numsP_iff c).1 (h.nums hcm)
      have ha := pileP_len hn.2.2.2.2.2.1
      have hb := pileP_len hn.2.2.2.2.2.2
      have sb := saysP_bound h hcm
      have c1 := cl i (by omega)
      rw [ifb_lt' hi, iget_nat hc, left_ok (by omega) (by omega), bindF_some, at_ok _ _ _ (by dsimp only; omega), bindF_some, left_ok (by omega) (by omega), bindF_some, at_ok _ _ _ (by dsimp only; omega), bindF_some]
      rw [show f_c_says ((b.1.1, b.1.2), b.2.1, b.2.2.1, b.2.2.2.1, b.2.2.2.2.1, b.2.2.2.2.2) c = f_c_says b c from rfl, h.says hcm, bindF_some]
      rw [ck_ok (by omega) (by omega), okLen_of (by simp only [List.length_append, List.length_cons, List.length_nil]; omega), Am.iff_true, okLen_of (by simp only [List.length_append, List.length_cons, List.length_nil]; omega), Am.iff_true, ck_succ hi (by omega), mapIdx_take _ hc, take_succ hc, List.flatMap_append, List.flatten_append]
      simp only [List.flatMap_cons, List.flatMap_nil, List.append_nil, List.flatten_cons, List.flatten_nil, List.append_assoc, Int.zero_sub]
      rfl
    · try dsimp only
      unfold m_c_made_L2
      rw [ifb_ge, List.take_length]
      rfl
end Go.Proofs.ZzM
end
