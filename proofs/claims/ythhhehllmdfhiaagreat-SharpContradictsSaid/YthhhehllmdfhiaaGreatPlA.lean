/- lemmas -/
import Derived.Test.YthhhehllmdfhiaaGreatAmF
import Derived.Test.YthhhehllmdfhiaaGreatMdTA
set_option linter.all false
set_option linter.unusedSectionVars false
set_option linter.unusedVariables false
set_option linter.unusedSimpArgs false
noncomputable section
namespace Go.Am
section
variable {ρ : Type}
def aeN {α β : Type} (e : Nat → α → Option β) : Nat → List α → Option β
 | _, [] => none
 | i, a :: t => match e i a with
   | some b => some b
   | none => aeN e (i + 1) t
theorem amw {α β : Type} (l : List α) (e : Nat → α → Option β) (k0 : β → Option ρ) (k1 : Option ρ) {f : Int → (Int → Option ρ) → Option ρ}
 (h : ∀ (i : Nat) (a : α), i < l.length → l[i]? = some a → ∀ kn, f i kn = match e i a with | some b => k0 b | none => kn ((i : Int) + 1))
 (hn : ∀ kn, f l.length kn = k1) : acl f 0 = match aeN e 0 l with | some b => k0 b | none => k1 := by
 refine aQG l (fun i t => match aeN e i t with | some b => k0 b | none => k1) hn fun i a t hd hi ha kn hk => ?_
 rw [h i a hi ha kn, hk, aeN]
 cases e i a <;> rfl
theorem ac3 {α σ : Type} (l : List α) (g : Nat → σ) (r : Option ρ) {f : Int × σ → (Int × σ → Option ρ) → Option ρ} {s0 : σ} (h0 : g 0 = s0)
 (h : ∀ (i : Nat) (a : α), i < l.length → l[i]? = some a → ∀ kn, f (i, g i) kn = kn ((i : Int) + 1, g (i + 1)))
 (hn : ∀ kn, f (l.length, g l.length) kn = r) : acl f (0, s0) = r := by
 subst h0
 have hs : ∀ s, (s = g 0) → acl f (0, s) = r := fun s e => aHp l (fun _ _ _ => r) (fun i s => s = g i) (fun s hs kn => by rw [hs]; exact hn kn) (fun i a t s hd hi ha hI kn hk => by
  rw [hI, h i a hi ha kn]; exact hk _ rfl) e
 exact hs _ rfl
theorem ack {i n : Nat} (h : i < n) (hn : n ≤ 1000000000) (f : Int → Option ρ) : ck ((i : Int) + 1) f = f ((i : Int) + 1) := acq (by omega) (by omega) f
theorem ifb_lt {i n : Nat} (h : i < n) (x y : Option ρ) : ifb (ilt (i : Int) (aSb n)) x y = x := by simp [adM, az5, h]
theorem acK (n : Nat) (x y : Option ρ) : ifb (ilt (n : Int) (aSb n)) x y = y := by simp [adM, az5]
theorem aco {α : Type} {l : List α} {i : Nat} (h : i < l.length) (x y : Option ρ) : ifb (ilt (i : Int) (acv l)) x y = x := ifb_lt h x y
theorem aBV {α : Type} (p : α → Bool) : ∀ (i : Nat) (l : List α), aeN (fun i a => bif p a then some (i : Int) else none) i l = (l.findIdx? p).map fun j => ((i + j : Nat) : Int)
 | _, [] => rfl
 | i, a :: t => by
   simp only [aeN, List.findIdx?_cons]
   cases hp : p a with
   | true => simp
   | false =>
     simp only [cond_false, Bool.false_eq_true, if_false]
     rw [aBV p (i + 1) t]
     cases t.findIdx? p with
     | none => rfl
     | some j => simp only [Option.map_some]; congr 1; omega
theorem ait {α β : Type} {e : Nat → α → Option β} : ∀ {i : Nat} {l : List α}, aeN e i l = none ↔ ∀ j a, l[j]? = some a → e (i + j) a = none
 | _, [] => by simp [aeN]
 | i, a :: t => by
   simp only [aeN]
   constructor
   ·intro h j b hb
    cases he : e i a with
    | some c => rw [he] at h; cases h
    | none =>
      rw [he] at h
      cases j with
      | zero => simp at hb; subst hb; simpa using he
      | succ j => have := (ait.1 h) j b (by simpa using hb); rw [← this]; congr 1; omega
   ·intro h
    have h0 := h 0 a (by simp)
    simp only [Nat.add_zero] at h0
    rw [h0]
    exact ait.2 fun j b hb => by have := h (j + 1) b (by simpa using hb); rw [← this]; congr 1; omega
theorem take_succ {α : Type} {l : List α} {i : Nat} {a : α} (h : l[i]? = some a) : l.take (i + 1) = l.take i ++ [a] := by rw [List.take_succ, h]; rfl
end
end Go.Am
end
noncomputable section
namespace Go.Proofs.ZzM
open Go Go.Am
section
variable {ρ : Type}
theorem afn {τ : Type} {f : τ → (τ → Option ρ) → Option ρ} {r : Option ρ} (I : τ → Prop) (μ : τ → Nat)
 (h : ∀ x, I x → (∀ kn, f x kn = r) ∨ ∃ y, I y ∧ μ y < μ x ∧ ∀ kn, f x kn = kn y) {x : τ} (hx : I x) : acl f x = r :=
 amx (F := fun _ => r) I μ (fun x hx kn hk => by
  rcases h x hx with h1 | ⟨y, h1, h2, h3⟩
  ·exact h1 kn
  ·rw [h3, hk y h1 h2]) hx
theorem afT {α : Type} (l : List α) (p : α → Bool) (k0 : Int → Option ρ) (k1 : Option ρ) {f : Int → (Int → Option ρ) → Option ρ}
 (h : ∀ (i : Nat) (a : α), i < l.length → l[i]? = some a → ∀ kn, f i kn = if p a then k0 i else kn ((i : Int) + 1))
 (hn : ∀ kn, f l.length kn = k1) : acl f 0 = match l.findIdx? p with | some j => k0 j | none => k1 := by
 rw [amw l (fun i a => bif p a then some (i : Int) else none) k0 k1 (fun i a hi ha kn => by rw [h i a hi ha kn]; cases p a <;> rfl) hn, aBV]
 cases l.findIdx? p with
 | none => rfl
 | some j => simp
theorem afL {α : Type} (l : List α) (p : α → Bool) (k0 : Int → Option ρ) (K k1 : Option ρ) {f : Int → (Int → Option ρ) → Option ρ} (hK : ∀ j : Nat, k0 j = K)
 (h : ∀ (i : Nat) (a : α), i < l.length → l[i]? = some a → ∀ kn, f i kn = if p a then k0 i else kn ((i : Int) + 1))
 (hn : ∀ kn, f l.length kn = k1) : acl f 0 = if l.any p then K else k1 := by
 rw [afT l p k0 k1 h hn]
 cases hf : l.findIdx? p with
 | none =>
   have : l.any p = false := by
    rw [List.any_eq_false]
    intro x hx
    have := List.findIdx?_eq_none_iff.1 hf x hx
    simp [this]
   simp [this]
 | some j =>
   have : l.any p = true := by
    have := List.findIdx?_eq_some_iff_getElem.1 hf
    obtain ⟨hj, hp, _⟩ := this
    exact List.any_eq_true.2 ⟨_, List.getElem_mem hj, hp⟩
   simp [this, hK]
end
abbrev acT : Type := Int × Int × Int × (Int × Int) × ((Int × Int) × Int)
abbrev ayi : Type := Int × ((Int × Int) × Int)
abbrev Cmp : Type := Int × Int × List Int × List Int × Int × (Int × (Int × Int))
abbrev acz : Type := (Int × Int) × List acT × List (Int × Int) × List ayi × List Cmp × List (Int × Int)
abbrev Sys : Type := Int × List (Int × Int × Int)
abbrev Maker : Type := acz × List (Int × Int) × Sys × List (Int × Int)
section
variable {ρ : Type}
theorem acs {b : Bool} (h : b = true) (x y : Option ρ) : ifb b x y = x := by rw [h]; rfl
theorem acm {b : Bool} (h : b = false) (x y : Option ρ) : ifb b x y = y := by rw [h]; rfl
end
def I64 (n : Int) : Prop := -9223372036854775808 ≤ n ∧ n ≤ 9223372036854775807
def inP (n lo hi : Int) : Bool := decide (lo ≤ n) && decide (n ≤ hi)
def aLc (n : Int) : Bool := inP n 0 20000
def akD (s : Int × Int) (lo hi : Int) : Bool := decide (lo ≤ s.1) && (decide (s.1 ≤ s.2) && decide (s.2 ≤ hi))
theorem aeX (n lo hi : Int) : ade n lo hi = some (inP n lo hi) := by
 unfold ade awx inP ile
 cases decide (lo ≤ n) <;> rfl
theorem aHw (n : Int) : aja n = some (aLc n) := by
 unfold aja aBp
 rw [aeX]; rfl
theorem au8 (s : Int × Int) (lo hi : Int) : aeW s lo hi = some (akD s lo hi) := by
 unfold aeW awE akD ile
 cases decide (lo ≤ s.1) <;> cases decide (s.1 ≤ s.2) <;> rfl
theorem aFz {n : Int} (h : I64 n) : alm n = some (n.natAbs : Int) := by
 obtain ⟨h1, h2⟩ := h
 unfold alm aGK
 by_cases hn : n < 0
 ·have : ilt n 0 = true := by simpa using hn
  rw [acs this]
  congr 1
  simp only [IntKind.wrap, IntKind.bits, IntKind.signed]
  simp
  omega
 ·have : ilt n 0 = false := by simpa using hn
  rw [acm this]
  congr 1
  simp only [IntKind.wrap, IntKind.bits, IntKind.signed]
  simp
  omega
theorem aTX (a b : Nat) : aB0 a b = some ((Nat.gcd a b : Nat) : Int) := by
 unfold aB0 aLZ
 refine afn (fun x : Int × Int => ∃ c d : Nat, x = ((c : Int), (d : Int)) ∧ Nat.gcd c d = Nat.gcd a b) (fun x => x.2.toNat) ?_ ⟨a, b, rfl, rfl⟩
 rintro x ⟨c, d, rfl, hg⟩
 cases d with
 | zero =>
   refine .inl fun kn => ?_
   rw [Nat.gcd_zero_right] at hg
   unfold aqo
   simp [hg, ine]
 | succ d =>
   refine .inr ⟨(((d + 1 : Nat) : Int), ((c % (d + 1) : Nat) : Int)), ⟨d + 1, c % (d + 1), rfl, ?_⟩, ?_, fun kn => ?_⟩
   ·rw [← hg, Nat.gcd_comm c (d + 1), Nat.gcd_rec (d + 1) c, Nat.gcd_comm]
   ·have := Nat.mod_lt c (Nat.succ_pos d)
    simp only [Int.toNat_natCast]
    omega
   ·unfold aqo
    have h1 : ine ((d + 1 : Nat) : Int) 0 = true := by simp [ine]; omega
    have h2 : adW ((d + 1 : Nat) : Int) 0 = false := by simp [adW]; omega
    simp only [h1, acs acm h2]
    congr 1
def aCR (r : Int × Int) : Bool :=
 decide (1 ≤ r.2) && (decide (r.2 ≤ 2147483647) && (decide ((r.1.natAbs : Int) ≤ 2147483647) && decide (Nat.gcd r.1.natAbs r.2.natAbs = 1)))
theorem aH3 {r : Int × Int} (h : I64 r.1) : amF r = some (aCR r) := by
 unfold amF aA6 aCR
 by_cases h1 : 1 ≤ r.2
 ·by_cases h2 : r.2 ≤ 2147483647
  ·have h3 : I64 r.2 := ⟨by omega, by omega⟩
   have e1 : ige r.2 1 = true := by simp [ige, h1]
   have e2 : ile r.2 2147483647 = true := by simp [ile, h2]
   rw [acs e1, acs e2, aFz h, ab2]
   by_cases h4 : (r.1.natAbs : Int) ≤ 2147483647
   ·have e4 : ile (r.1.natAbs : Int) 2147483647 = true := by simp [ile, h4]
    rw [acs e4, ab2, aFz h3, ab2, aTX, ab2]
    congr 1
    rw [Bool.eq_iff_iff]
    simp only [ieq, beq_iff_eq, h1, h2, h4, decide_true, Bool.true_and, decide_eq_true_eq]
    omega
   ·have e4 : ile (r.1.natAbs : Int) 2147483647 = false := by simp [ile]; omega
    rw [acm e4]
    simp [h4]
  ·have e1 : ige r.2 1 = true := by simp [ige, h1]
   have e2 : ile r.2 2147483647 = false := by simp [ile]; omega
   rw [acs e1, acm e2]
   simp [h2]
 ·have e1 : ige r.2 1 = false := by simp [ige]; omega
  rw [acm e1]
  simp [h1]
def arL (g : acT) : Bool :=
 aCR g.2.2.2.2.1 && inP g.2.2.2.2.1.1 (-1000) 1000 && decide (g.2.2.2.2.1.2 ≤ 100) && inP g.1 1 1099511627776 && aLc g.2.1 && inP g.2.2.1 1 1125899906842624 && akD g.2.2.2.1 (-1073741824) 1073741824 && inP g.2.2.2.2.2 0 1048576
theorem aOU {g : acT} (h : I64 g.2.2.2.2.1.1) : anT g = some (arL g) := by
 unfold anT asC arL
 rw [aH3 h, aeX, aeX, aHw, aeX, au8, aeX]
 generalize aCR g.2.2.2.2.1 = x1
 generalize inP g.2.2.2.2.1.1 (-1000) 1000 = x2
 generalize inP g.1 1 1099511627776 = x3
 generalize aLc g.2.1 = x4
 generalize inP g.2.2.1 1 1125899906842624 = x5
 generalize akD g.2.2.2.1 (-1073741824) 1073741824 = x6
 generalize inP g.2.2.2.2.2 0 1048576 = x7
 unfold ile
 generalize decide (g.2.2.2.2.1.2 ≤ 100) = x8
 cases x1 <;> cases x2 <;> cases x3 <;> cases x4 <;> cases x5 <;> cases x6 <;> cases x8 <;> rfl
end Go.Proofs.ZzM
end
noncomputable section
namespace Go.Proofs.ZzM
open Go Go.Am
section
variable {ρ : Type}
theorem aKj {α : Type} {l : List α} {i : Nat} {a : α} (h0 : 0 < i) (h : l[i - 1]? = some a) (f : α → Option ρ) : adG l ((i : Int) - 1) f = f a := by
 have : ((i : Int) - 1) = ((i - 1 : Nat) : Int) := by omega
 rw [this, aci h]
theorem aRw {i : Nat} (h : 0 < i) (hn : i ≤ 1000000000) (f : Int → Option ρ) : ck ((i : Int) - 1) f = f ((i : Int) - 1) := acq (by omega) (by omega) f
theorem afY {i n : Nat} (h : i < n) (x : Option ρ) : acU ((ile 0 (i : Int)) && (ilt (i : Int) (n : Int))) x = x := by
 have : ((ile 0 (i : Int)) && (ilt (i : Int) (n : Int))) = true := by simp [ile, ilt, h]
 rw [this, Am.iff_true]
theorem aev {α : Type} {l : List α} {i : Nat} {a : α} (h : l[i]? = some a) (f : α → Option ρ) : afx l (Int.toNat (i : Int)) f = f a := by
 rw [Int.toNat_natCast]; exact agT h f
end
def aCx {α : Type} (key : α → Int) (l : List α) (i : Nat) (a : α) : Bool :=
 decide (0 < i) && (l[i - 1]?).any fun q => decide (key a ≤ key q)
theorem aIB {α : Type} {l : List α} {i : Nat} (hi : i < l.length) (h0 : 0 < i) : ∃ q, l[i - 1]? = some q :=
 ⟨l[i - 1], List.getElem?_eq_getElem (by omega)⟩
theorem aN3 {α : Type} (key : α → Int) (l : List α) : (∀ i a, l[i]? = some a → aCx key l i a = false) ↔ l.Pairwise (fun a b => key a < key b) := by
 rw [List.pairwise_iff_getElem]
 constructor
 ·intro h
  have step : ∀ i (h1 : i + 1 < l.length), key l[i] < key l[i + 1] := by
   intro i h1
   have := h (i + 1) l[i + 1] (List.getElem?_eq_getElem h1)
   simp only [aCx, Nat.add_sub_cancel, Nat.succ_pos, decide_true, Bool.true_and, List.getElem?_eq_getElem (show i < l.length by omega), Option.any_some, decide_eq_false_iff_not] at this
   omega
  intro i j hi hj hij
  induction j with
  | zero => omega
  | succ j ih =>
    have := step j hj
    rcases Nat.lt_or_ge i j with hlt | hge
    ·have := ih (by omega) hlt; omega
    ·have : i = j := by omega
     subst this; assumption
 ·intro h i a ha
  obtain ⟨hi, rfl⟩ := List.getElem?_eq_some_iff.1 ha
  unfold aCx
  cases i with
  | zero => rfl
  | succ i =>
    have := h i (i + 1) (by omega) hi (by omega)
    simp only [Nat.add_sub_cancel, Nat.succ_pos, decide_true, Bool.true_and, List.getElem?_eq_getElem (show i < l.length by omega), Option.any_some, decide_eq_false_iff_not]
    omega
def apP (l : List acT) (i : Nat) (g : acT) : Option Int :=
 if !arL g then some 1 else if aCx (fun g => g.1) l i g then some 6 else none
def ajn (b : acz) : Int := (aeN (apP b.2.1) 0 b.2.1).getD 0
theorem aD6 {b : acz} (hr : ∀ g ∈ b.2.1, I64 g.2.2.2.2.1.1) (hn : b.2.1.length ≤ 1000) : aeH b = some (ajn b) := by
 unfold aeH akl
 refine Eq.trans (amw b.2.1 (apP b.2.1) some (some 0) (fun i a hi ha kn => ?_) (fun kn => ?_)) ?_
 ·try dsimp only
  unfold af7
  rw [aco hi, aci ha, aOU (hr a (List.mem_of_getElem? ha)), ab2]
  unfold apP
  cases hg : arL a with
  | false => simp
  | true =>
    simp only [Bool.not_true, acM, Bool.false_eq_true, if_false]
    rcases Nat.eq_zero_or_pos i with h0 | h0
    ·subst h0
     have : igt ((0 : Nat) : Int) 0 = false := by simp [igt]
     rw [acm this, ack hi (by omega)]
     simp [aCx]
    ·obtain ⟨q, hq⟩ := aIB hi h0
     have h1 : igt (i : Int) 0 = true := by simp [igt]; omega
     rw [acs h1, aRw h0 (by omega), aKj h0 hq]
     simp only [aCx, h0, decide_true, Bool.true_and, hq, Option.any_some]
     unfold ile
     cases h2 : decide (a.1 ≤ q.1) with
     | true => simp
     | false =>
       rw [acM, ack hi (by omega)]
       simp
 ·try dsimp only
  unfold af7
  rw [acK]
 ·unfold ajn
  cases aeN (apP b.2.1) 0 b.2.1 <;> rfl
def aIs (l : List acT) : List (Int × acT) := l.foldl (fun m g => azd (k := tI) (v := ach) g.1 g m) []
def agF (b : acz) : List (Int × acT) := aIs b.2.1
theorem aEl {b : acz} (hn : b.2.1.length ≤ 1000) : afd b = some (agF b) := by
 unfold afd asz
 refine ac3 b.2.1 (fun i => aIs (b.2.1.take i)) _ rfl (fun i a hi ha kn => ?_) (fun kn => ?_)
 ·try dsimp only
  unfold aiG
  rw [aco hi, aci ha, ack hi (by omega), take_succ ha]
  simp only [aIs, List.foldl_append, List.foldl_cons, List.foldl_nil]
 ·try dsimp only
  unfold aiG
  rw [acK, List.take_length]
  rfl
theorem aI4 (x y : Int) (g : acT) : ∀ m : List (Int × acT), al3 (k := tI) (v := ach) x (azd (k := tI) (v := ach) y g m) = if x = y then some g else al3 (k := tI) (v := ach) x m
 | [] => by
   unfold azd al3 aha al3
   by_cases h : x = y <;> simp [h]
 | e :: m => by
   unfold azd
   by_cases h : y = e.1
   ·have : aha tI y e.1 = true := by simp [aha, h]
    rw [this]
    try dsimp only
    unfold al3 aha
    by_cases h2 : x = y
    ·simp [h2]
    ·have : ¬ x = e.1 := fun h3 => h2 (h3.trans h.symm)
     simp [h2, this]
   ·have : aha tI y e.1 = false := by simp [aha, h]
    rw [this]
    try dsimp only
    have ih := aI4 x y g m
    unfold al3
    by_cases h2 : x = e.1
    ·have : aha tI x e.1 = true := by simp [aha, h2]
     rw [this]
     have : ¬ x = y := fun h3 => h (h3.symm.trans h2)
     simp [this]
    ·have : aha tI x e.1 = false := by simp [aha, h2]
     rw [this]
     exact ih
def afZ (b : acz) (id : Int) : Option acT := b.2.1.find? fun g => g.1 == id
theorem aLF (x : Int) (l : List acT) : al3 (k := tI) (v := ach) x (aIs l) = l.reverse.find? fun g => g.1 == x := by
 unfold aIs
 rw [← List.foldr_reverse]
 induction l.reverse with
 | nil => rfl
 | cons g t ih =>
   rw [List.foldr_cons, aI4, ih, List.find?_cons]
   by_cases h : x = g.1
   ·simp [h]
   ·have : (g.1 == x) = false := by simp; exact fun h2 => h h2.symm
    simp [h, this]
theorem aKw {l : List acT} (h : l.Pairwise fun a b => a.1 < b.1) (x : Int) : l.reverse.find? (fun g => g.1 == x) = l.find? fun g => g.1 == x := by
 induction l with
 | nil => rfl
 | cons g t ih =>
   rw [List.pairwise_cons] at h
   rw [List.reverse_cons, List.find?_append, ih h.2, List.find?_cons]
   by_cases hx : g.1 = x
   ·have : t.find? (fun g => g.1 == x) = none := List.find?_eq_none.2 fun y hy => by have : g.1 < y.1 := h.1 y hy; simp; omega
    rw [this]; simp [hx]
   ·have : (g.1 == x) = false := by simp [hx]
    simp [this]
theorem ags {b : acz} (h : b.2.1.Pairwise fun a b => a.1 < b.1) (x : Int) : al3 (k := tI) (v := ach) x (agF b) = afZ b x := by
 unfold agF afZ
 rw [aLF, aKw h]
def ahp (s : List (Int × acT)) (id day : Int) : Int :=
 match al3 (k := tI) (v := ach) id s with
 | some g => if day < g.2.1 then 4 else 0
 | none => 5
theorem aLH (s : List (Int × acT)) (id day : Int) : afX s id day = some (ahp s id day) := by
 unfold afX alK ahp
 cases h : al3 (k := tI) (v := ach) id s with
 | none => simp only [aH8, h]
 | some g =>
   simp only [aH8, h]
   rw [adM]
   by_cases h2 : day < g.2.1 <;> simp [h2]
def aPu (s : List (Int × acT)) (id day : Int) : Int := if !aLc day then 1 else ahp s id day
theorem aIJ (s : List (Int × acT)) (id day : Int) : adO id day s = some (aPu s id day) := by
 unfold adO asB aPu
 rw [aHw, ab2, aLH, ab2]
 cases aLc day <;> rfl
def aBx (b : acz) (s : List (Int × acT)) (i : Nat) (l : ayi) : Int :=
 if !akD l.2.1 0 20000 then 1 else if !inP l.2.2 0 1048576 then 1 else if ahp s l.1 l.2.1.1 != 0 then ahp s l.1 l.2.1.1 else
 if (b.2.2.2.1.take i).any (fun x => x.1 == l.1 && (decide (x.2.1.1 ≤ l.2.1.2) && decide (l.2.1.1 ≤ x.2.1.2))) then 9 else
 if b.2.2.1.any (fun u => u.1 == l.1 && inP u.2 l.2.1.1 l.2.1.2) then 9 else 0
theorem aKG {b : acz} (hn : b.2.2.2.1.length ≤ 1000) (hu : b.2.2.1.length ≤ 1000) (s : List (Int × acT)) {i : Nat} {l : ayi} (hl : b.2.2.2.1[i]? = some l) : ae1 b s i = some (aBx b s i l) := by
 unfold ae1 anE aBx
 have hi : i < b.2.2.2.1.length := (List.getElem?_eq_some_iff.1 hl).1
 rw [aci hl, au8, ab2, aeX, ab2, aLH, ab2]
 cases akD l.2.1 0 20000 with
 | false => rfl
 | true =>
 cases inP l.2.2 0 1048576 with
 | false => rfl
 | true =>
 cases hm : (ahp s l.1 l.2.1.1 != 0) with
 | true =>
   have : ine (ahp s l.1 l.2.1.1) 0 = true := hm
   simp [this]
 | false =>
 have hm' : ine (ahp s l.1 l.2.1.1) 0 = false := hm
 have hg : ((ile (0 : Int) (i : Int)) && (ile (i : Int) (adx b.2.2.2.1))) = true := by simp [ile, adx]; omega
 simp only [Bool.not_true, acM, hm', Bool.false_eq_true, if_false]
 rw [adB hg, Int.toNat_natCast]
 have inner : ∀ (k : Int → Option Int), acl (fun (v : Int) kk => aeV b.2.2.1 (acv b.2.2.1) l.1 l.2.1.1 l.2.1.2 v (fun u => kk u) (fun z => ifb (ige z 0) (k 9) (k 0)) (fun _ => k 0)) (0 : Int) = if b.2.2.1.any (fun u => u.1 == l.1 && inP u.2 l.2.1.1 l.2.1.2) then k 9 else k 0 := by
  intro k
  refine afL b.2.2.1 _ (fun z => ifb (ige z 0) (k 9) (k 0)) (k 9) (k 0) (fun j => ?_) (fun j a hj ha kn => ?_) (fun kn => ?_)
  ·have : ige (j : Int) 0 = true := by simp [ige]
   rw [acs this]
  ·try dsimp only
   unfold aeV
   rw [aco hj, aci ha, aeX, ab2, ack hj (by omega)]
   cases h1 : (a.1 == l.1) with
   | false =>
     have : ieq a.1 l.1 = false := h1
     simp [this]
   | true =>
     have : ieq a.1 l.1 = true := h1
     rw [this]
     cases inP a.2 l.2.1.1 l.2.1.2 <;> simp
  ·try dsimp only
   unfold aeV
   rw [acK]
 rw [inner]
 refine Eq.trans (afL (b.2.2.2.1.take i) (fun x => x.1 == l.1 && (decide (x.2.1.1 ≤ l.2.1.2) && decide (l.2.1.1 ≤ x.2.1.2))) (fun z => ifb (ige z 0) (some 9) (if b.2.2.1.any (fun u => u.1 == l.1 && inP u.2 l.2.1.1 l.2.1.2) then some 9 else some 0)) (some 9) (if b.2.2.1.any (fun u => u.1 == l.1 && inP u.2 l.2.1.1 l.2.1.2) then some 9 else some 0) (fun j => ?_) (fun j a hj ha kn => ?_) (fun kn => ?_)) ?_
 ·have : ige (j : Int) 0 = true := by simp [ige]
  rw [acs this]
 ·try dsimp only
  unfold agV
  have hj' : j ≤ 1000 := by rw [List.length_take] at hj; omega
  rw [aco hj, aci ha, ack hj (by rw [List.length_take]; omega)]
  cases h1 : (a.1 == l.1) with
  | false =>
    have : ieq a.1 l.1 = false := h1
    simp [this]
  | true =>
    have : ieq a.1 l.1 = true := h1
    rw [this]
    cases h2 : decide (a.2.1.1 ≤ l.2.1.2) <;> cases h3 : decide (l.2.1.1 ≤ a.2.1.2) <;> simp [ile, h2, h3, adM] <;> simp_all
 ·try dsimp only
  unfold agV
  rw [acK]
 ·cases List.any (b.2.2.2.1.take i) _ <;> cases b.2.2.1.any _ <;> rfl
end Go.Proofs.ZzM
end
noncomputable section
namespace Go.Proofs.ZzM
open Go Go.Am
theorem aR5 {l : List Int} (hn : l.length ≤ 1000000) (x : Int) : agy l x = some (match l.findIdx? (· == x) with | some j => (j : Int) | none => -1) := by
 unfold agy aib
 refine Eq.trans (afT l (· == x) some (some (-1)) (fun i a hi ha kn => ?_) (fun kn => ?_)) ?_
 ·try dsimp only
  unfold afk
  rw [aco hi, aci ha, ack hi (by omega), adM]
  by_cases h : x = a
  ·subst h; simp [ieq]
  ·have h2 : ¬ a = x := fun e => h e.symm
   simp [ieq, h, h2]
 ·try dsimp only
  unfold afk
  rw [acK]
 ·cases l.findIdx? (· == x) <;> rfl
theorem ajd {l : List Int} (hn : l.length ≤ 1000000) (x : Int) : adu l x = some (l.contains x) := by
 unfold adu agE
 rw [aR5 hn, ab2]
 congr 1
 cases h : l.findIdx? (· == x) with
 | none =>
   have : l.contains x = false := by
    rw [Bool.eq_false_iff]
    intro hc
    have := List.findIdx?_eq_none_iff.1 h x (by simpa using hc)
    simp at this
   rw [this]; rfl
 | some j =>
   obtain ⟨hj, hp, _⟩ := List.findIdx?_eq_some_iff_getElem.1 h
   have : l.contains x = true := by
    have h2 : l[j] = x := by simpa using hp
    rw [← h2]; simp
   rw [this]
   simp [ige]
def adb (a b : List Int) : List Int := a.filter fun x => !b.contains x
theorem alN {a b : List Int} (ha : a.length ≤ 1000000) (hb : b.length ≤ 1000000) : aer a b = some (adb a b) := by
 unfold aer aG5
 rw [acp (by omega), Am.iff_true]
 have second : ∀ z : Nat, z < a.length → adb (a.take z) b = a.take z → b.contains (a[z]?.getD 0) = true →
  acl (fun (v13 : (Val (.pair tI (.pair tI (.slice tI))))) kk17 => ag9 b v13.1 v13.2.1 v13.2.2 (fun u14 u15 u16 => kk17 (u14, u15, u16)) (fun z12 => acU ((ile (0 : Int) z12.1) && (ile z12.1 (adx z12.2))) (acU ((ile (0 : Int) z12.1) && (ile z12.1 (adx (List.take (Int.toNat z12.1) z12.2 ++ List.replicate (List.length z12.2 - (Int.toNat z12.1)) (0 : Int) ++ List.drop ((Int.toNat z12.1) + (List.length z12.2 - (Int.toNat z12.1))) z12.2)))) (some (List.take (Int.toNat z12.1) (List.drop 0 (List.take (Int.toNat z12.1) z12.2 ++ List.replicate (List.length z12.2 - (Int.toNat z12.1)) (0 : Int) ++ List.drop ((Int.toNat z12.1) + (List.length z12.2 - (Int.toNat z12.1))) z12.2))))))) ((z : Int), ((z : Int) + 1), a) = some (adb a b) := by
  intro z hz hp hc
  refine afn (fun x : Int × Int × List Int => ∃ i j : Nat, x.1 = i ∧ x.2.1 = j ∧ i < j ∧ j ≤ a.length ∧ x.2.2.length = a.length ∧ x.2.2.take i = adb (a.take j) b ∧ x.2.2.drop j = a.drop j) (fun x => a.length - x.2.1.toNat) ?_
   ⟨z, z + 1, rfl, by simp, by omega, by omega, rfl, ?_, rfl⟩
  ·rintro ⟨x1, x2, s⟩ ⟨i, j, h1, h2, hij, hja, hl, ht, hd⟩
   simp only at h1 h2 hl ht hd
   subst h1 h2
   rcases Nat.lt_or_ge j a.length with hj | hj
   ·refine .inr ?_
    have hsj : s[j]? = some a[j] := by
     have h3 : (s.drop j)[0]? = (a.drop j)[0]? := by rw [hd]
     rw [List.getElem?_drop, List.getElem?_drop] at h3
     simpa [List.getElem?_eq_getElem hj] using h3
    have hjs : j < s.length := by omega
    have hta : adb (a.take (j + 1)) b = adb (a.take j) b ++ if b.contains a[j] then [] else [a[j]] := by
     rw [take_succ (List.getElem?_eq_getElem hj), adb, adb, List.filter_append]
     congr 1
     cases h : b.contains a[j] with
     | true => simp only [List.filter_cons, h, Bool.not_true, Bool.false_eq_true, if_false, List.filter_nil, if_true]
     | false => simp only [List.filter_cons, h, Bool.not_false, Bool.false_eq_true, if_false, List.filter_nil, if_true]
    cases h : b.contains a[j] with
    | true =>
      refine ⟨(i, (j : Int) + 1, s), ⟨i, j + 1, rfl, by simp, by omega, by omega, hl, ?_, ?_⟩, by simp; omega, fun kn => ?_⟩
      ·rw [hta, h]; simpa using ht
      ·have := congrArg (List.drop 1) hd
       simpa [List.drop_drop, Nat.add_comm] using this
      ·try dsimp only
       unfold ag9
       rw [aco hjs, afY hjs, aev hsj, ajd hb, ab2, h]
       simp only [Bool.not_true, acM]
       rw [ack hjs (by omega)]
    | false =>
      have his : i < s.length := by omega
      refine ⟨((i : Int) + 1, (j : Int) + 1, s.set i a[j]), ⟨i + 1, j + 1, by simp, by simp, by omega, by omega, by simpa using hl, ?_, ?_⟩, by simp; omega, fun kn => ?_⟩
      ·show List.take (i + 1) (s.set i a[j]) = _
       rw [hta, h, List.take_succ, List.getElem?_set, List.take_set_of_le (Nat.le_refl i), ht]
       simp [his]
      ·show List.drop (j + 1) (s.set i a[j]) = _
       rw [List.drop_set_of_lt (by omega)]
       have := congrArg (List.drop 1) hd
       simpa [List.drop_drop, Nat.add_comm] using this
      ·try dsimp only
       unfold ag9
       rw [aco hjs, afY hjs, aev hsj, ajd hb, ab2, h]
       simp only [Bool.not_false, ad5]
       rw [afY his, aev (List.getElem?_eq_getElem his), ack his (by omega), ack hjs (by omega), Int.toNat_natCast]
   ·refine .inl fun kn => ?_
    have hje : j = s.length := by omega
    try dsimp only
    unfold ag9
    rw [hje, acK]
    dsimp only
    have g1 : ((ile (0 : Int) (i : Int)) && (ile (i : Int) (adx s))) = true := by simp [ile, adx]; omega
    rw [adB g1]
    have g2 : ((ile (0 : Int) (i : Int)) && (ile (i : Int) (adx (List.take (Int.toNat (i : Int)) s ++ List.replicate (List.length s - (Int.toNat (i : Int))) (0 : Int) ++ List.drop ((Int.toNat (i : Int)) + (List.length s - (Int.toNat (i : Int)))) s)))) = true := by
     simp [ile, adx]; omega
    rw [adB g2, Int.toNat_natCast, List.drop_zero, List.append_assoc, List.take_append_of_le_length (by simp; omega), List.take_take, Nat.min_self, ht]
    rw [List.take_of_length_le (by omega)]
  ·show List.take z a = adb (a.take (z + 1)) b
   have hz' : a[z]? = some a[z] := List.getElem?_eq_getElem hz
   rw [take_succ hz', adb, List.filter_append]
   rw [hz'] at hc
   simp only [Option.getD_some] at hc
   have : List.filter (fun x => !b.contains x) [a[z]] = [] := by simp only [List.filter_cons, hc, Bool.not_true, Bool.false_eq_true, if_false, List.filter_nil]
   rw [this, List.append_nil]
   exact hp.symm
 refine Eq.trans (afT a (fun x => b.contains x) (fun z4 => ifb (ieq z4 (-1 : Int)) (some a) (ck (z4 + (1 : Int)) fun n5 => acl (fun (v13 : (Val (.pair tI (.pair tI (.slice tI))))) kk17 => ag9 b v13.1 v13.2.1 v13.2.2 (fun u14 u15 u16 => kk17 (u14, u15, u16)) (fun z12 => acU ((ile (0 : Int) z12.1) && (ile z12.1 (adx z12.2))) (acU ((ile (0 : Int) z12.1) && (ile z12.1 (adx (List.take (Int.toNat z12.1) z12.2 ++ List.replicate (List.length z12.2 - (Int.toNat z12.1)) (0 : Int) ++ List.drop ((Int.toNat z12.1) + (List.length z12.2 - (Int.toNat z12.1))) z12.2)))) (some (List.take (Int.toNat z12.1) (List.drop 0 (List.take (Int.toNat z12.1) z12.2 ++ List.replicate (List.length z12.2 - (Int.toNat z12.1)) (0 : Int) ++ List.drop ((Int.toNat z12.1) + (List.length z12.2 - (Int.toNat z12.1))) z12.2))))))) (z4, n5, a))) (some a) (fun i x hi hx kn => ?_) (fun kn => ?_)) ?_
 ·try dsimp only
  unfold anB
  rw [aco hi, afY hi, aev hx, ajd hb, ab2, ack hi (by omega), adM]
 ·try dsimp only
  unfold anB
  rw [acK]
 ·cases h : a.findIdx? (fun x => b.contains x) with
  | none =>
    have : adb a b = a := by
     rw [adb, List.filter_eq_self]
     intro x hx
     have := List.findIdx?_eq_none_iff.1 h x hx
     simpa using this
    rw [this]
  | some z =>
    obtain ⟨hz, hc, hlt⟩ := List.findIdx?_eq_some_iff_getElem.1 h
    have h1 : ieq (z : Int) (-1) = false := by simp [ieq]
    try dsimp only
    rw [acm h1, ack hz (by omega)]
    refine second z hz ?_ ?_
    ·rw [adb, List.filter_eq_self]
     intro x hx
     obtain ⟨j, hj, rfl⟩ := List.mem_iff_getElem.1 hx
     rw [List.length_take] at hj
     rw [List.getElem_take]
     have := hlt j (by omega)
     simpa using this
    ·rw [List.getElem?_eq_getElem hz]; exact hc
def ayn (l : List Int) (i : Nat) (a : Int) : Option Bool := if !inP a 1 1099511627776 then some false else if aCx (fun x => x) l i a then some false else none
def ajx (l : List Int) : Bool := match aeN (ayn l) 0 l with | some _ => false | none => decide (l.length ≤ 6)
theorem au6 {l : List Int} (hn : l.length ≤ 1000000) : aiu l = some (ajx l) := by
 unfold aiu awD
 refine Eq.trans (amw l (ayn l) some (some (decide (l.length ≤ 6))) (fun i a hi ha kn => ?_) (fun kn => ?_)) ?_
 ·try dsimp only
  unfold ajA
  rw [aco hi, aci ha, aeX, ab2]
  unfold ayn
  cases inP a 1 1099511627776 with
  | false => rfl
  | true =>
    simp only [Bool.not_true, acM, Bool.false_eq_true, if_false]
    rcases Nat.eq_zero_or_pos i with h0 | h0
    ·subst h0
     have : igt ((0 : Nat) : Int) 0 = false := by simp [igt]
     rw [acm this, ack hi (by omega)]
     simp [aCx]
    ·obtain ⟨q, hq⟩ := aIB hi h0
     have h1 : igt (i : Int) 0 = true := by simp [igt]; omega
     rw [acs h1, aRw h0 (by omega), aKj h0 hq]
     simp only [aCx, h0, decide_true, Bool.true_and, hq, Option.any_some]
     unfold ile
     cases h2 : decide (a ≤ q) with
     | true => rfl
     | false =>
       rw [acM, ack hi (by omega)]
       rfl
 ·try dsimp only
  unfold ajA
  rw [acK, acB]
  simp [ile]
  omega
 ·have hb : ∀ x, aeN (ayn l) 0 l = some x → x = false := by
   have : ∀ (m : List Int) (j : Nat) (x : Bool), aeN (ayn l) j m = some x → x = false := by
    intro m
    induction m with
    | nil => intro j x h; cases h
    | cons a m ih =>
      intro j x h
      unfold aeN at h
      cases hp : ayn l j a with
      | none => rw [hp] at h; exact ih _ _ h
      | some y =>
        rw [hp] at h
        cases h
        unfold ayn at hp
        split at hp
        ·cases hp; rfl
        ·split at hp
         ·cases hp; rfl
         ·cases hp
   exact this l 0
  unfold ajx
  cases h : aeN (ayn l) 0 l with
  | none => rfl
  | some x => rw [hb x h]
theorem aIF (l : List Int) : ajx l = true ↔ (∀ x ∈ l, 1 ≤ x ∧ x ≤ 1099511627776) ∧ l.Pairwise (· < ·) ∧ l.length ≤ 6 := by
 have h0 : aeN (ayn l) 0 l = none ↔ (∀ x ∈ l, 1 ≤ x ∧ x ≤ 1099511627776) ∧ l.Pairwise (· < ·) := by
  rw [ait, ← aN3 (fun x => x) l]
  constructor
  ·intro h
   have h1 : ∀ (j : Nat) (a : Int), l[j]? = some a → inP a 1 1099511627776 = true ∧ aCx (fun x => x) l j a = false := by
    intro j a ha
    have := h j a ha
    rw [Nat.zero_add] at this
    unfold ayn at this
    split at this
    ·cases this
    ·split at this
     ·cases this
     ·rename_i h1 h2
      exact ⟨by simpa using h1, by simpa using h2⟩
   refine ⟨fun x hx => ?_, fun i a ha => (h1 i a ha).2⟩
   obtain ⟨j, hj, rfl⟩ := List.mem_iff_getElem.1 hx
   have := (h1 j l[j] (List.getElem?_eq_getElem hj)).1
   simpa [inP] using this
  ·rintro ⟨h1, h2⟩ j a ha
   rw [Nat.zero_add]
   have h3 := h1 a (List.mem_of_getElem? ha)
   have : inP a 1 1099511627776 = true := by simpa [inP] using h3
   simp [ayn, this, h2 j a ha]
 unfold ajx
 cases h : aeN (ayn l) 0 l with
 | none =>
   obtain ⟨h1, h2⟩ := h0.1 h
   simp only [decide_eq_true_eq]
   exact ⟨fun h3 => ⟨h1, h2, h3⟩, fun h3 => h3.2.2⟩
 | some x =>
   constructor
   ·intro h2; cases h2
   ·rintro ⟨h1, h2, h3⟩
    rw [h0.2 ⟨h1, h2⟩] at h; cases h
theorem aR8 {a b : List Int} (ha : a.length ≤ 1000000) (hb : b.length ≤ 1000000) : acF [a, b] = some (a ++ b) := by
 have hk : ∀ n : Nat, n ≤ 4000000 → ∀ (f : Int → Option (List Int)), ck (n : Int) f = f n := fun n h f => acq (by omega) (by omega) f
 have second : acl (fun (v9 : (Val (.pair tI (.slice tI)))) kk12 => acI [a, b] (acv [a, b]) v9.1 v9.2 (fun u10 u11 => kk12 (u10, u11)) (fun z8 => some z8)) ((0 : Int), ([] : List Int)) = some (a ++ b) := by
  refine ac3 [a, b] (fun i => ([a, b].take i).flatten) (some (a ++ b)) (f := fun (v9 : (Val (.pair tI (.slice tI)))) kk12 => acI [a, b] (acv [a, b]) v9.1 v9.2 (fun u10 u11 => kk12 (u10, u11)) (fun z8 => some z8)) rfl (fun i x hi hx kn => ?_) (fun kn => ?_)
  ·try dsimp only
   unfold acI
   rw [aco hi, aci hx, ack hi (by simp), take_succ hx, List.flatten_append]
   have : acO ((List.take i [a, b]).flatten.length + x.length) = true := by
    refine acp ?_
    have h1 : x.length ≤ 1000000 := by
     have := List.mem_of_getElem? hx
     simp at this
     rcases this with rfl | rfl <;> assumption
    have h2 : (List.take i [a, b]).flatten.length ≤ 2000000 := by
     have : i = 0 ∨ i = 1 := by simp at hi; omega
     rcases this with rfl | rfl <;> simp <;> omega
    omega
   rw [adB this]
   simp
  ·try dsimp only
   unfold acI
   rw [acK]
   simp
 unfold acF af5
 refine afn (fun x : Int × Int => ∃ i : Nat, i ≤ 2 ∧ x = ((([a, b].take i).flatten.length : Int), (i : Int))) (fun x => 2 - x.2.toNat) ?_ ⟨0, by omega, rfl⟩
 rintro x ⟨i, hi, rfl⟩
 rcases Nat.lt_or_ge i 2 with h2 | h2
 ·refine .inr ⟨((([a, b].take (i + 1)).flatten.length : Int), (i : Int) + 1), ⟨i + 1, h2, by simp⟩, by simp; omega, fun kn => ?_⟩
  have hi' : i < [a, b].length := h2
  obtain ⟨x, hx⟩ : ∃ x, [a, b][i]? = some x := ⟨_, List.getElem?_eq_getElem hi'⟩
  have hxl : x.length ≤ 1000000 := by
   have := List.mem_of_getElem? hx
   simp at this
   rcases this with rfl | rfl <;> assumption
  have h3 : (List.take i [a, b]).flatten.length ≤ 2000000 := by
   have : i = 0 ∨ i = 1 := by omega
   rcases this with rfl | rfl <;> simp <;> omega
  try dsimp only
  unfold adD
  rw [aco hi', aci hx, acB]
  have e1 : (((List.take i [a, b]).flatten.length : Int) + (x.length : Int)) = ((List.take i [a, b]).flatten.length + x.length : Nat) := by omega
  rw [e1, hk _ (by omega)]
  have : ilt ((((List.take i [a, b]).flatten.length + x.length : Nat)) : Int) 0 = false := by simp [ilt]; omega
  rw [acm this, ack hi' (by simp), take_succ hx]
  simp
 ·refine .inl fun kn => ?_
  obtain rfl : i = 2 := by omega
  try dsimp only
  unfold adD
  rw [show ((2 : Nat) : Int) = (([a, b].length : Nat) : Int) from rfl, acK]
  have e1 : ((List.take 2 [a, b]).flatten.length : Int) = ((a.length + b.length : Nat) : Int) := by simp
  have e2 : ilt (((a.length + b.length : Nat)) : Int) 0 = false := by simp [ilt]; omega
  rw [e1]
  dsimp only
  rw [acm e2, Int.sub_zero, hk _ (by omega)]
  rcases Nat.eq_zero_or_pos (a.length + b.length) with h0 | h0
  ·have : igt (((a.length + b.length : Nat)) : Int) 0 = false := by simp [igt]; omega
   rw [acm this]
   exact second
  ·have : igt (((a.length + b.length : Nat)) : Int) 0 = true := by simp [igt]; omega
   rw [acs this]
   have : ((ilt (0 : Int) (((a.length + b.length : Nat)) : Int)) && (acO (Int.toNat (((a.length + b.length : Nat)) : Int)))) = true := by
    rw [Int.toNat_natCast, acp (by omega)]
    simp [ilt]; omega
   rw [adB this]
   have : ile 0 (adx (List.replicate (Int.toNat (((a.length + b.length : Nat)) : Int)) (0 : Int))) = true := by simp [ile]
   rw [adB this]
   exact second
def aqX (b : acz) (id day : Int) : Option ayi := b.2.2.2.1.find? fun l => l.1 == id && inP day l.2.1.1 l.2.1.2
theorem aHE {α : Type} (p : α → Bool) : ∀ l : List α, l.find? p = (match l.findIdx? p with | some j => l[j]? | none => none)
 | [] => rfl
 | a :: l => by
   rw [List.find?_cons, List.findIdx?_cons]
   cases h : p a with
   | true => simp
   | false =>
     simp only [Bool.false_eq_true, if_false]
     rw [aHE p l]
     cases l.findIdx? p <;> simp
theorem aU1 {b : acz} (hn : b.2.2.2.1.length ≤ 1000) (id day : Int) : aqB b id day = some (match aqX b id day with | some l => (l, true) | none => ((0, (0, 0), 0), false)) := by
 unfold aqB aHf
 refine Eq.trans (afT b.2.2.2.1 (fun l => l.1 == id && inP day l.2.1.1 l.2.1.2) (fun z5 => ifb (ilt z5 (0 : Int)) (some (((0 : Int), ((0 : Int), (0 : Int)), (0 : Int)), false)) (adG b.2.2.2.1 z5 fun e6 => some (e6, true))) (some ((0, (0, 0), 0), false)) (fun i a hi ha kn => ?_) (fun kn => ?_)) ?_
 ·try dsimp only
  unfold anF
  rw [aco hi, aci ha, aeX, ab2, ack hi (by omega)]
  cases h1 : (a.1 == id) with
  | false =>
    have : ieq a.1 id = false := h1
    simp [this]
  | true =>
    have : ieq a.1 id = true := h1
    rw [this]
    cases inP day a.2.1.1 a.2.1.2 <;> simp
 ·try dsimp only
  unfold anF
  rw [acK]
 ·unfold aqX
  rw [aHE]
  cases h : b.2.2.2.1.findIdx? (fun l => l.1 == id && inP day l.2.1.1 l.2.1.2) with
  | none => rfl
  | some j =>
    obtain ⟨hj, _, _⟩ := List.findIdx?_eq_some_iff_getElem.1 h
    have : ilt (j : Int) 0 = false := by simp [ilt]
    try dsimp only
    rw [acm this, aci (List.getElem?_eq_getElem hj), List.getElem?_eq_getElem hj]
end Go.Proofs.ZzM
end
noncomputable section
namespace Go.Proofs.ZzM
open Go Go.Am
def aUG (a : Int) : List Int → List Int
 | [] => [a]
 | b :: t => if a ≤ b then a :: b :: t else b :: aUG a t
def aEY : List Int → List Int
 | [] => []
 | a :: t => aUG a (aEY t)
def aoF (p : Option Int) : List Int → List Int
 | [] => []
 | a :: t => if p = some a then aoF (some a) t else a :: aoF (some a) t
def aH7 (l : List Int) : List Int := aoF none (aEY l)
theorem aBH (a : Int) : ∀ l, (aUG a l).Perm (a :: l)
 | [] => List.Perm.refl _
 | b :: t => by
   unfold aUG
   split
   ·exact List.Perm.refl _
   ·exact ((aBH a t).cons b).trans (List.Perm.swap a b t)
theorem anL : ∀ l, (aEY l).Perm l
 | [] => List.Perm.refl _
 | a :: t => (aBH a _).trans ((anL t).cons a)
theorem aBG (a : Int) : ∀ {l : List Int}, l.Pairwise (· ≤ ·) → (aUG a l).Pairwise (· ≤ ·)
 | [], _ => by simp [aUG]
 | b :: t, h => by
   rw [List.pairwise_cons] at h
   unfold aUG
   split
   ·rename_i hab
    refine List.pairwise_cons.2 ⟨fun x hx => ?_, List.pairwise_cons.2 h⟩
    rcases List.mem_cons.1 hx with rfl | hx
    ·exact hab
    ·have := h.1 x hx; omega
   ·rename_i hab
    refine List.pairwise_cons.2 ⟨fun x hx => ?_, aBG a h.2⟩
    rcases List.mem_cons.1 ((aBH a t).mem_iff.1 hx) with rfl | hx
    ·omega
    ·exact h.1 x hx
theorem anK : ∀ l : List Int, (aEY l).Pairwise (· ≤ ·)
 | [] => List.Pairwise.nil
 | a :: t => aBG a (anK t)
theorem aSr (l : List Int) : asZ l = aEY l := by
 have h1 : (asZ l).Pairwise (· ≤ ·) := by
  have := List.pairwise_mergeSort (le := fun a b : Int => decide (a ≤ b)) (fun a b c h1 h2 => by simp at *; omega) (fun a b => by simp; omega) l
  exact this.imp fun h => by simpa using h
 exact List.Perm.eq_of_pairwise (le := (· ≤ ·)) (fun a b _ _ h1 h2 => by omega) h1 (anK l) ((List.mergeSort_perm l _).trans (anL l).symm)
theorem aEe (a : Int) : ∀ (l : List Int) (p : Option Int), aoF p (l ++ [a]) = aoF p l ++ (if (match l.getLast? with | some b => some b | none => p) = some a then [] else [a])
 | [], p => by simp only [List.nil_append, aoF, List.getLast?_nil]; rfl
 | b :: t, p => by
   have ih := aEe a t (some b)
   have e : (match (b :: t).getLast? with | some c => some c | none => p) = (match t.getLast? with | some c => some c | none => some b) := by
    cases t with
    | nil => rfl
    | cons c t =>
      rw [List.getLast?_cons_cons]
      cases h : (c :: t).getLast? with
      | none => simp at h
      | some x => rfl
   rw [e]
   simp only [List.cons_append, aoF, ih]
   split <;> simp
theorem arO (l : List Int) : ∀ m, m ≤ l.length → Lib.compactUpTo l.toArray m = aoF none (l.take m)
 | 0, _ => by simp [Lib.compactUpTo, aoF]
 | m + 1, h => by
   have hm : m < l.length := h
   rw [Lib.compactUpTo_succ, arO l m (by omega), take_succ (List.getElem?_eq_getElem hm), aEe]
   congr 1
   have e1 : l.toArray[m]! = l[m] := by simp [getElem!_pos, hm]
   rw [e1]
   unfold Lib.keeps
   rw [e1]
   cases m with
   | zero => simp
   | succ m =>
     have hm' : m < l.length := by omega
     have e2 : l.toArray[m + 1 - 1]! = l[m] := by simp [getElem!_pos, hm']
     rw [e2]
     have e3 : (l.take (m + 1)).getLast? = some l[m] := by rw [take_succ (List.getElem?_eq_getElem hm'), List.getLast?_append]; rfl
     rw [e3]
     by_cases hne : l[m + 1] = l[m]
     ·simp [hne]
     ·have : ¬ l[m] = l[m + 1] := fun h => hne h.symm
      simp [hne, this]
theorem aMx (l : List Int) : aqE l = aoF none l := by
 unfold aqE Lib.compact
 rw [arO l l.length (Nat.le_refl _), List.take_length]
theorem aPW (l : List Int) : aqE (asZ l) = aH7 l := by rw [aSr, aMx]; rfl
theorem aIh : ∀ {l : List Int} {p : Option Int} {x : Int}, p ≠ some x → (x ∈ aoF p l ↔ x ∈ l)
 | [], _, _, _ => Iff.rfl
 | a :: t, p, x, hp => by
   unfold aoF
   by_cases hx : x = a
   ·subst hx
    rw [if_neg hp]; simp
   ·have ih := aIh (l := t) (p := some a) (x := x) (fun e => hx (by cases e; rfl))
    split <;> simp [ih, hx]
theorem aM0 : ∀ {l : List Int} {p : Option Int}, l.Pairwise (· ≤ ·) → (∀ q, p = some q → ∀ x ∈ l, q ≤ x) → (aoF p l).Pairwise (· < ·) ∧ ∀ q, p = some q → ∀ x ∈ aoF p l, q < x
 | [], p, _, _ => ⟨List.Pairwise.nil, fun _ _ _ h => by cases h⟩
 | a :: t, p, h, hp => by
   rw [List.pairwise_cons] at h
   obtain ⟨i1, i2⟩ := aM0 (l := t) (p := some a) h.2 (fun q hq x hx => by cases hq; exact h.1 x hx)
   unfold aoF
   split
   ·rename_i e
    exact ⟨i1, fun q hq x hx => by rw [e] at hq; cases hq; exact i2 _ rfl x hx⟩
   ·rename_i e
    refine ⟨List.pairwise_cons.2 ⟨fun x hx => i2 _ rfl x hx, i1⟩, fun q hq x hx => ?_⟩
    have := hp q hq a (by simp)
    have hne : q ≠ a := fun h => e (by rw [hq, h])
    rcases List.mem_cons.1 hx with rfl | hx
    ·omega
    ·have := i2 _ rfl x hx; omega
theorem aqe {l : List Int} {x : Int} : x ∈ aH7 l ↔ x ∈ l := by
 unfold aH7
 rw [aIh (by simp), (anL l).mem_iff]
theorem azE (l : List Int) : (aH7 l).Pairwise (· < ·) := (aM0 (anK l) (fun q hq => by cases hq)).1
theorem aIi : ∀ (l : List Int) (p : Option Int), (aoF p l).length ≤ l.length
 | [], _ => Nat.le_refl _
 | a :: t, p => by
   have := aIi t (some a)
   unfold aoF
   split <;> simp <;> omega
theorem ay7 (l : List Int) : (aH7 l).length ≤ l.length := by
 unfold aH7
 have := aIi (aEY l) none
 rwa [(anL l).length_eq] at this
theorem aRV {l m : List Int} (hl : l.Pairwise (· < ·)) (hm : m.Pairwise (· < ·)) (h : ∀ x, x ∈ l ↔ x ∈ m) : l = m := by
 induction l generalizing m with
 | nil =>
   cases m with
   | nil => rfl
   | cons a t => have := (h a).2 (by simp); cases this
 | cons a t ih =>
   rw [List.pairwise_cons] at hl
   cases m with
   | nil => have := (h a).1 (by simp); cases this
   | cons b u =>
     rw [List.pairwise_cons] at hm
     have hab : a = b := by
      rcases List.mem_cons.1 ((h a).1 (by simp)) with h1 | h1
      ·exact h1
      ·rcases List.mem_cons.1 ((h b).2 (by simp)) with h2 | h2
       ·exact h2.symm
       ·have := hm.1 a h1; have := hl.1 b h2; omega
     subst hab
     rw [ih hl.2 hm.2 fun x => ?_]
     constructor
     ·intro hx
      rcases List.mem_cons.1 ((h x).1 (by simp [hx])) with h1 | h1
      ·have := hl.1 x hx; omega
      ·exact h1
     ·intro hx
      rcases List.mem_cons.1 ((h x).2 (by simp [hx])) with h1 | h1
      ·have := hm.1 x hx; omega
      ·exact h1
end Go.Proofs.ZzM
end
noncomputable section
namespace Go.Proofs.ZzM
open Go Go.Am
def as5 (b : acz) (s : List (Int × acT)) (c : Cmp) : Int :=
 if (c.2.2.1 ++ c.2.2.2.1).any (fun id => ahp s id c.2.1 == 5) then 5 else
 if (c.2.2.1 ++ c.2.2.2.1).any (fun id => ahp s id c.2.1 == 4) then 4 else
 if (c.2.2.1 ++ c.2.2.2.1).any (fun id => (aqX b id c.2.1).isSome) then 9 else
 if 1 < (adb c.2.2.1 c.2.2.2.1).length then 1 else if 1 < (adb c.2.2.2.1 c.2.2.1).length then 1 else
 if (adb c.2.2.1 c.2.2.2.1).length + (adb c.2.2.2.1 c.2.2.1).length = 0 then 1 else 0
def aOB (c : Cmp) : Bool :=
 inP c.1 1 1099511627776 && (aLc c.2.1 && (inP c.2.2.2.2.1 (-1125899906842624) 1125899906842624 && (inP c.2.2.2.2.2.1 0 1073741824 && (akD c.2.2.2.2.2.2 (-10000) 10000 && (ajx c.2.2.1 && ajx c.2.2.2.1)))))
def aln (b : acz) (s : List (Int × acT)) (i : Nat) (c : Cmp) : Int :=
 if !aOB c then 1 else if (b.2.2.2.2.1.take i).any (fun x => x.1 == c.1) then 6 else as5 b s c
theorem aKc (a b : List Int) : (adb a b).length ≤ a.length := List.length_filter_le _ _
set_option maxHeartbeats 1000000 in
theorem aCg {b : acz} (hn : b.2.2.2.2.1.length ≤ 1000) (hl : b.2.2.2.1.length ≤ 1000) (s : List (Int × acT)) {i : Nat} {c : Cmp} (hA : c.2.2.1.length ≤ 1000) (hB : c.2.2.2.1.length ≤ 1000)
 (hc : b.2.2.2.2.1[i]? = some c) : adS b s i = some (aln b s i c) := by
 have hi : i < b.2.2.2.2.1.length := (List.getElem?_eq_some_iff.1 hc).1
 unfold adS ajk aln aOB
 rw [aci hc, aeX, ab2]
 cases inP c.1 1 1099511627776 with
 | false => rfl
 | true =>
 rw [aHw, ab2]
 cases aLc c.2.1 with
 | false => rfl
 | true =>
 rw [aeX, ab2]
 cases inP c.2.2.2.2.1 (-1125899906842624) 1125899906842624 with
 | false => rfl
 | true =>
 rw [aeX, ab2]
 cases inP c.2.2.2.2.2.1 0 1073741824 with
 | false => rfl
 | true =>
 rw [au8, ab2]
 cases akD c.2.2.2.2.2.2 (-10000) 10000 with
 | false => rfl
 | true =>
 rw [au6 (by omega), ab2]
 cases ajx c.2.2.1 with
 | false => rfl
 | true =>
 rw [au6 (by omega), ab2]
 cases ajx c.2.2.2.1 with
 | false => rfl
 | true =>
 have hg : ((ile (0 : Int) (i : Int)) && (ile (i : Int) (adx b.2.2.2.2.1))) = true := by simp [ile, adx]; omega
 simp only [Bool.not_true, acM, Bool.and_self, Bool.false_eq_true, if_false]
 rw [adB hg, Int.toNat_natCast]
 -- what comes behind the IDs
 have rest : (ab4 (acF ([c.2.2.1, c.2.2.2.1])) fun r12 => acl (fun (v36 : Int) kk38 => adZ s r12 (acv ([(5 : Int), (4 : Int)])) c.2.1 ([(5 : Int), (4 : Int)]) v36 (fun u37 => kk38 u37) (fun z23 => some z23) (fun _ => acl (fun (v33 : Int) kk35 => adY r12 (acv r12) b.1.1 b.1.2 b.2.1 b.2.2.1 b.2.2.2.1 b.2.2.2.2.1 b.2.2.2.2.2 c.2.1 v33 (fun u34 => kk35 u34) (fun z28 => some z28) (fun _ => ab4 (aer c.2.2.1 c.2.2.2.1) fun r30 => ab4 (aer c.2.2.2.1 c.2.2.1) fun r31 => ifb (igt (acv r30) (1 : Int)) (some (1 : Int)) (ifb (igt (acv r31) (1 : Int)) (some (1 : Int)) (ck ((acv r30) + (acv r31)) fun n32 => ifb (ieq n32 (0 : Int)) (some (1 : Int)) (some (0 : Int)))))) (0 : Int))) (0 : Int)) = some (as5 b s c) := by
  rw [aR8 (by omega) (by omega), ab2]
  have hall : (c.2.2.1 ++ c.2.2.2.1).length ≤ 2000 := by simp; omega
  have last : (ab4 (aer c.2.2.1 c.2.2.2.1) fun r30 => ab4 (aer c.2.2.2.1 c.2.2.1) fun r31 => ifb (igt (acv r30) (1 : Int)) (some (1 : Int)) (ifb (igt (acv r31) (1 : Int)) (some (1 : Int)) (ck ((acv r30) + (acv r31)) fun n32 => ifb (ieq n32 (0 : Int)) (some (1 : Int)) (some (0 : Int))))) =
   some (if 1 < (adb c.2.2.1 c.2.2.2.1).length then 1 else if 1 < (adb c.2.2.2.1 c.2.2.1).length then 1 else if (adb c.2.2.1 c.2.2.2.1).length + (adb c.2.2.2.1 c.2.2.1).length = 0 then 1 else 0) := by
   rw [alN (by omega) (by omega), ab2, alN (by omega) (by omega), ab2]
   have l1 := aKc c.2.2.1 c.2.2.2.1
   have l2 := aKc c.2.2.2.1 c.2.2.1
   rw [acB, acB, acq (by omega) (by omega)]
   by_cases c1 : 1 < (adb c.2.2.1 c.2.2.2.1).length
   ·rw [acs (by simp [igt]; omega), if_pos c1]
   rw [acm (by simp [igt]; omega), if_neg c1]
   by_cases c2 : 1 < (adb c.2.2.2.1 c.2.2.1).length
   ·rw [acs (by simp [igt]; omega), if_pos c2]
   rw [acm (by simp [igt]; omega), if_neg c2]
   by_cases c3 : (adb c.2.2.1 c.2.2.2.1).length + (adb c.2.2.2.1 c.2.2.1).length = 0
   ·rw [acs (by simp [ieq]; omega), if_pos c3]
   rw [acm (by simp [ieq]; omega), if_neg c3]
  refine Eq.trans (amw [(5 : Int), 4] (fun _ want => if (c.2.2.1 ++ c.2.2.2.1).any (fun id => ahp s id c.2.1 == want) then some want else none) some (some (if (c.2.2.1 ++ c.2.2.2.1).any (fun id => (aqX b id c.2.1).isSome) then 9 else if 1 < (adb c.2.2.1 c.2.2.2.1).length then 1 else if 1 < (adb c.2.2.2.1 c.2.2.1).length then 1 else if (adb c.2.2.1 c.2.2.2.1).length + (adb c.2.2.2.1 c.2.2.1).length = 0 then 1 else 0)) (fun j want hj hw kn => ?_) (fun kn => ?_)) ?_
  ·try dsimp only
   unfold adZ
   rw [aco hj, afY hj, aev hw]
   refine Eq.trans (afL (c.2.2.1 ++ c.2.2.2.1) (fun id => ahp s id c.2.1 == want) (fun _ => some want) (some want) (kn ((j : Int) + 1)) (fun _ => rfl) (fun k a hk ha kn' => ?_) (fun kn' => ?_)) ?_
   ·try dsimp only
    unfold afI
    rw [aco hk, aci ha, aLH, ab2, ack hk (by omega), adM]
   ·try dsimp only
    unfold afI
    rw [acK, ack hj (by simp)]
   ·cases List.any (c.2.2.1 ++ c.2.2.2.1) (fun id => ahp s id c.2.1 == want) <;> rfl
  ·try dsimp only
   unfold adZ
   rw [acK]
   refine Eq.trans (afL (c.2.2.1 ++ c.2.2.2.1) (fun id => (aqX b id c.2.1).isSome) (fun _ => some 9) (some 9) (some (if 1 < (adb c.2.2.1 c.2.2.2.1).length then 1 else if 1 < (adb c.2.2.2.1 c.2.2.1).length then 1 else if (adb c.2.2.1 c.2.2.2.1).length + (adb c.2.2.2.1 c.2.2.1).length = 0 then 1 else 0)) (fun _ => rfl) (fun k a hk ha kn' => ?_) (fun kn' => ?_)) ?_
   ·try dsimp only
    unfold adY
    have haw := aU1 hl a c.2.1
    rw [aco hk, aci ha, ack hk (by omega)]
    rw [show aqB ((b.1.1, b.1.2), b.2.1, b.2.2.1, b.2.2.2.1, b.2.2.2.2.1, b.2.2.2.2.2) a c.2.1 = aqB b a c.2.1 from rfl, haw, ab2]
    cases aqX b a c.2.1 <;> rfl
   ·try dsimp only
    unfold adY
    rw [acK, last]
   ·cases List.any (c.2.2.1 ++ c.2.2.2.1) (fun id => (aqX b id c.2.1).isSome) <;> rfl
  ·unfold as5 aeN aeN aeN
   try dsimp only
   cases List.any (c.2.2.1 ++ c.2.2.2.1) (fun id => ahp s id c.2.1 == 5) with
   | true => rfl
   | false =>
   cases List.any (c.2.2.1 ++ c.2.2.2.1) (fun id => ahp s id c.2.1 == 4) <;> rfl
 refine Eq.trans (afL (b.2.2.2.2.1.take i) (fun x => x.1 == c.1) (fun z11 => ifb (ige z11 (0 : Int)) (some 6) (some (as5 b s c))) (some 6) (some (as5 b s c)) (fun j => ?_) (fun j a hj ha kn => ?_) (fun kn => ?_)) ?_
 ·have : ige (j : Int) 0 = true := by simp [ige]
  rw [acs this]
 ·try dsimp only
  unfold afJ
  rw [rest, aco hj, aci ha, ack hj (by rw [List.length_take]; omega), adM]
 ·try dsimp only
  unfold afJ
  rw [acK, rest]
 ·cases List.any (b.2.2.2.2.1.take i) (fun x => x.1 == c.1) <;> rfl
def aMt (b : acz) (g : acT) : List Int :=
 [g.2.1] ++ (b.2.2.2.2.1.filter fun c => !(c.2.2.1.contains g.1 == c.2.2.2.1.contains g.1)).map (fun c => c.2.1) ++ (b.2.2.2.2.2.filter fun n => n.1 == g.1).map (fun n => n.2)
def acC (b : acz) (g : acT) : List Int := aH7 (aMt b g)
structure ahl (b : acz) : Prop where
 gauges : b.2.1.length ≤ 1000
 uses : b.2.2.1.length ≤ 1000
 loans : b.2.2.2.1.length ≤ 1000
 compares : b.2.2.2.2.1.length ≤ 1000
 looks : b.2.2.2.2.2.length ≤ 1000
 piles : ∀ c ∈ b.2.2.2.2.1, c.2.2.1.length ≤ 1000 ∧ c.2.2.2.1.length ≤ 1000
theorem aIp (l : List Int) : (asZ l).length = l.length := List.length_mergeSort l
theorem aKD {b : acz} (hs : ahl b) (g : acT) : (aMt b g).length ≤ 2001 := by
 have h1 := hs.compares
 have h2 := hs.looks
 have h3 := List.length_filter_le (fun c : Cmp => !(c.2.2.1.contains g.1 == c.2.2.2.1.contains g.1)) b.2.2.2.2.1
 have h4 := List.length_filter_le (fun n : Int × Int => n.1 == g.1) b.2.2.2.2.2
 simp only [aMt, List.length_append, List.length_map, List.length_singleton]
 omega
theorem aRk {b : acz} (hs : ahl b) (g : acT) : ajF b g = some (acC b g) := by
 unfold ajF aHd
 have hr := aKD hs g
 have hd : (acC b g).length ≤ 2001 := by
  unfold acC
  have := ay7 (aMt b g)
  omega
 have hcl := hs.compares
 have hll := hs.looks
 refine ac3 b.2.2.2.2.1 (fun i => [g.2.1] ++ ((b.2.2.2.2.1.take i).filter fun c => !(c.2.2.1.contains g.1 == c.2.2.2.1.contains g.1)).map (fun c => c.2.1)) _ rfl (fun i c hi hc kn => ?_) (fun kn => ?_)
 ·try dsimp only
  unfold anD
  obtain ⟨p1, p2⟩ := hs.piles c (List.mem_of_getElem? hc)
  rw [aco hi, aci hc, ajd (by omega), ab2, ajd (by omega), ab2, ack hi (by omega), ack hi (by omega), take_succ hc, List.filter_append, List.map_append]
  have hlen : ([g.2.1] ++ ((b.2.2.2.2.1.take i).filter fun c => !(c.2.2.1.contains g.1 == c.2.2.2.1.contains g.1)).map (fun c => c.2.1)).length ≤ 1001 := by
   have h3 := List.length_filter_le (fun c : Cmp => !(c.2.2.1.contains g.1 == c.2.2.2.1.contains g.1)) (b.2.2.2.2.1.take i)
   rw [List.length_take] at h3
   simp only [List.length_append, List.length_map, List.length_singleton]
   omega
  rw [acp (by simp only [List.length_singleton]; omega), Am.iff_true]
  cases h : (c.2.2.1.contains g.1 == c.2.2.2.1.contains g.1) with
  | true => simp only [Bool.not_true, acM, List.filter_cons, h, Bool.false_eq_true, if_false, List.filter_nil, List.map_nil, List.append_nil]
  | false => simp only [Bool.not_false, ad5, List.filter_cons, h, if_true, List.filter_nil, List.map_cons, List.map_nil, List.append_assoc]
 ·try dsimp only
  unfold anD
  rw [acK, List.take_length]
  refine ac3 b.2.2.2.2.2 (fun i => [g.2.1] ++ (b.2.2.2.2.1.filter fun c => !(c.2.2.1.contains g.1 == c.2.2.2.1.contains g.1)).map (fun c => c.2.1) ++ ((b.2.2.2.2.2.take i).filter fun n => n.1 == g.1).map (fun n => n.2)) _ (by simp) (fun i n hi hn kn => ?_) (fun kn => ?_)
  ·try dsimp only
   unfold anC
   rw [aco hi, aci hn, ack hi (by omega), ack hi (by omega), take_succ hn, List.filter_append, List.map_append]
   have hlen : ([g.2.1] ++ (b.2.2.2.2.1.filter fun c => !(c.2.2.1.contains g.1 == c.2.2.2.1.contains g.1)).map (fun c => c.2.1) ++ ((b.2.2.2.2.2.take i).filter fun n => n.1 == g.1).map (fun n => n.2)).length ≤ 2001 := by
    have h3 := List.length_filter_le (fun c : Cmp => !(c.2.2.1.contains g.1 == c.2.2.2.1.contains g.1)) b.2.2.2.2.1
    have h4 := List.length_filter_le (fun n : Int × Int => n.1 == g.1) (b.2.2.2.2.2.take i)
    rw [List.length_take] at h4
    simp only [List.length_append, List.length_map, List.length_singleton]
    omega
   rw [acp (by simp only [List.length_singleton]; omega), Am.iff_true]
   cases h : (n.1 == g.1) with
   | true =>
     have : ieq n.1 g.1 = true := h
     simp [h, this]
   | false =>
     have : ieq n.1 g.1 = false := h
     simp [h, this]
  ·try dsimp only
   unfold anC
   rw [acK, List.take_length]
   rw [show ([g.2.1] ++ (b.2.2.2.2.1.filter fun c => !(c.2.2.1.contains g.1 == c.2.2.2.1.contains g.1)).map (fun c => c.2.1) ++ (b.2.2.2.2.2.filter fun n => n.1 == g.1).map (fun n => n.2)) = aMt b g from rfl]
   dsimp only
   rw [acp (by omega), Am.iff_true, acp (by rw [aIp]; omega), Am.iff_true, aPW]
   rfl
def acd (b : acz) : List (Int × Int) := b.2.1.flatMap fun g => (acC b g).map fun d => ((g.1, d) : Int × Int)
theorem aB9 {b : acz} (hs : ahl b) (g : acT) : (acC b g).length ≤ 2001 := by
 unfold acC
 have := ay7 (aMt b g)
 have := aKD hs g
 omega
theorem asP {α β : Type} (f : α → List β) (n : Nat) (h : ∀ a, (f a).length ≤ n) : ∀ l : List α, (l.flatMap f).length ≤ l.length * n
 | [] => by simp
 | a :: l => by
   have := asP f n h l
   have := h a
   simp only [List.flatMap_cons, List.length_append, List.length_cons, Nat.add_mul, Nat.one_mul]
   omega
theorem aFS {b : acz} (hs : ahl b) : akx b = some (acd b) := by
 unfold akx aBk
 have hg := hs.gauges
 have hlen : ∀ l : List acT, (l.flatMap fun g => (acC b g).map fun d => ((g.1, d) : Int × Int)).length ≤ l.length * 2001 := fun l =>
  asP _ 2001 (fun g => by rw [List.length_map]; exact aB9 hs g) l
 refine ac3 b.2.1 (fun i => (b.2.1.take i).flatMap fun g => (acC b g).map fun d => ((g.1, d) : Int × Int)) _ rfl (fun i g hi hg' kn => ?_) (fun kn => ?_)
 ·try dsimp only
  unfold ale
  rw [aco hi, aci hg']
  rw [show ajF ((b.1.1, b.1.2), b.2.1, b.2.2.1, b.2.2.2.1, b.2.2.2.2.1, b.2.2.2.2.2) g = ajF b g from rfl, aRk hs, ab2]
  have hd := aB9 hs g
  have hi2 := hlen (b.2.1.take i)
  have htl : (b.2.1.take i).length ≤ 1000 := by rw [List.length_take]; omega
  refine ac3 (acC b g) (fun j => ((b.2.1.take i).flatMap fun g => (acC b g).map fun d => ((g.1, d) : Int × Int)) ++ ((acC b g).take j).map fun d => ((g.1, d) : Int × Int)) _ (by simp) (fun j d hj hd' kn' => ?_) (fun kn' => ?_)
  ·try dsimp only
   unfold ald
   rw [aco hj, aci hd', ack hj (by omega), take_succ hd', List.map_append]
   rw [acp (by simp only [List.length_append, List.length_map, List.length_take, List.length_singleton]; omega), Am.iff_true]
   simp
  ·try dsimp only
   unfold ald
   rw [acK, List.take_length]
   dsimp only
   rw [ack hi (by omega), take_succ hg', List.flatMap_append]
   simp
 ·try dsimp only
  unfold ale
  rw [acK, List.take_length]
  rfl
def axq (b : acz) (s : List (Int × acT)) : List Int :=
 b.2.2.1.map (fun u => aPu s u.1 u.2) ++ (b.2.2.2.1.mapIdx (fun i l => aBx b s i l) ++ (b.2.2.2.2.1.mapIdx (fun i c => aln b s i c) ++ b.2.2.2.2.2.map (fun u => aPu s u.1 u.2)))
theorem aJa {α : Type} {f : Int → Option Int} {g : Nat → α → Int} (l : List α) (h : ∀ (i : Nat) (a : α), l[i]? = some a → f i = some (g i a)) : az9 f (aoE l.length) = some (l.mapIdx g) := by
 have h1 : ∀ i, i < l.length → f (i : Int) = some ((l.mapIdx g)[i]?.getD 0) := by
  intro i hi
  rw [h i l[i] (List.getElem?_eq_getElem hi)]
  simp [hi]
 have h2 : ∀ x ∈ aoE l.length, f x = some ((l.mapIdx g)[x.toNat]?.getD 0) := by
  intro x hx
  unfold aoE at hx
  obtain ⟨i, hi, rfl⟩ := List.mem_map.1 hx
  rw [h1 i (by simpa using hi)]
  rfl
 rw [atr h2]
 congr 1
 refine List.ext_getElem (by simp [aoE]) fun i h3 h4 => ?_
 have h5 : i < l.length := by simpa using h4
 simp [aoE, h5]
theorem aSA {b : acz} (hs : ahl b) (s : List (Int × acT)) : ai5 b s = some (axq b s) := by
 unfold ai5 axq
 rw [atr (fun u _ => aIJ s u.1 u.2), ab2, aJa b.2.2.2.1 (fun i l hl => aKG hs.loans hs.uses s hl), ab2,
  aJa b.2.2.2.2.1 (fun i c hc => aCg hs.compares hs.loans s (hs.piles c (List.mem_of_getElem? hc)).1 (hs.piles c (List.mem_of_getElem? hc)).2 hc), ab2, atr (fun u _ => aIJ s u.1 u.2), ab2]
def acu (b : acz) : Int :=
 if !akD b.1 0 1000000 then 1 else
 if 12 < b.2.1.length then 2 else if 40 < b.2.2.1.length then 2 else if 12 < b.2.2.2.1.length then 2 else if 40 < b.2.2.2.2.1.length then 2 else if 10 < b.2.2.2.2.2.length then 2 else
 if ajn b != 0 then ajn b else
 match (axq b (agF b)).find? (fun e => e != 0) with
 | some e => e
 | none => if 59 < (acd b).length then 2 else if 300 < 2 * b.2.1.length + 2 * ((acd b).length - b.2.1.length : Int) + 2 * b.2.2.2.2.1.length then 2 else 0
theorem aEu {b : acz} (hs : ahl b) : (acd b).length ≤ 2001000 := by
 have := asP (fun g : acT => (acC b g).map fun d => ((g.1, d) : Int × Int)) 2001 (fun g => by rw [List.length_map]; exact aB9 hs g) b.2.1
 have h2 := hs.gauges
 unfold acd
 omega
theorem ae3 {b : acz} (hs : ahl b) (hr : ∀ g ∈ b.2.1, I64 g.2.2.2.2.1.1) : acL b = some (acu b) := by
 unfold acL aBv acu
 rw [au8, ab2]
 cases akD b.1 0 1000000 with
 | false => rfl
 | true =>
 have h1 := hs.gauges
 have h2 := hs.compares
 have h3 := aEu hs
 rw [acm (show (!true) = false from rfl), if_neg (by simp)]
 simp only [acB]
 by_cases c0 : 12 < b.2.1.length
 ·rw [acs (by simp [igt]; omega), if_pos c0]
 rw [acm (by simp [igt]; omega), if_neg c0]
 by_cases c1 : 40 < b.2.2.1.length
 ·rw [acs (by simp [igt]; omega), if_pos c1]
 rw [acm (by simp [igt]; omega), if_neg c1]
 by_cases c2 : 12 < b.2.2.2.1.length
 ·rw [acs (by simp [igt]; omega), if_pos c2]
 rw [acm (by simp [igt]; omega), if_neg c2]
 by_cases c3 : 40 < b.2.2.2.2.1.length
 ·rw [acs (by simp [igt]; omega), if_pos c3]
 rw [acm (by simp [igt]; omega), if_neg c3]
 by_cases c4 : 10 < b.2.2.2.2.2.length
 ·rw [acs (by simp [igt]; omega), if_pos c4]
 rw [acm (by simp [igt]; omega), if_neg c4]
 rw [aD6 hr h1, ab2]
 cases hm : (ajn b != 0) with
 | true =>
   have : ine (ajn b) 0 = true := hm
   rw [acs this, if_pos rfl]
 | false =>
 have : ine (ajn b) 0 = false := hm
 rw [acm this, if_neg (by simp)]
 rw [aEl h1, ab2]
 unfold aIz
 rw [aSA hs, ab2]
 cases (axq b (agF b)).find? (fun e => e != 0) with
 | some e => rfl
 | none =>
 dsimp only
 rw [aFS hs, ab2]
 by_cases c5 : 59 < (acd b).length
 ·rw [acs (by simp [igt]; omega), if_pos c5]
 rw [acm (by simp [igt]; omega), if_neg c5]
 rw [acq (by omega) (by omega), acq (by omega) (by omega), acq (by omega) (by omega), acq (by omega) (by omega), acq (by omega) (by omega), acq (by omega) (by omega)]
 by_cases c6 : 300 < 2 * b.2.1.length + 2 * ((acd b).length - b.2.1.length : Int) + 2 * b.2.2.2.2.1.length
 ·rw [acs (by simp [igt]; omega), if_pos c6]
 rw [acm (by simp [igt]; omega), if_neg c6]
end Go.Proofs.ZzM
end
noncomputable section
namespace Go.Proofs.ZzM
open Go Go.Am
theorem wrapU {n : Nat} (h : n < 18446744073709551616) : IntKind.wrap .u64 (n : Int) = n := by
 simp only [IntKind.wrap, IntKind.bits, IntKind.signed]
 simp
 omega
theorem wrapI {n : Nat} (h : n < 9223372036854775808) : IntKind.wrap .i64 (n : Int) = n := by
 simp only [IntKind.wrap, IntKind.bits, IntKind.signed]
 simp
 omega
def ag0 (l : List (Int × Int)) (x d : Int) : Option Nat := l.findIdx? fun n => decide (x = n.1) && decide (d = n.2)
theorem aK1 {l : List (Int × Int)} (hn : l.length ≤ 100000000) (x d : Int) : acS l (x, d) = some (match ag0 l x d with | some j => (j : Int) | none => -1) := by
 unfold acS aeD
 refine Eq.trans (afT l (fun n => decide (x = n.1) && decide (d = n.2)) some (some (-1)) (fun i a hi ha kn => ?_) (fun kn => ?_)) ?_
 ·try dsimp only
  unfold adw
  rw [aco hi, aci ha, ack hi (by omega), adM, Bool.and_true]
 ·try dsimp only
  unfold adw
  rw [acK]
 ·unfold ag0
  cases List.findIdx? (fun n => decide (x = n.1) && decide (d = n.2)) l <;> rfl
def atP (l : List (Int × Int)) (p : List Int) (d : Int) : Int :=
 match p with
 | [] => 0
 | x :: _ => match ag0 l x d with | some j => (j : Int) + 1 | none => 0
theorem ah9 {l : List (Int × Int)} {x d : Int} {j : Nat} (h : ag0 l x d = some j) : j < l.length ∧ l[j]? = some (x, d) := by
 unfold ag0 at h
 obtain ⟨hj, hp, _⟩ := List.findIdx?_eq_some_iff_getElem.1 h
 refine ⟨hj, ?_⟩
 rw [List.getElem?_eq_getElem hj]
 simp only [Bool.and_eq_true, decide_eq_true_eq] at hp
 congr 1
 exact Prod.ext hp.1.symm hp.2.symm
theorem aRS (m : Maker) (p : List Int) (d : Int) (hn : m.2.1.length ≤ 100000000) : afD m p d = some (atP m.2.1 p d) := by
 unfold afD apA atP
 cases p with
 | nil => simp [acB, ieq]
 | cons x p =>
   have h : ieq (acv (x :: p)) 0 = false := by
    rw [acB]
    simp only [ieq, List.length_cons, beq_eq_false_iff_ne, ne_eq]
    omega
   rw [h, acM, show (0 : Int) = ((0 : Nat) : Int) from rfl, aci (a := x) rfl, aK1 hn, ab2]
   cases hx : ag0 m.2.1 x d with
   | none => dsimp only; rw [acq (by omega) (by omega)]; simp only [hx]; rfl
   | some j =>
     have := (ah9 hx).1
     dsimp only
     rw [acq (by omega) (by omega)]
     simp only [hx]
def ar0 (s : List (Int × acT)) (p : List Int) : Int × Int :=
 match p with
 | [] => (0, 1)
 | x :: _ => match al3 (k := tI) (v := ach) x s with
   | some g => g.2.2.2.2.1
   | none => (0, 0)
theorem aIy (s : List (Int × acT)) (p : List Int) : afU s p = some (ar0 s p) := by
 unfold afU ajj ar0
 cases p with
 | nil => simp [acB, ieq]
 | cons x p =>
   have h : ieq (acv (x :: p)) 0 = false := by
    rw [acB]
    simp only [ieq, List.length_cons, beq_eq_false_iff_ne, ne_eq]
    omega
   rw [h, acM, show (0 : Int) = ((0 : Nat) : Int) from rfl, aci (a := x) rfl]
   cases hx : al3 (k := tI) (v := ach) x s with
   | none => simp only [aH8, hx]
   | some g => simp only [aH8, hx]
theorem aMX {l : List (Int × Int)} (hr : ∀ r ∈ l, I64 r.1) (hn : l.length ≤ 1000) : agQ l = some (if l.any (fun r => !aCR r) then 1 else 0) := by
 unfold agQ aAY
 refine Eq.trans (afL l (fun r => !aCR r) (fun _ => some 1) (some 1) (some 0) (fun _ => rfl) (fun i a hi ha kn => ?_) (fun kn => ?_)) ?_
 ·try dsimp only
  unfold ak9
  rw [aco hi, aci ha, aH3 (hr a (List.mem_of_getElem? ha)), ab2, ack hi (by omega), adM]
 ·try dsimp only
  unfold ak9
  rw [acK]
 ·cases l.any (fun r => !aCR r) <;> rfl
def an6 (n d : Int) : Int × Int := (n / (Nat.gcd n.natAbs d.natAbs : Nat), d / (Nat.gcd n.natAbs d.natAbs : Nat))
theorem ajw (r : Int × Int) : aCR r = true ↔ 1 ≤ r.2 ∧ r.2 ≤ 2147483647 ∧ (r.1.natAbs : Int) ≤ 2147483647 ∧ Nat.gcd r.1.natAbs r.2.natAbs = 1 := by
 simp [aCR]
theorem aFF {n d : Int} (hd : 0 < d) : ∃ g : Nat, 0 < g ∧ g = Nat.gcd n.natAbs d.natAbs ∧ n = (an6 n d).1 * g ∧ d = (an6 n d).2 * g := by
 have hg : 0 < Nat.gcd n.natAbs d.natAbs := Nat.gcd_pos_of_pos_right _ (by omega)
 refine ⟨_, hg, rfl, ?_, ?_⟩
 ·exact (Int.ediv_mul_cancel (Int.ofNat_dvd_left.2 (Nat.gcd_dvd_left _ _))).symm
 ·exact (Int.ediv_mul_cancel (Int.ofNat_dvd_left.2 (Nat.gcd_dvd_right _ _))).symm
theorem aLw {n d : Int} (hd : 0 < d) (hn : n.natAbs ≤ 2147483647) (hd2 : d ≤ 2147483647) : aCR (an6 n d) = true := by
 obtain ⟨g, h0, hg, h1, h2⟩ := aFF (n := n) hd
 rw [ajw]
 have a1 : n.natAbs = (an6 n d).1.natAbs * g := by conv => lhs; rw [h1]; rw [Int.natAbs_mul, Int.natAbs_natCast]
 have a2 : d.natAbs = (an6 n d).2.natAbs * g := by conv => lhs; rw [h2]; rw [Int.natAbs_mul, Int.natAbs_natCast]
 have p2 : 0 < (an6 n d).2 := by
  rcases Int.lt_trichotomy (an6 n d).2 0 with h | h | h
  ·have := Int.mul_neg_of_neg_of_pos h (show (0 : Int) < g by omega); omega
  ·rw [h] at h2; simp at h2; omega
  ·exact h
 have b1 : (an6 n d).1.natAbs ≤ n.natAbs := by rw [a1]; exact Nat.le_mul_of_pos_right _ h0
 have b2 : (an6 n d).2.natAbs ≤ d.natAbs := by rw [a2]; exact Nat.le_mul_of_pos_right _ h0
 refine ⟨by omega, by omega, by omega, ?_⟩
 have := Nat.gcd_mul_right (an6 n d).1.natAbs g (an6 n d).2.natAbs
 rw [← a1, ← a2, ← hg] at this
 have h3 : (Nat.gcd (an6 n d).1.natAbs (an6 n d).2.natAbs) * g = 1 * g := by omega
 exact Nat.eq_of_mul_eq_mul_right h0 h3
theorem aEo {n d : Int} (hd : 0 < d) (hn : n.natAbs ≤ 2147483647) (hd2 : d ≤ 2147483647) : akw n d = some (an6 n d, 0) := by
 obtain ⟨g, h0, hg, h1, h2⟩ := aFF (n := n) hd
 have hr := (ajw _).1 (aLw hd hn hd2)
 unfold akw asx
 rw [aFz ⟨by omega, by omega⟩, ab2, aFz ⟨by omega, by omega⟩, ab2, aTX, ab2, ← hg]
 have a1 : n.natAbs = (an6 n d).1.natAbs * g := by conv => lhs; rw [h1]; rw [Int.natAbs_mul, Int.natAbs_natCast]
 have a2 : d.natAbs = (an6 n d).2.natAbs * g := by conv => lhs; rw [h2]; rw [Int.natAbs_mul, Int.natAbs_natCast]
 have q1 : Int.tdiv (n.natAbs : Int) (g : Int) = ((an6 n d).1.natAbs : Int) := by
  rw [a1, Int.natCast_mul]; exact Int.mul_tdiv_cancel _ (by omega)
 have q2 : Int.tdiv (d.natAbs : Int) (g : Int) = ((an6 n d).2.natAbs : Int) := by
  rw [a2, Int.natCast_mul]; exact Int.mul_tdiv_cancel _ (by omega)
 have z : adW (g : Int) 0 = false := by simp [adW]; omega
 have g1 : igt ((an6 n d).1.natAbs : Int) 2147483647 = false := by simp [igt]; omega
 have g2 : igt ((an6 n d).2.natAbs : Int) 2147483647 = false := by simp [igt]; omega
 rw [acm z, acm z, q1, q2, wrapU (by omega), wrapU (by omega), wrapI (by omega), wrapI (by omega), acm g1, acm g2]
 have hd0 : ilt d 0 = false := by simp [ilt]; omega
 rw [hd0]
 have e2 : ((an6 n d).2.natAbs : Int) = (an6 n d).2 := by omega
 rw [e2]
 by_cases hneg : n < 0
 ·have hn0 : ilt n 0 = true := by simp [ilt, hneg]
  have : (an6 n d).1 ≤ 0 := by
   rcases Int.lt_or_le 0 (an6 n d).1 with h | h
   ·have := Int.mul_pos h (show (0 : Int) < g by omega); omega
   ·exact h
  rw [hn0]
  rw [show (!true == false) = true from rfl, ad5, acq (by omega) (by omega)]
  have : 0 - ((an6 n d).1.natAbs : Int) = (an6 n d).1 := by omega
  rw [this]
 ·have hn0 : ilt n 0 = false := by simp [ilt]; omega
  have : 0 ≤ (an6 n d).1 := by
   rcases Int.lt_or_le (an6 n d).1 0 with h | h
   ·have := Int.mul_neg_of_neg_of_pos h (show (0 : Int) < g by omega); omega
   ·exact h
  rw [hn0]
  rw [show (!false == false) = false from rfl, acM]
  have : ((an6 n d).1.natAbs : Int) = (an6 n d).1 := by omega
  rw [this]
structure amO (r : Int × Int) (n d : Int) : Prop where
 rat : aCR r = true
 num : -n ≤ r.1 ∧ r.1 ≤ n
 den : r.2 ≤ d
theorem amO.pos {r : Int × Int} {n d : Int} (h : amO r n d) : 1 ≤ r.2 := ((ajw r).1 h.rat).1
theorem amO.i64 {r : Int × Int} {n d : Int} (h : amO r n d) : I64 r.1 := by
 have := ((ajw r).1 h.rat).2.2.1
 exact ⟨by omega, by omega⟩
theorem aPG {x y : Int × Int} (hx : aCR x = true) (hy : aCR y = true) : agQ [x, y] = some 0 := by
 rw [aMX]
 ·simp [hx, hy]
 ·intro r hr
  have : aCR r = true := by simp at hr; rcases hr with rfl | rfl <;> assumption
  have := ((ajw r).1 this).2.2.1
  exact ⟨by omega, by omega⟩
 ·simp
theorem akL {a b m n : Int} (h1 : -m ≤ a ∧ a ≤ m) (h2 : -n ≤ b ∧ b ≤ n) : -(m * n) ≤ a * b ∧ a * b ≤ m * n := by
 have hm : 0 ≤ m := by omega
 have hn : 0 ≤ n := by omega
 have h3 : (a * b).natAbs ≤ (m * n).natAbs := by
  rw [Int.natAbs_mul, Int.natAbs_mul]
  exact Nat.mul_le_mul (by omega) (by omega)
 have h4 : 0 ≤ m * n := Int.mul_nonneg hm hn
 omega
def subP (x y : Int × Int) : Int × Int := an6 (x.1 * y.2 - y.1 * x.2) (x.2 * y.2)
theorem aEg {x y : Int × Int} (hx : amO x 1000 100) (hy : amO y 1000 100) : (x.1 * y.2 - y.1 * x.2).natAbs ≤ 200000 ∧ 0 < x.2 * y.2 ∧ x.2 * y.2 ≤ 10000 := by
 have h1 := akL hx.num (show -100 ≤ y.2 ∧ y.2 ≤ 100 from ⟨by have := hy.pos; omega, hy.den⟩)
 have h2 := akL hy.num (show -100 ≤ x.2 ∧ x.2 ≤ 100 from ⟨by have := hx.pos; omega, hx.den⟩)
 have h3 := akL (show -100 ≤ x.2 ∧ x.2 ≤ 100 from ⟨by have := hx.pos; omega, hx.den⟩) (show -100 ≤ y.2 ∧ y.2 ≤ 100 from ⟨by have := hy.pos; omega, hy.den⟩)
 have h4 := Int.mul_pos (show 0 < x.2 by have := hx.pos; omega) (show 0 < y.2 by have := hy.pos; omega)
 refine ⟨by omega, h4, by omega⟩
theorem Sub_ok {x y : Int × Int} (hx : amO x 1000 100) (hy : amO y 1000 100) : aHF x y = some (subP x y, 0) := by
 obtain ⟨b1, b2, b3⟩ := aEg hx hy
 have h1 := akL hx.num (show -100 ≤ y.2 ∧ y.2 ≤ 100 from ⟨by have := hy.pos; omega, hy.den⟩)
 have h2 := akL hy.num (show -100 ≤ x.2 ∧ x.2 ≤ 100 from ⟨by have := hx.pos; omega, hx.den⟩)
 unfold aHF aL3
 rw [aPG hx.rat hy.rat, ab2]
 rw [show ine (0 : Int) 0 = false from rfl, acM, acq (by omega) (by omega), acq (by omega) (by omega), acq (by omega) (by omega), acq (by omega) (by omega), aEo b2 (by omega) (by omega), ab2]
 rfl
theorem aP6 {n d : Int} (hd : 0 < d) : (an6 n d).1.natAbs ≤ n.natAbs ∧ (an6 n d).2 ≤ d := by
 obtain ⟨g, h0, hg, h1, h2⟩ := aFF (n := n) hd
 have a1 : n.natAbs = (an6 n d).1.natAbs * g := by conv => lhs; rw [h1]; rw [Int.natAbs_mul, Int.natAbs_natCast]
 have a2 : d.natAbs = (an6 n d).2.natAbs * g := by conv => lhs; rw [h2]; rw [Int.natAbs_mul, Int.natAbs_natCast]
 have b1 : (an6 n d).1.natAbs ≤ n.natAbs := by rw [a1]; exact Nat.le_mul_of_pos_right _ h0
 have b2 : (an6 n d).2.natAbs ≤ d.natAbs := by rw [a2]; exact Nat.le_mul_of_pos_right _ h0
 exact ⟨b1, by omega⟩
theorem aFv {x y : Int × Int} (hx : amO x 1000 100) (hy : amO y 1000 100) : amO (subP x y) 200000 10000 := by
 obtain ⟨b1, b2, b3⟩ := aEg hx hy
 obtain ⟨c1, c2⟩ := aP6 (n := x.1 * y.2 - y.1 * x.2) b2
 exact ⟨aLw b2 (by omega) (by omega), by unfold subP; omega, by unfold subP; omega⟩
def aPv (k : Int × Int) (n : Int) : Int × Int := an6 (k.1 * n) k.2
theorem aEz {k : Int × Int} (hk : amO k 200000 10000) {n : Int} (hn : -10000 ≤ n ∧ n ≤ 10000) : (k.1 * n).natAbs ≤ 2000000000 := by
 have := akL hk.num hn
 omega
theorem aMi {n : Int} (hn : -10000 ≤ n ∧ n ≤ 10000) : aCR (n, 1) = true := by
 rw [ajw]
 exact ⟨by simp, by simp, by simp; omega, by simp⟩
theorem aUc {k : Int × Int} (hk : amO k 200000 10000) {n : Int} (hn : -10000 ≤ n ∧ n ≤ 10000) : aB3 k (n, 1) = some (aPv k n, 0) := by
 have b := aEz hk hn
 have p := hk.pos
 have q := hk.den
 unfold aB3 aL5
 rw [aPG hk.rat (aMi hn), ab2]
 rw [show ine (0 : Int) 0 = false from rfl, acM, acq (by simp only; omega) (by simp only; omega), Int.mul_one, acq (by omega) (by omega), aEo (by omega) (by simp only; omega) (by omega), ab2]
 rfl
theorem aFV {k : Int × Int} (hk : amO k 200000 10000) {n : Int} (hn : -10000 ≤ n ∧ n ≤ 10000) : amO (aPv k n) 2000000000 10000 := by
 have b := aEz hk hn
 have p := hk.pos
 have q := hk.den
 obtain ⟨c1, c2⟩ := aP6 (n := k.1 * n) (show 0 < k.2 by omega)
 exact ⟨aLw (by omega) (by omega) (by omega), by unfold aPv; omega, by unfold aPv; omega⟩
def cmpP (x y : Int × Int) : Int := if x = y then 0 else if x.1 * y.2 < y.1 * x.2 then -1 else if y.1 * x.2 < x.1 * y.2 then 1 else 0
theorem aT5 {x y : Int × Int} {m d : Int} (hx : amO x m d) (hy : amO y m d) (hm : m ≤ 2000000000) (hd : d ≤ 10000) : aB1 x y = some (cmpP x y) := by
 have h1 := akL hx.num (show -d ≤ y.2 ∧ y.2 ≤ d from ⟨by have := hy.pos; have := hy.den; omega, hy.den⟩)
 have h2 := akL hy.num (show -d ≤ x.2 ∧ x.2 ≤ d from ⟨by have := hx.pos; have := hx.den; omega, hx.den⟩)
 have h0 : 0 ≤ m ∧ 0 ≤ d := ⟨by have := hx.num; omega, by have := hx.pos; have := hx.den; omega⟩
 have h3 : m * d ≤ 2000000000 * 10000 := Int.mul_le_mul hm hd h0.2 (by omega)
 unfold aB1 aL1 cmpP
 rw [acq (by omega) (by omega), acq (by omega) (by omega)]
 simp only [adM, Bool.and_true, Bool.and_eq_true, decide_eq_true_eq, adW, ilt, igt, gt_iff_lt]
 have : (x.1 = y.1 ∧ x.2 = y.2) ↔ x = y := ⟨fun h => Prod.ext h.1 h.2, fun h => by rw [h]; exact ⟨rfl, rfl⟩⟩
 simp only [this]
 (repeat' split) <;> rfl
def aOw (k : Int × Int) (heat : Int × Int) : (Int × Int) × (Int × Int) :=
 if 0 < cmpP (aPv k heat.1) (aPv k heat.2) then (aPv k heat.2, aPv k heat.1) else (aPv k heat.1, aPv k heat.2)
theorem aUw {k heat : Int × Int} (hk : amO k 200000 10000) (hh : akD heat (-10000) 10000 = true) : ajE k heat = some (aOw k heat) := by
 simp only [akD, Bool.and_eq_true, decide_eq_true_eq] at hh
 obtain ⟨h1, h2, h3⟩ := hh
 have n1 : -10000 ≤ heat.1 ∧ heat.1 ≤ 10000 := ⟨by omega, by omega⟩
 have n2 : -10000 ≤ heat.2 ∧ heat.2 ≤ 10000 := ⟨by omega, by omega⟩
 have r1 : amO (heat.1, 1) 10000 10000 := ⟨aMi n1, n1, by simp⟩
 have r2 : amO (heat.2, 1) 10000 10000 := ⟨aMi n2, n2, by simp⟩
 unfold ajE anq aB2 aA8 alQ alJ
 rw [aPG r1.rat r2.rat, ab2]
 have : ieq 0 0 = true := rfl
 rw [acs this, aT5 r1 r2 (by omega) (by omega), ab2]
 have hc : ile (cmpP (heat.1, 1) (heat.2, 1)) 0 = true := by
  unfold cmpP
  simp only [ile, decide_eq_true_eq, Int.mul_one]
  split
  ·omega
  ·split
   ·omega
   ·rw [if_neg (by omega)]; omega
 rw [hc, ab2]
 simp only [Bool.not_true, acM]
 rw [aH3 hk.i64, hk.rat, ab2]
 simp only [Bool.not_true, acM]
 rw [aUc hk n1, ab2, aUc hk n2, ab2]
 simp only [show ine (0 : Int) 0 = false from rfl, acM]
 rw [aT5 (aFV hk n1) (aFV hk n2) (by omega) (by omega), ab2]
 unfold aOw
 rw [adM]
 by_cases h : 0 < cmpP (aPv k heat.1) (aPv k heat.2)
 ·rw [if_pos h, if_pos (by simpa [igt] using h)]; rfl
 ·rw [if_neg h, if_neg (by simpa [igt] using h)]; rfl
def rateK (s : List (Int × acT)) (c : Cmp) : Int × Int := subP (ar0 s (adb c.2.2.1 c.2.2.2.1)) (ar0 s (adb c.2.2.2.1 c.2.2.1))
def adC (b : acz) (c : Cmp) : (Int × Int) × (Int × Int) := aOw (rateK (agF b) c) c.2.2.2.2.2.2
theorem aKn {b : acz} (hs : ahl b) {c : Cmp} (hA : c.2.2.1.length ≤ 1000) (hB : c.2.2.2.1.length ≤ 1000)
 (h1 : amO (ar0 (agF b) (adb c.2.2.1 c.2.2.2.1)) 1000 100) (h2 : amO (ar0 (agF b) (adb c.2.2.2.1 c.2.2.1)) 1000 100) (hh : akD c.2.2.2.2.2.2 (-10000) 10000 = true) : ajW b c = some (adC b c) := by
 unfold ajW awF
 rw [aEl hs.gauges, ab2, alN (by omega) (by omega), ab2, aIy, ab2, alN (by omega) (by omega), ab2, aIy, ab2]
 unfold anS anr
 rw [Sub_ok h1 h2, ab2, ab2]
 try dsimp only
 rw [aUw (aFv h1 h2) hh, ab2]
 rfl
def agi (b : acz) (c : Cmp) : Int × Int :=
 (((c.2.2.1.length - 1 : Nat) : Int) * b.1.1 - ((c.2.2.2.1.length - 1 : Nat) : Int) * b.1.2, ((c.2.2.1.length - 1 : Nat) : Int) * b.1.2 - ((c.2.2.2.1.length - 1 : Nat) : Int) * b.1.1)
theorem aNI {b : acz} {c : Cmp} (hA : c.2.2.1.length ≤ 1000) (hB : c.2.2.2.1.length ≤ 1000) (h1 : 0 ≤ b.1.1) (h2 : b.1.1 ≤ 1000000) (h3 : 0 ≤ b.1.2) (h4 : b.1.2 ≤ 1000000) : amH b c = some (agi b c) := by
 unfold amH aBr agi
 have e : ∀ n : Nat, aLa 0 ((n : Int) - 1) = ((n - 1 : Nat) : Int) := by
  intro n
  unfold aLa
  split <;> omega
 have bd : ∀ (n : Nat) (x : Int), n ≤ 1000 → 0 ≤ x → x ≤ 1000000 → 0 ≤ ((n - 1 : Nat) : Int) * x ∧ ((n - 1 : Nat) : Int) * x ≤ 1000000000 := by
  intro n x hn h0 hx
  refine ⟨Int.mul_nonneg (by omega) h0, ?_⟩
  have := Int.mul_le_mul (show ((n - 1 : Nat) : Int) ≤ 1000 by omega) hx h0 (by omega)
  omega
 have b1 := bd _ _ hA h1 h2
 have b2 := bd _ _ hA h3 h4
 have b3 := bd _ _ hB h1 h2
 have b4 := bd _ _ hB h3 h4
 simp only [acB]
 rw [acq (by omega) (by omega), acq (by omega) (by omega)]
 simp only [e]
 rw [acq (by omega) (by omega), acq (by omega) (by omega), acq (by omega) (by omega), acq (by omega) (by omega), acq (by omega) (by omega), acq (by omega) (by omega)]
theorem aNH {n d : Int} (hd : 1 ≤ d) (hn : -4000000000 ≤ n ∧ n ≤ 4000000000) : apW n d = some (n / d) := by
 unfold apW aA3
 have z : adW d 0 = false := by simp [adW]; omega
 rw [acm z]
 have t := Int.mul_tdiv_add_tmod n d
 have b1 : -4000000000 ≤ Int.tdiv n d ∧ Int.tdiv n d ≤ 4000000000 := by
  have := Int.natAbs_tdiv_le_natAbs n d
  omega
 rw [acq (by omega) (by omega), acm z, adM]
 by_cases h : Int.tmod n d < 0
 ·rw [if_pos (by simpa [ilt] using h), acq (by omega) (by omega)]
  congr 1
  have h5 : -d < Int.tmod n d := by
   have h6 := Int.natAbs_tmod n d
   have h7 := Nat.mod_lt n.natAbs (show 0 < d.natAbs by omega)
   omega
  refine (Int.ediv_eq_iff_of_pos (by omega)).2 ⟨?_, ?_⟩ |>.symm
  ·rw [Int.sub_mul, Int.mul_comm]; omega
  ·rw [Int.sub_mul, Int.mul_comm (Int.tdiv n d)]; omega
 ·rw [if_neg (by simpa [ilt] using h)]
  congr 1
  have h5 : Int.tmod n d < d := by
   have h6 := Int.natAbs_tmod n d
   have h7 := Nat.mod_lt n.natAbs (show 0 < d.natAbs by omega)
   omega
  refine (Int.ediv_eq_iff_of_pos (by omega)).2 ⟨?_, ?_⟩ |>.symm
  ·rw [Int.mul_comm]; omega
  ·rw [Int.mul_comm (Int.tdiv n d)]; omega
theorem aTP {x : Int × Int} (hx : aCR x = true) : agQ [x] = some 0 := by
 rw [aMX]
 ·simp [hx]
 ·intro r hr
  have : aCR r = true := by simp at hr; subst hr; assumption
  have := ((ajw r).1 this).2.2.1
  exact ⟨by omega, by omega⟩
 ·simp
def aCk (r : Int × Int) : Int := -(-r.1 / r.2)
theorem aOe {r : Int × Int} (h : aCR r = true) : apX r = some (r.1 / r.2, 0) := by
 unfold apX aBb
 have := (ajw r).1 h
 rw [aTP h, ab2]
 rw [show ine (0 : Int) 0 = false from rfl, acM, aNH (by omega) (by omega), ab2]
theorem aw1 {n d : Int} (hd : 1 ≤ d) : (n / d).natAbs ≤ n.natAbs := by
 exact Int.natAbs_ediv_le_natAbs n d
theorem aR9 {r : Int × Int} (h : aCR r = true) : avp r = some (aCk r, 0) := by
 unfold avp aGQ aCk
 have := (ajw r).1 h
 rw [aTP h, ab2]
 rw [show ine (0 : Int) 0 = false from rfl, acM, acq (by omega) (by omega), aNH (by omega) (by omega), ab2]
 have hb := aw1 (n := 0 - r.1) (show 1 ≤ r.2 by omega)
 rw [acq (by omega) (by omega), Int.zero_sub, Int.zero_sub]
def aeO (b : acz) (c : Cmp) : Int × Int :=
 (c.2.2.2.2.1 - c.2.2.2.2.2.1 - (agi b c).2 - (adC b c).2.1 / (adC b c).2.2, c.2.2.2.2.1 + c.2.2.2.2.2.1 - (agi b c).1 - aCk (adC b c).1)
end Go.Proofs.ZzM
end
noncomputable section
namespace Go.Proofs.ZzM
open Go Go.Am
structure adh (b : acz) : Prop where
 film : 0 ≤ b.1.1 ∧ b.1.1 ≤ b.1.2 ∧ b.1.2 ≤ 1000000
 nG : b.2.1.length ≤ 12
 nU : b.2.2.1.length ≤ 40
 nL : b.2.2.2.1.length ≤ 12
 nC : b.2.2.2.2.1.length ≤ 40
 nK : b.2.2.2.2.2.length ≤ 10
 gauge : ∀ g ∈ b.2.1, arL g = true
 ids : b.2.1.Pairwise fun a b => a.1 < b.1
 uses : ∀ u ∈ b.2.2.1, aPu (agF b) u.1 u.2 = 0
 loans : ∀ i l, b.2.2.2.1[i]? = some l → aBx b (agF b) i l = 0
 compares : ∀ i c, b.2.2.2.2.1[i]? = some c → aln b (agF b) i c = 0
 looks : ∀ u ∈ b.2.2.2.2.2, aPu (agF b) u.1 u.2 = 0
 nodes : (acd b).length ≤ 59
 links : 2 * (acd b).length + 2 * b.2.2.2.2.1.length ≤ 300
theorem aBM (b : acz) : ajn b = 0 ↔ (∀ g ∈ b.2.1, arL g = true) ∧ b.2.1.Pairwise fun a b => a.1 < b.1 := by
 have h0 : aeN (apP b.2.1) 0 b.2.1 = none ↔ (∀ g ∈ b.2.1, arL g = true) ∧ b.2.1.Pairwise fun a b => a.1 < b.1 := by
  rw [ait, ← aN3 (fun g : acT => g.1) b.2.1]
  constructor
  ·intro h
   have h1 : ∀ (j : Nat) (a : acT), b.2.1[j]? = some a → arL a = true ∧ aCx (fun g : acT => g.1) b.2.1 j a = false := by
    intro j a ha
    have := h j a ha
    rw [Nat.zero_add] at this
    unfold apP at this
    split at this
    ·cases this
    ·split at this
     ·cases this
     ·rename_i h1 h2
      exact ⟨by simpa using h1, by simpa using h2⟩
   refine ⟨fun x hx => ?_, fun i a ha => (h1 i a ha).2⟩
   obtain ⟨j, hj, rfl⟩ := List.mem_iff_getElem.1 hx
   exact (h1 j _ (List.getElem?_eq_getElem hj)).1
  ·rintro ⟨h1, h2⟩ j a ha
   rw [Nat.zero_add]
   simp [apP, h1 a (List.mem_of_getElem? ha), h2 j a ha]
 rw [← h0]
 unfold ajn
 cases h : aeN (apP b.2.1) 0 b.2.1 with
 | none => simp
 | some e =>
   have : ∀ (m : List acT) (j : Nat) (x : Int), aeN (apP b.2.1) j m = some x → x ≠ 0 := by
    intro m
    induction m with
    | nil => intro j x h; cases h
    | cons a m ih =>
      intro j x h
      unfold aeN at h
      cases hp : apP b.2.1 j a with
      | none => rw [hp] at h; exact ih _ _ h
      | some y =>
        rw [hp] at h
        cases h
        unfold apP at hp
        split at hp
        ·cases hp; omega
        ·split at hp
         ·cases hp; omega
         ·cases hp
   simp [this _ _ _ h]
theorem acx (b : acz) : acu b = 0 ↔ adh b := by
 unfold acu
 constructor
 ·intro h
  split at h
  ·omega
  rename_i h1
  (repeat' split at h) <;> try omega
  ·rename_i hg
   have hg' : ajn b ≠ 0 := by simpa using hg
   exact (hg' h).elim
  ·rename_i hf
   have := List.find?_some hf
   rename_i e
   simp at this
   exact (this h).elim
  ·rename_i hn1 hn2 hn3 hn4 hn5 hg e hf hn6 hn7
   have hg0 : ajn b = 0 := by simpa using hg
   obtain ⟨g1, g2⟩ := (aBM b).1 hg0
   have hall : ∀ x ∈ axq b (agF b), x = 0 := fun x hx => by
    have := List.find?_eq_none.1 hf x hx
    simpa using this
   simp only [axq, List.mem_append] at hall
   have hs : akD b.1 0 1000000 = true := by simpa using h1
   simp only [akD, Bool.and_eq_true, decide_eq_true_eq] at hs
   refine ⟨⟨hs.1, hs.2.1, hs.2.2⟩, by omega, by omega, by omega, by omega, by omega, g1, g2, fun u hu => hall _ (.inl (List.mem_map.2 ⟨u, hu, rfl⟩)), fun i l hl => ?_, fun i c hc => ?_, fun u hu => hall _ (.inr (.inr (.inr (List.mem_map.2 ⟨u, hu, rfl⟩)))), by omega, by omega⟩
   ·obtain ⟨hi, rfl⟩ := List.getElem?_eq_some_iff.1 hl
    exact hall _ (.inr (.inl (List.mem_mapIdx.2 ⟨i, hi, rfl⟩)))
   ·obtain ⟨hi, rfl⟩ := List.getElem?_eq_some_iff.1 hc
    exact hall _ (.inr (.inr (.inl (List.mem_mapIdx.2 ⟨i, hi, rfl⟩))))
 ·intro h
  have hs : akD b.1 0 1000000 = true := by simp [akD, h.film.1, h.film.2.1, h.film.2.2]
  have hg : ajn b = 0 := (aBM b).2 ⟨h.gauge, h.ids⟩
  have hall : (axq b (agF b)).find? (fun e => e != 0) = none := by
   rw [List.find?_eq_none]
   intro x hx
   simp only [axq, List.mem_append, List.mem_map, List.mem_mapIdx] at hx
   have : x = 0 := by
    rcases hx with ⟨u, hu, rfl⟩ | ⟨i, hi, rfl⟩ | ⟨i, hi, rfl⟩ | ⟨u, hu, rfl⟩
    ·exact h.uses u hu
    ·exact h.loans i _ (List.getElem?_eq_getElem hi)
    ·exact h.compares i _ (List.getElem?_eq_getElem hi)
    ·exact h.looks u hu
   simp [this]
  have := h.nG; have := h.nU; have := h.nL; have := h.nC; have := h.nK; have := h.nodes; have := h.links
  rw [hs, hg, hall]
  simp only [Bool.not_true, Bool.false_eq_true, if_false, bne_self_eq_false]
  rw [if_neg (by omega), if_neg (by omega), if_neg (by omega), if_neg (by omega), if_neg (by omega), if_neg (by omega), if_neg (by omega)]
section
variable {b : acz}
theorem aeY {l : List Int} (h : ajx l = true) : l.length ≤ 6 := ((aIF l).1 h).2.2
theorem adh.nums (h : adh b) {c : Cmp} (hc : c ∈ b.2.2.2.2.1) : aOB c = true := by
 obtain ⟨i, hi, rfl⟩ := List.mem_iff_getElem.1 hc
 have := h.compares i _ (List.getElem?_eq_getElem hi)
 unfold aln at this
 split at this
 ·omega
 ·rename_i h; simpa using h
theorem adh.pilesOf (h : adh b) {c : Cmp} (hc : c ∈ b.2.2.2.2.1) : as5 b (agF b) c = 0 := by
 obtain ⟨i, hi, rfl⟩ := List.mem_iff_getElem.1 hc
 have := h.compares i _ (List.getElem?_eq_getElem hi)
 unfold aln at this
 split at this
 ·omega
 ·split at this
  ·omega
  ·exact this
theorem ahx (c : Cmp) : aOB c = true ↔ (1 ≤ c.1 ∧ c.1 ≤ 1099511627776) ∧ (0 ≤ c.2.1 ∧ c.2.1 ≤ 20000) ∧ (-1125899906842624 ≤ c.2.2.2.2.1 ∧ c.2.2.2.2.1 ≤ 1125899906842624) ∧ (0 ≤ c.2.2.2.2.2.1 ∧ c.2.2.2.2.2.1 ≤ 1073741824) ∧ akD c.2.2.2.2.2.2 (-10000) 10000 = true ∧ ajx c.2.2.1 = true ∧ ajx c.2.2.2.1 = true := by
 simp [aOB, inP, aLc, and_assoc]
theorem adh.size (h : adh b) : ahl b := by
 have h1 := h.nG; have h2 := h.nU; have h3 := h.nL; have h4 := h.nC; have h5 := h.nK
 refine ⟨by omega, by omega, by omega, by omega, by omega, fun c hc => ?_⟩
 have := (ahx c).1 (h.nums hc)
 have a := aeY this.2.2.2.2.2.1
 have b := aeY this.2.2.2.2.2.2
 omega
theorem aE4 (g : acT) : arL g = true ↔ aCR g.2.2.2.2.1 = true ∧ (-1000 ≤ g.2.2.2.2.1.1 ∧ g.2.2.2.2.1.1 ≤ 1000) ∧ g.2.2.2.2.1.2 ≤ 100 ∧ (1 ≤ g.1 ∧ g.1 ≤ 1099511627776) ∧ (0 ≤ g.2.1 ∧ g.2.1 ≤ 20000) ∧ (1 ≤ g.2.2.1 ∧ g.2.2.1 ≤ 1125899906842624) ∧ (-1073741824 ≤ g.2.2.2.1.1 ∧ g.2.2.2.1.1 ≤ g.2.2.2.1.2 ∧ g.2.2.2.1.2 ≤ 1073741824) ∧ (0 ≤ g.2.2.2.2.2 ∧ g.2.2.2.2.2 ≤ 1048576) := by
 simp [arL, inP, aLc, akD, and_assoc]
theorem agf {id : Int} {g : acT} (h : afZ b id = some g) : g ∈ b.2.1 ∧ g.1 = id := by
 unfold afZ at h
 exact ⟨List.mem_of_find?_eq_some h, by simpa using List.find?_some h⟩
theorem ae8 (hi : b.2.1.Pairwise fun a b => a.1 < b.1) {g : acT} (hg : g ∈ b.2.1) : afZ b g.1 = some g := by
 unfold afZ
 induction hl : b.2.1 generalizing b with
 | nil => rw [hl] at hg; cases hg
 | cons a t ih =>
   rw [hl] at hg hi
   rw [List.pairwise_cons] at hi
   rw [List.find?_cons]
   rcases List.mem_cons.1 hg with rfl | hg
   ·simp
   ·have h1 := hi.1 g hg
    have : (a.1 == g.1) = false := by simp; omega
    rw [this]
    have := ih (b := (b.1, t, b.2.2)) hi.2 hg rfl
    exact this
theorem avV (h : adh b) {id day : Int} (hm : ahp (agF b) id day = 0) : ∃ g, afZ b id = some g ∧ g.2.1 ≤ day := by
 unfold ahp at hm
 rw [ags h.ids] at hm
 split at hm
 ·rename_i g hg
  split at hm
  ·omega
  ·exact ⟨g, hg, by omega⟩
 ·omega
theorem aLI (s : List (Int × acT)) (id day : Int) : ahp s id day = 0 ∨ ahp s id day = 4 ∨ ahp s id day = 5 := by
 unfold ahp
 split
 ·split <;> simp
 ·simp
theorem adh.pile (h : adh b) {c : Cmp} (hc : c ∈ b.2.2.2.2.1) {x : Int} (hx : x ∈ c.2.2.1 ++ c.2.2.2.1) : (∃ g, afZ b x = some g ∧ g.2.1 ≤ c.2.1) ∧ aqX b x c.2.1 = none := by
 have hp := h.pilesOf hc
 unfold as5 at hp
 split at hp
 ·omega
 rename_i h5
 split at hp
 ·omega
 rename_i h4
 split at hp
 ·omega
 rename_i h9
 have a5 := (List.any_eq_false.1 (Bool.eq_false_iff.2 h5)) x hx
 have a4 := (List.any_eq_false.1 (Bool.eq_false_iff.2 h4)) x hx
 have a9 := (List.any_eq_false.1 (Bool.eq_false_iff.2 h9)) x hx
 simp at a5 a4 a9
 refine ⟨avV h ?_, a9⟩
 rcases aLI (agF b) x c.2.1 with h0 | h0 | h0
 ·exact h0
 ·exact (a4 h0).elim
 ·exact (a5 h0).elim
theorem adh.lefts (h : adh b) {c : Cmp} (hc : c ∈ b.2.2.2.2.1) : (adb c.2.2.1 c.2.2.2.1).length ≤ 1 ∧ (adb c.2.2.2.1 c.2.2.1).length ≤ 1 ∧ (adb c.2.2.1 c.2.2.2.1).length + (adb c.2.2.2.1 c.2.2.1).length ≠ 0 := by
 have hp := h.pilesOf hc
 unfold as5 at hp
 (repeat' split at hp) <;> first | omega | exact ⟨by omega, by omega, by omega⟩
theorem agM {a c : List Int} {x : Int} : x ∈ adb a c ↔ x ∈ a ∧ x ∉ c := by
 simp [adb]
theorem adh.rate (h : adh b) {p : List Int} (hp : ∀ x ∈ p, ∃ g, afZ b x = some g) : amO (ar0 (agF b) p) 1000 100 := by
 unfold ar0
 cases p with
 | nil =>
   have : amO (0, 1) 1000 100 := ⟨by decide, by decide, by decide⟩
   exact this
 | cons x t =>
   obtain ⟨g, hg⟩ := hp x (by simp)
   try dsimp only
   rw [ags h.ids, hg]
   have := (aE4 g).1 (h.gauge g (agf hg).1)
   exact ⟨this.1, this.2.1, this.2.2.1⟩
theorem adh.rates (h : adh b) {c : Cmp} (hc : c ∈ b.2.2.2.2.1) : amO (ar0 (agF b) (adb c.2.2.1 c.2.2.2.1)) 1000 100 ∧ amO (ar0 (agF b) (adb c.2.2.2.1 c.2.2.1)) 1000 100 := by
 constructor
 ·exact h.rate fun x hx => by
   obtain ⟨⟨g, hg, _⟩, _⟩ := h.pile hc (List.mem_append_left _ (agM.1 hx).1)
   exact ⟨g, hg⟩
 ·exact h.rate fun x hx => by
   obtain ⟨⟨g, hg, _⟩, _⟩ := h.pile hc (List.mem_append_right _ (agM.1 hx).1)
   exact ⟨g, hg⟩
theorem adh.growth (h : adh b) {c : Cmp} (hc : c ∈ b.2.2.2.2.1) : ajW b c = some (adC b c) := by
 obtain ⟨r1, r2⟩ := h.rates hc
 have hn := (ahx c).1 (h.nums hc)
 have a := aeY hn.2.2.2.2.2.1
 have b := aeY hn.2.2.2.2.2.2
 exact aKn h.size (by omega) (by omega) r1 r2 hn.2.2.2.2.1
theorem adh.films (h : adh b) {c : Cmp} (hA : c.2.2.1.length ≤ 1000) (hB : c.2.2.2.1.length ≤ 1000) : amH b c = some (agi b c) := by
 have := h.film
 exact aNI hA hB (by omega) (by omega) (by omega) (by omega)
theorem aFQ {k heat : Int × Int} (hk : amO k 200000 10000) (hh : akD heat (-10000) 10000 = true) : amO (aOw k heat).1 2000000000 10000 ∧ amO (aOw k heat).2 2000000000 10000 := by
 simp only [akD, Bool.and_eq_true, decide_eq_true_eq] at hh
 have r1 := aFV hk (n := heat.1) ⟨by omega, by omega⟩
 have r2 := aFV hk (n := heat.2) ⟨by omega, by omega⟩
 unfold aOw
 split
 ·exact ⟨r2, r1⟩
 ·exact ⟨r1, r2⟩
theorem asQ {c : Cmp} (hA : c.2.2.1.length ≤ 1000) (hB : c.2.2.2.1.length ≤ 1000) (h1 : 0 ≤ b.1.1) (h2 : b.1.1 ≤ 1000000) (h3 : 0 ≤ b.1.2) (h4 : b.1.2 ≤ 1000000) :
 (-1000000000 ≤ (agi b c).1 ∧ (agi b c).1 ≤ 1000000000) ∧ (-1000000000 ≤ (agi b c).2 ∧ (agi b c).2 ≤ 1000000000) := by
 have bd : ∀ (n : Nat) (x : Int), n ≤ 1000 → 0 ≤ x → x ≤ 1000000 → 0 ≤ ((n - 1 : Nat) : Int) * x ∧ ((n - 1 : Nat) : Int) * x ≤ 1000000000 := by
  intro n x hn h0 hx
  refine ⟨Int.mul_nonneg (by omega) h0, ?_⟩
  have := Int.mul_le_mul (show ((n - 1 : Nat) : Int) ≤ 1000 by omega) hx h0 (by omega)
  omega
 have b1 := bd _ _ hA h1 h2
 have b2 := bd _ _ hA h3 h4
 have b3 := bd _ _ hB h1 h2
 have b4 := bd _ _ hB h3 h4
 unfold agi
 try dsimp only
 omega
theorem asN {r : Int × Int} (h : amO r 2000000000 10000) : -2000000000 ≤ r.1 / r.2 ∧ r.1 / r.2 ≤ 2000000000 := by
 have := aw1 (n := r.1) h.pos
 have := h.num
 omega
theorem aw8 {r : Int × Int} (h : amO r 2000000000 10000) : -2000000000 ≤ aCk r ∧ aCk r ≤ 2000000000 := by
 have := aw1 (n := -r.1) h.pos
 have := h.num
 unfold aCk
 omega
theorem adh.says (h : adh b) {c : Cmp} (hc : c ∈ b.2.2.2.2.1) : anR b c = some (aeO b c) := by
 obtain ⟨r1, r2⟩ := h.rates hc
 have hn := (ahx c).1 (h.nums hc)
 have ha := aeY hn.2.2.2.2.2.1
 have hb := aeY hn.2.2.2.2.2.2
 have hf := h.film
 obtain ⟨g1, g2⟩ := aFQ (aFv r1 r2) hn.2.2.2.2.1
 have fb := asQ (b := b) (c := c) (by omega) (by omega) (by omega) (by omega) (by omega) (by omega)
 have q1 : amO (adC b c).1 2000000000 10000 := g1
 have q2 : amO (adC b c).2 2000000000 10000 := g2
 have c1 := aw8 q1
 have c2 := asN q2
 unfold anR aGU aeO
 rw [h.growth hc, ab2, h.films (by omega) (by omega), ab2, aOe q2.rat, ab2, aR9 q1.rat, ab2]
 try dsimp only
 have n3 := hn.2.2.1
 have n4 := hn.2.2.2.1
 rw [acq (by omega) (by omega), acq (by omega) (by omega), acq (by omega) (by omega), acq (by omega) (by omega), acq (by omega) (by omega), acq (by omega) (by omega)]
end
def adj (l : ayi) (f t : Int) : Int := min l.2.1.2 (t - 1) - max l.2.1.1 f + 1
def ac0 (id f t : Int) : List ayi → Int
 | [] => 0
 | l :: r => (if l.1 = id ∧ 0 < adj l f t then adj l f t * l.2.2 else 0) + ac0 id f t r
theorem apK (id f t : Int) : ∀ (x y : List ayi), ac0 id f t (x ++ y) = ac0 id f t x + ac0 id f t y
 | [], y => by simp [ac0]
 | l :: r, y => by
   simp only [List.cons_append, ac0, apK id f t r y]
   omega
def ae5 (b : acz) (id f t : Int) : List Int := (b.2.2.1.filter fun u => u.1 == id && inP u.2 f (t - 1)).map fun u => u.2
def agv (b : acz) (g : acT) (f t : Int) : Int := ac0 g.1 f t b.2.2.2.1 + (aH7 (ae5 b g.1 f t)).length * g.2.2.2.2.2
theorem aBJ (a c : Int) : aK9 a c = min a c := by unfold aK9; split <;> omega
theorem aMl (a c : Int) : aLa a c = max a c := by unfold aLa; split <;> omega
theorem aqs {b : acz} (h : adh b) {l : ayi} (hl : l ∈ b.2.2.2.1) : (0 ≤ l.2.1.1 ∧ l.2.1.1 ≤ l.2.1.2 ∧ l.2.1.2 ≤ 20000) ∧ (0 ≤ l.2.2 ∧ l.2.2 ≤ 1048576) := by
 obtain ⟨i, hi, rfl⟩ := List.mem_iff_getElem.1 hl
 have := h.loans i _ (List.getElem?_eq_getElem hi)
 unfold aBx at this
 split at this
 ·omega
 rename_i h1
 split at this
 ·omega
 rename_i h2
 simp only [Bool.not_eq_true', Bool.not_eq_false, akD, inP, Bool.and_eq_true, decide_eq_true_eq] at h1 h2
 exact ⟨h1, h2⟩
theorem aEQ {l : ayi} (h : (0 ≤ l.2.1.1 ∧ l.2.1.1 ≤ l.2.1.2 ∧ l.2.1.2 ≤ 20000) ∧ (0 ≤ l.2.2 ∧ l.2.2 ≤ 1048576)) {f t : Int} (hf : 0 ≤ f) (hd : 0 < adj l f t) : 0 ≤ adj l f t * l.2.2 ∧ adj l f t * l.2.2 ≤ 20001 * 1048576 := by
 refine ⟨Int.mul_nonneg (by omega) h.2.1, Int.mul_le_mul ?_ h.2.2 h.2.1 (by omega)⟩
 unfold adj
 omega
theorem alM {id f t : Int} (hf : 0 ≤ f) : ∀ {x : List ayi}, (∀ l ∈ x, (0 ≤ l.2.1.1 ∧ l.2.1.1 ≤ l.2.1.2 ∧ l.2.1.2 ≤ 20000) ∧ (0 ≤ l.2.2 ∧ l.2.2 ≤ 1048576)) → 0 ≤ ac0 id f t x ∧ ac0 id f t x ≤ x.length * (20001 * 1048576)
 | [], _ => by simp [ac0]
 | l :: r, h => by
   have ih := alM (id := id) (t := t) hf (x := r) fun l hl => h l (by simp [hl])
   simp only [ac0, List.length_cons, Int.natCast_succ, Int.add_mul, Int.one_mul]
   split
   ·rename_i hc
    have := aEQ (h l (by simp)) hf hc.2
    omega
   ·omega
theorem aUE {b : acz} (h : adh b) {g : acT} (hg : 0 ≤ g.2.2.2.2.2 ∧ g.2.2.2.2.2 ≤ 1048576) {f t : Int} (hf : 0 ≤ f ∧ f ≤ 100000) (ht : 0 ≤ t ∧ t ≤ 100000) : aqA b g f t = some (agv b g f t) := by
 have hL := h.nL
 have hU := h.nU
 have hlb : ∀ i, 0 ≤ ac0 g.1 f t (b.2.2.2.1.take i) ∧ ac0 g.1 f t (b.2.2.2.1.take i) ≤ 12 * (20001 * 1048576) := by
  intro i
  have h1 := alM (id := g.1) (t := t) hf.1 (x := b.2.2.2.1.take i) fun l hl => aqs h (List.mem_of_mem_take hl)
  have h2 : ((b.2.2.2.1.take i).length : Int) * (20001 * 1048576) ≤ 12 * (20001 * 1048576) := Int.mul_le_mul_of_nonneg_right (by rw [List.length_take]; omega) (by omega)
  omega
 unfold aqA aG2
 refine afn (fun x : Int × Int => ∃ i : Nat, i ≤ b.2.2.2.1.length ∧ x = (ac0 g.1 f t (b.2.2.2.1.take i), (i : Int))) (fun x => b.2.2.2.1.length - x.2.toNat) ?_ ⟨0, by omega, rfl⟩
 rintro x ⟨i, hi, rfl⟩
 rcases Nat.lt_or_ge i b.2.2.2.1.length with hlt | hge
 ·have hl : b.2.2.2.1[i]? = some b.2.2.2.1[i] := List.getElem?_eq_getElem hlt
  have hz := aqs h (List.mem_of_getElem? hl)
  refine .inr ⟨(ac0 g.1 f t (b.2.2.2.1.take (i + 1)), (i : Int) + 1), ⟨i + 1, hlt, by simp⟩, by simp; omega, fun kn => ?_⟩
  try dsimp only
  unfold anA
  have b1 := hlb i
  have b2 := hlb (i + 1)
  have e1 : ac0 g.1 f t (b.2.2.2.1.take (i + 1)) = ac0 g.1 f t (b.2.2.2.1.take i) + (if b.2.2.2.1[i].1 = g.1 ∧ 0 < adj b.2.2.2.1[i] f t then adj b.2.2.2.1[i] f t * b.2.2.2.1[i].2.2 else 0) := by
   rw [take_succ hl, apK]; simp [ac0]
  rw [aco hlt, aci hl, acq (by omega) (by omega), aBJ, aMl, acq (by omega) (by omega), acq (by omega) (by omega)]
  rw [show min b.2.2.2.1[i].2.1.2 (t - 1) - max b.2.2.2.1[i].2.1.1 f + 1 = adj b.2.2.2.1[i] f t from rfl, adM]
  by_cases hid : b.2.2.2.1[i].1 = g.1
  ·rw [if_pos (by simpa [ieq] using hid), adM]
   by_cases hd : 0 < adj b.2.2.2.1[i] f t
   ·have lb := aEQ hz hf.1 hd
    rw [if_pos ⟨hid, hd⟩] at e1
    rw [if_pos (by simpa [igt] using hd), acq (by omega) (by omega), acq (by omega) (by omega), ack hlt (by omega), e1]
   ·rw [if_neg (fun hc => hd hc.2)] at e1
    rw [if_neg (by simpa [igt] using hd), ack hlt (by omega), e1, Int.add_zero]
  ·rw [if_neg (fun hc => hid hc.1)] at e1
   rw [if_neg (by simpa [ieq] using hid), ack hlt (by omega), e1, Int.add_zero]
 ·refine .inl fun kn => ?_
  have : i = b.2.2.2.1.length := by omega
  subst this
  try dsimp only
  unfold anA
  rw [acK, List.take_length]
  have hud : ∀ x : List (Int × Int), x.length ≤ 40 → ((x.filter fun u => u.1 == g.1 && inP u.2 f (t - 1)).map fun u => u.2).length ≤ 40 := by
   intro x hx
   rw [List.length_map]
   exact Nat.le_trans (List.length_filter_le _ _) hx
  refine ac3 b.2.2.1 (fun i => ((b.2.2.1.take i).filter fun u => u.1 == g.1 && inP u.2 f (t - 1)).map fun u => u.2) _ rfl (fun i u hi hu kn' => ?_) (fun kn' => ?_)
  ·try dsimp only
   unfold anz
   have hx := hud (b.2.2.1.take i) (by rw [List.length_take]; omega)
   rw [aco hi, aci hu, acq (by omega) (by omega), aeX, ab2, acp (by simp only [List.length_singleton]; omega), Am.iff_true, ack hi (by omega), ack hi (by omega), take_succ hu, List.filter_append, List.map_append]
   cases h1 : (u.1 == g.1) with
   | false =>
     have : ieq u.1 g.1 = false := h1
     simp only [this, acM, List.filter_cons, h1, Bool.false_and, Bool.false_eq_true, if_false, List.filter_nil, List.map_nil, List.append_nil]
   | true =>
     have : ieq u.1 g.1 = true := h1
     rw [this]
     cases h2 : inP u.2 f (t - 1) with
     | false => simp only [ad5, acM, List.filter_cons, h1, h2, Bool.true_and, Bool.false_eq_true, if_false, List.filter_nil, List.map_nil, List.append_nil]
     | true => simp only [ad5, List.filter_cons, h1, h2, Bool.true_and, if_true, List.filter_nil, List.map_nil, List.map_cons]
  ·try dsimp only
   unfold anz
   rw [acK, List.take_length]
   rw [show ((b.2.2.1.filter fun u => u.1 == g.1 && inP u.2 f (t - 1)).map fun u => u.2) = ae5 b g.1 f t from rfl]
   have h40 : (ae5 b g.1 f t).length ≤ 40 := hud _ hU
   have hc40 : (aH7 (ae5 b g.1 f t)).length ≤ 40 := by
    have := ay7 (ae5 b g.1 f t)
    omega
   have hm : 0 ≤ ((aH7 (ae5 b g.1 f t)).length : Int) * g.2.2.2.2.2 ∧ ((aH7 (ae5 b g.1 f t)).length : Int) * g.2.2.2.2.2 ≤ 40 * 1048576 :=
    ⟨Int.mul_nonneg (by omega) hg.1, Int.mul_le_mul (by omega) hg.2 hg.1 (by omega)⟩
   have b1 := hlb b.2.2.2.1.length
   rw [List.take_length] at b1
   dsimp only
   rw [acp (by omega), Am.iff_true, acp (by rw [aIp]; omega), Am.iff_true, aPW, acB, acq (by omega) (by omega), acq (by omega) (by omega)]
   rfl
end Go.Proofs.ZzM
end
noncomputable section
namespace Go.Proofs.ZzM
open Go Go.Am
abbrev Lk : Type := Int × Int × Int
inductive Wl (L : List Lk) (S : Int → Prop) : List Int → Int → Int → Prop
 | nil {v : Int} : S v → Wl L S [] v 0
 | step {vs : List Int} {u v m d : Int} : Wl L S vs u d → (u, v, m) ∈ L → Wl L S (u :: vs) v (d + m)
def Pot (L : List Lk) (p : Int → Int) : Prop := ∀ u v m, (u, v, m) ∈ L → p v ≤ p u + m
def InR (L : List Lk) (N : Nat) : Prop := ∀ l ∈ L, (0 ≤ l.1 ∧ l.1 < N) ∧ (0 ≤ l.2.1 ∧ l.2.1 < N)
section
variable {L : List Lk} {S : Int → Prop} {N : Nat} {p : Int → Int}
theorem Wl.cut (hp : Pot L p) {vs : List Int} {v d : Int} (h : Wl L S vs v d) : ∀ x ∈ vs, ∃ vs1 d1, Wl L S vs1 x d1 ∧ (x :: vs1) <:+ vs ∧ d1 + (p v - p x) ≤ d := by
 induction h with
 | nil h => intro x hx; cases hx
 | @step vs u v m d hw hl ih =>
   intro x hx
   have h1 := hp u v m hl
   rcases List.mem_cons.1 hx with rfl | hx
   ·exact ⟨vs, d, hw, List.suffix_refl _, by omega⟩
   ·obtain ⟨vs1, d1, g1, g2, g3⟩ := ih x hx
    exact ⟨vs1, d1, g1, g2.trans (List.suffix_cons _ _), by omega⟩
theorem Wl.simple (hp : Pot L p) {vs : List Int} {v d : Int} (h : Wl L S vs v d) : ∃ vs' d', Wl L S vs' v d' ∧ d' ≤ d ∧ (v :: vs').Nodup := by
 induction h with
 | nil h => exact ⟨[], 0, .nil h, Int.le_refl _, by simp⟩
 | @step vs u v m d hw hl ih =>
   obtain ⟨vs1, d1, g1, g2, g3⟩ := ih
   have hw1 := Wl.step g1 hl
   by_cases hv : v ∈ u :: vs1
   ·obtain ⟨vs2, d2, k1, k2, k3⟩ := hw1.cut hp v hv
    exact ⟨vs2, d2, k1, by omega, g3.sublist k2.sublist⟩
   ·exact ⟨u :: vs1, d1 + m, hw1, by omega, List.nodup_cons.2 ⟨hv, g3⟩⟩
theorem Wl.range (hL : InR L N) (hS : ∀ v, S v → 0 ≤ v ∧ v < N) {vs : List Int} {v d : Int} (h : Wl L S vs v d) : (0 ≤ v ∧ v < N) ∧ ∀ u ∈ vs, 0 ≤ u ∧ u < N := by
 induction h with
 | nil h => exact ⟨hS _ h, fun u hu => by cases hu⟩
 | @step vs u v m d hw hl ih =>
   refine ⟨(hL _ hl).2, fun w hw' => ?_⟩
   rcases List.mem_cons.1 hw' with rfl | h
   ·exact ih.1
   ·exact ih.2 w h
theorem aNf : ∀ (N : Nat) (l : List Int), l.Nodup → (∀ x ∈ l, 0 ≤ x ∧ x < N) → l.length ≤ N
 | 0, l, _, h => by
   cases l with
   | nil => simp
   | cons a l => have := h a (by simp); omega
 | N + 1, l, hn, h => by
   have h1 : (l.erase (N : Int)).length ≤ N := aNf N _ (hn.erase _) fun x hx => by
    have h2 := (hn.mem_erase_iff).1 hx
    have := h x h2.2
    have := h2.1
    omega
   have := List.length_erase (a := (N : Int)) (l := l)
   split at this <;> omega
theorem Wl.short (hL : InR L N) (hS : ∀ v, S v → 0 ≤ v ∧ v < N) {vs : List Int} {v d : Int} (h : Wl L S vs v d) (hn : (v :: vs).Nodup) : vs.length + 1 ≤ N := by
 have := h.range hL hS
 exact aNf N (v :: vs) hn fun x hx => by
  rcases List.mem_cons.1 hx with rfl | hx
  ·exact this.1
  ·exact this.2 x hx
def ayr (f : Lk → Bool) : List Lk → Int
 | [] => 0
 | l :: t => (if f l then min l.2.2 0 else 0) + ayr f t
theorem aQs (f : Lk → Bool) : ∀ L : List Lk, ayr (fun _ => true) L ≤ ayr f L
 | [] => Int.le_refl _
 | l :: t => by
   have := aQs f t
   simp only [ayr, if_true]
   split <;> omega
theorem amV (f : Lk → Bool) : ∀ L : List Lk, ayr f L ≤ 0
 | [] => Int.le_refl _
 | l :: t => by
   have := amV f t
   simp only [ayr]
   split <;> omega
theorem aNr {f : Lk → Bool} {l : Lk} (hf : f l = true) : ∀ {L : List Lk}, l ∈ L → ayr f L ≤ l.2.2
 | a :: t, h => by
   simp only [ayr]
   rcases List.mem_cons.1 h with rfl | h
   ·have := amV f t
    rw [if_pos hf]; omega
   ·have := aNr hf h
    split <;> omega
theorem aQr {f g : Lk → Bool} (h : ∀ l, f l = true → g l = false) : ∀ L : List Lk, ayr (fun l => f l || g l) L = ayr f L + ayr g L
 | [] => rfl
 | l :: t => by
   have ih := aQr h t
   simp only [ayr, ih]
   by_cases hf : f l = true
   ·simp [hf, h l hf]; omega
   ·have hf' : f l = false := by simpa using hf
    by_cases hg : g l = true
    ·simp [hf', hg]; omega
    ·simp [hf', hg]
theorem Wl.low {vs : List Int} {v d : Int} (h : Wl L S vs v d) : vs.Nodup → ayr (fun l => vs.contains l.1) L ≤ d := by
 induction h with
 | nil h => intro _; exact amV _ _
 | @step vs u v m d hw hl ih =>
   intro hn
   rw [List.nodup_cons] at hn
   have h1 := ih hn.2
   have h2 : ayr (fun l => l.1 == u) L ≤ m := aNr (f := fun l => l.1 == u) (l := (u, v, m)) (by simp) hl
   have h3 := aQr (f := fun l : Lk => l.1 == u) (g := fun l => vs.contains l.1) (fun l hf => by
    simp only [beq_iff_eq] at hf
    rw [hf]
    simpa using hn.1) L
   have h4 : (fun l : Lk => (u :: vs).contains l.1) = fun l => (l.1 == u) || vs.contains l.1 := by funext l; rw [List.contains_cons]
   rw [h4, h3]
   omega
def azb (L : List Lk) : Int := ayr (fun _ => true) L
theorem Wl.low' (hp : Pot L p) {vs : List Int} {v d : Int} (h : Wl L S vs v d) : azb L ≤ d := by
 obtain ⟨vs', d', h1, h2, h3⟩ := h.simple hp
 have := h1.low (List.nodup_cons.1 h3).2
 have := aQs (fun l => vs'.contains l.1) L
 unfold azb
 omega
theorem Wl.high {M : Int} (hM : ∀ l ∈ L, l.2.2 ≤ M) {vs : List Int} {v d : Int} (h : Wl L S vs v d) : d ≤ vs.length * M := by
 induction h with
 | nil h => simp
 | @step vs u v m d hw hl ih =>
   have := hM _ hl
   simp only [List.length_cons, Int.natCast_succ, Int.add_mul, Int.one_mul]
   simp only at this
   omega
theorem Wl.lowM {M : Int} (hM : ∀ l ∈ L, -M ≤ l.2.2) {vs : List Int} {v d : Int} (h : Wl L S vs v d) : -(vs.length * M) ≤ d := by
 induction h with
 | nil h => simp
 | @step vs u v m d hw hl ih =>
   have := hM _ hl
   simp only [List.length_cons, Int.natCast_succ, Int.add_mul, Int.one_mul]
   simp only at this
   omega
theorem Wl.mono {S' : Int → Prop} (hS : ∀ v, S v → S' v) {vs : List Int} {v d : Int} (h : Wl L S vs v d) : Wl L S' vs v d := by
 induction h with
 | nil h => exact .nil (hS _ h)
 | step hw hl ih => exact .step ih hl
theorem Wl.pot (hp : Pot L p) {vs : List Int} {v d : Int} (h : Wl L S vs v d) : ∃ s, S s ∧ p v - p s ≤ d := by
 induction h with
 | @nil v h => exact ⟨v, h, by omega⟩
 | @step vs u v m d hw hl ih =>
   obtain ⟨s, h1, h2⟩ := ih
   have := hp u v m hl
   exact ⟨s, h1, by omega⟩
end
abbrev ad0 : Int := 1152921504606846976
structure aPz (L : List Lk) (S : Int → Prop) (N : Nat) (x : Int → Int) : Prop where
 att : ∀ v : Int, 0 ≤ v → v < N → x v ≠ ad0 → ∃ vs, Wl L S vs v (x v)
 low : ∀ v vs d, Wl L S vs v d → x v ≤ d
 bd : ∀ v : Int, 0 ≤ v → v < N → x v ≤ ad0
theorem aPz.uniq {L : List Lk} {S : Int → Prop} {N : Nat} {x y : Int → Int} (hx : aPz L S N x) (hy : aPz L S N y) {v : Int} (h0 : 0 ≤ v) (h1 : v < N) : x v = y v := by
 have key : ∀ {x y : Int → Int}, aPz L S N x → aPz L S N y → x v ≤ y v := by
  intro x y hx hy
  by_cases h : y v = ad0
  ·rw [h]; exact hx.bd v h0 h1
  ·obtain ⟨vs, hw⟩ := hy.att v h0 h1 h
   exact hx.low v vs _ hw
 exact Int.le_antisymm (key hx hy) (key hy hx)
def gv (x : List Int) (v : Int) : Int := x[v.toNat]?.getD 0
theorem aKm {x : List Int} {v : Int} (h : v.toNat < x.length) : x[v.toNat]? = some (gv x v) := by
 unfold gv; rw [List.getElem?_eq_getElem h]; rfl
theorem ali {x : List Int} {u v : Int} (hu : 0 ≤ u) (hv : 0 ≤ v) (h : u.toNat < x.length) (y : Int) : gv (x.set u.toNat y) v = if v = u then y else gv x v := by
 unfold gv
 rw [List.getElem?_set]
 by_cases hvu : v = u
 ·subst hvu; simp [h]
 ·have : ¬ u.toNat = v.toNat := by omega
  simp [hvu, this]
theorem aNB {x y : List Int} (hl : x.length = y.length) (h : ∀ v : Int, 0 ≤ v → v < x.length → gv x v = gv y v) : x = y := by
 refine List.ext_getElem hl fun i h1 h2 => ?_
 have := h i (by omega) (by omega)
 unfold gv at this
 simpa [h1, h2] using this
def ah1 (x : List Int) (l : Lk) : List Int := if gv x l.1 < ad0 ∧ gv x l.1 + l.2.2 < gv x l.2.1 then x.set l.2.1.toNat (gv x l.1 + l.2.2) else x
def ayo (L : List Lk) (x : List Int) : List Int := L.foldl ah1 x
def ahw (L : List Lk) : Nat → List Int → List Int
 | 0, x => x
 | n + 1, x => ahw L n (ayo L x)
theorem ajv (x : List Int) (l : Lk) : (ah1 x l).length = x.length := by unfold ah1; split <;> simp
theorem aoN (L : List Lk) : ∀ x : List Int, (ayo L x).length = x.length := by
 induction L with
 | nil => intro x; rfl
 | cons l t ih => intro x; show (ayo t (ah1 x l)).length = _; rw [ih, ajv]
theorem ad3 (L : List Lk) : ∀ (n : Nat) (x : List Int), (ahw L n x).length = x.length
 | 0, x => rfl
 | n + 1, x => by rw [ahw, ad3 L n, aoN]
theorem ar1 (L : List Lk) : ∀ (n : Nat) (x : List Int), ahw L (n + 1) x = ayo L (ahw L n x)
 | 0, x => rfl
 | n + 1, x => by rw [ahw, ar1 L n]; rfl
section
variable {L0 : List Lk} {S : Int → Prop} {N : Nat}
theorem aIx {x : List Int} {l : Lk} (hl : (0 ≤ l.1 ∧ l.1 < N) ∧ (0 ≤ l.2.1 ∧ l.2.1 < N)) (hx : x.length = N) (v : Int) (hv : 0 ≤ v) : gv (ah1 x l) v ≤ gv x v := by
 unfold ah1
 split
 ·rename_i h
  rw [ali hl.2.1 hv (by omega)]
  split
  ·rename_i h2; subst h2; omega
  ·exact Int.le_refl _
 ·exact Int.le_refl _
theorem as7 : ∀ {L : List Lk}, InR L N → ∀ {x : List Int}, x.length = N → ∀ v, 0 ≤ v → gv (ayo L x) v ≤ gv x v
 | [], _, x, _, v, _ => Int.le_refl _
 | l :: t, hL, x, hx, v, hv => by
   have h1 := aIx (hL l (by simp)) hx v hv
   have h2 := as7 (L := t) (fun l hl => hL l (by simp [hl])) (x := ah1 x l) (by rw [ajv, hx]) v hv
   show gv (ayo t (ah1 x l)) v ≤ _
   omega
theorem avO : ∀ {L : List Lk}, InR L N → ∀ {x : List Int}, x.length = N → ∀ u v m, (u, v, m) ∈ L → gv x u < ad0 → gv (ayo L x) v ≤ gv x u + m
 | l :: t, hL, x, hx, u, v, m, hm, hf => by
   have ht : InR t N := fun l hl => hL l (by simp [hl])
   have hx' : (ah1 x l).length = N := by rw [ajv, hx]
   show gv (ayo t (ah1 x l)) v ≤ _
   rcases List.mem_cons.1 hm with rfl | hm
   ·have hl := hL (u, v, m) (by simp)
    have h2 := as7 ht hx' v hl.2.1
    have h3 : gv (ah1 x (u, v, m)) v ≤ gv x u + m := by
     unfold ah1
     split
     ·rw [ali hl.2.1 hl.2.1 (by simp only at hl; simp only; omega), if_pos rfl]; exact Int.le_refl _
     ·rename_i h; simp only [not_and, Int.not_lt] at h; exact h hf
    omega
   ·have hl := hL (u, v, m) (by simp [hm])
    have h1 := aIx (hL l (by simp)) hx u hl.1.1
    have := avO ht hx' u v m hm (by omega)
    omega
def Att (L0 : List Lk) (S : Int → Prop) (N : Nat) (x : List Int) : Prop := ∀ v : Int, 0 ≤ v → v < N → gv x v < ad0 → ∃ vs, Wl L0 S vs v (gv x v)
theorem aOt {x : List Int} {l : Lk} (hl : (0 ≤ l.1 ∧ l.1 < N) ∧ (0 ≤ l.2.1 ∧ l.2.1 < N)) (hm : l ∈ L0) (hx : x.length = N) (h : Att L0 S N x) : Att L0 S N (ah1 x l) := by
 unfold ah1
 split
 ·rename_i hc
  intro v h0 h1 hf
  rw [ali hl.2.1 h0 (by omega)] at hf ⊢
  split
  ·rename_i h2
   obtain ⟨vs, hw⟩ := h l.1 hl.1.1 hl.1.2 hc.1
   exact ⟨_, h2 ▸ Wl.step hw hm⟩
  ·rename_i h2
   rw [if_neg h2] at hf
   exact h v h0 h1 hf
 ·exact h
theorem aII : ∀ {L : List Lk}, InR L N → (∀ l ∈ L, l ∈ L0) → ∀ {x : List Int}, x.length = N → Att L0 S N x → Att L0 S N (ayo L x)
 | [], _, _, _, _, h => h
 | l :: t, hL, hsub, x, hx, h => aII (L := t) (fun l hl => hL l (by simp [hl])) (fun l hl => hsub l (by simp [hl])) (x := ah1 x l) (by rw [ajv, hx]) (aOt (hL l (by simp)) (hsub l (by simp)) hx h)
theorem aEq (hL : InR L0 N) : ∀ (n : Nat) {x : List Int}, x.length = N → Att L0 S N x → Att L0 S N (ahw L0 n x)
 | 0, _, _, h => h
 | n + 1, x, hx, h => aEq hL n (by rw [aoN, hx]) (aII hL (fun _ h => h) hx h)
theorem as6 (hL : InR L0 N) : ∀ (n : Nat) {x : List Int}, x.length = N → ∀ v, 0 ≤ v → gv (ahw L0 n x) v ≤ gv x v
 | 0, _, _, _, _ => Int.le_refl _
 | n + 1, x, hx, v, hv => Int.le_trans (as6 hL n (by rw [aoN, hx]) v hv) (as7 hL hx v hv)
def amQ (S : Int → Bool) (N : Nat) : List Int := (List.range N).map fun (i : Nat) => if S i then 0 else ad0
theorem af1 (S : Int → Bool) {N : Nat} {v : Int} (h0 : 0 ≤ v) (h1 : v < N) : gv (amQ S N) v = if S v then 0 else ad0 := by
 unfold gv amQ
 have : v.toNat < N := by omega
 rw [List.getElem?_map, List.getElem?_range this]
 simp only [Option.map_some, Option.getD_some]
 rw [Int.toNat_of_nonneg h0]
theorem ac2 (S : Int → Bool) (N : Nat) : (amQ S N).length = N := by simp [amQ]
end
theorem avN {L : List Lk} {S : Int → Bool} {N : Nat} {M : Int} (hL : InR L N) (hS : ∀ v, S v = true → 0 ≤ v ∧ v < N) (hM : ∀ l ∈ L, l.2.2 ≤ M) : ∀ (n : Nat), n * M < ad0 → 0 ≤ M → ∀ vs v d, Wl L (fun v => S v = true) vs v d → vs.length ≤ n → gv (ahw L n (amQ S N)) v ≤ d
 | 0, _, _, vs, v, d, hw, hl => by
   cases hw with
   | nil h =>
     have := hS v h
     rw [ahw, af1 S this.1 this.2, if_pos h]; exact Int.le_refl _
   | step => simp at hl
 | n + 1, hn, hM0, vs, v, d, hw, hl => by
   have hn' : n * M < ad0 := by rw [Int.natCast_succ, Int.add_mul, Int.one_mul] at hn; omega
   have hlen : (ahw L n (amQ S N)).length = N := by rw [ad3, ac2]
   rw [ar1]
   cases hw with
   | nil h =>
     have h1 := as7 hL hlen v (hS v h).1
     have h2 := avN hL hS hM n hn' hM0 [] v 0 (.nil h) (by simp)
     omega
   | @step vs u _ m d hw hlk =>
     have h2 := avN hL hS hM n hn' hM0 vs u d hw (by simpa using hl)
     have h3 := hw.high hM
     have h4 : (vs.length : Int) * M ≤ n * M := Int.mul_le_mul_of_nonneg_right (by simp at hl; omega) hM0
     have := avO hL hlen u v m hlk (by omega)
     omega
theorem azP {L : List Lk} {S : Int → Bool} {N : Nat} {M : Int} {p : Int → Int} (hp : Pot L p) (hL : InR L N) (hS : ∀ v, S v = true → 0 ≤ v ∧ v < N) (hM : ∀ l ∈ L, l.2.2 ≤ M) (hM0 : 0 ≤ M) (hN : N * M < ad0) (n : Nat) (hn : N ≤ n + 1) : aPz L (fun v => S v = true) N (gv (ahw L n (amQ S N))) := by
 have hatt : Att L (fun v => S v = true) N (amQ S N) := fun v h0 h1 hf => by
  rw [af1 S h0 h1] at hf ⊢
  split
  ·rename_i h; exact ⟨[], .nil h⟩
  ·rename_i h; rw [if_neg h] at hf; omega
 have hbd : ∀ v : Int, 0 ≤ v → v < N → gv (ahw L n (amQ S N)) v ≤ ad0 := fun v h0 h1 => by
  have := as6 hL n (ac2 S N) v h0
  rw [af1 S h0 h1] at this
  have hF : (0 : Int) ≤ ad0 := by decide
  split at this <;> omega
 have hlow : ∀ (n : Nat), N ≤ n + 1 → ∀ v vs d, Wl L (fun v => S v = true) vs v d → gv (ahw L n (amQ S N)) v ≤ d := by
  intro n hn v vs d hw
  obtain ⟨vs', d', h1, h2, h3⟩ := hw.simple hp
  have h4 := h1.short hL hS h3
  have hpos : 0 < N := by omega
  obtain ⟨k, rfl⟩ : ∃ k, N = k + 1 := ⟨N - 1, by omega⟩
  have hk : (k : Int) * M < ad0 := by rw [Int.natCast_succ, Int.add_mul, Int.one_mul] at hN; omega
  have h5 := avN hL hS hM k hk hM0 vs' v d' h1 (by omega)
  obtain ⟨j, rfl⟩ : ∃ j, n = k + j := ⟨n - k, by omega⟩
  have h6 : ∀ (j : Nat), gv (ahw L (k + j) (amQ S (k + 1))) v ≤ gv (ahw L k (amQ S (k + 1))) v := by
   intro j
   induction j with
   | zero => exact Int.le_refl _
   | succ j ih =>
     rw [← Nat.add_assoc, ar1]
     have := as7 hL (x := ahw L (k + j) (amQ S (k + 1))) (by rw [ad3, ac2]) v (h1.range hL hS).1.1
     omega
  have := h6 j
  omega
 exact ⟨fun v h0 h1 hne => aEq hL n (ac2 S N) hatt v h0 h1 (by have := hbd v h0 h1; omega), hlow n hn, hbd⟩
theorem aPz.pot {L : List Lk} {S : Int → Prop} {N : Nat} {x : Int → Int} (h : aPz L S N x) (hL : InR L N) {u v m : Int} (hl : (u, v, m) ∈ L) (hf : x u ≠ ad0) : x v ≤ x u + m := by
 obtain ⟨vs, hw⟩ := h.att u (hL _ hl).1.1 (hL _ hl).1.2 hf
 exact h.low v _ _ (.step hw hl)
end Go.Proofs.ZzM
end
noncomputable section
namespace Go.Proofs.ZzM
open Go Go.Am
def acR (b : acz) (g : acT) : List Lk :=
 [(0, atP (acd b) [g.1] g.2.1, g.2.2.1 + g.2.2.2.1.2), (atP (acd b) [g.1] g.2.1, 0, -(g.2.2.1 + g.2.2.2.1.1))] ++
 (List.range ((acC b g).length - 1)).flatMap fun (k : Nat) => [(atP (acd b) [g.1] g.2.1 + k, atP (acd b) [g.1] g.2.1 + k + 1, 0), (atP (acd b) [g.1] g.2.1 + k + 1, atP (acd b) [g.1] g.2.1 + k, agv b g ((acC b g)[k]?.getD 0) ((acC b g)[k + 1]?.getD 0))]
def cx (b : acz) (c : Cmp) : Int := atP (acd b) (adb c.2.2.1 c.2.2.2.1) c.2.1
def cy (b : acz) (c : Cmp) : Int := atP (acd b) (adb c.2.2.2.1 c.2.2.1) c.2.1
def acX (b : acz) (c : Cmp) : List Lk := [(cy b c, cx b c, (aeO b c).2), (cx b c, cy b c, -(aeO b c).1)]
def acn (b : acz) : List Lk := b.2.1.flatMap (acR b) ++ b.2.2.2.2.1.flatMap (acX b)
def acQ (b : acz) (i : Nat) (g : acT) : List (Int × Int) := [(1, (i : Int)), (1, (i : Int))] ++ (List.range ((acC b g).length - 1)).flatMap fun _ => [(2, (i : Int)), (2, (i : Int))]
def ads (b : acz) : List (Int × Int) := (b.2.1.mapIdx (acQ b)).flatten ++ (b.2.2.2.2.1.mapIdx fun i _ => [(3, (i : Int)), (3, (i : Int))]).flatten
section
variable {b : acz}
theorem aIc (h : adh b) {id day : Int} (hu : aPu (agF b) id day = 0) : (0 ≤ day ∧ day ≤ 20000) ∧ ∃ g, afZ b id = some g ∧ g.2.1 ≤ day := by
 unfold aPu at hu
 split at hu
 ·omega
 ·rename_i hd
  simp only [Bool.not_eq_true', Bool.not_eq_false, aLc, inP, Bool.and_eq_true, decide_eq_true_eq] at hd
  exact ⟨hd, avV h hu⟩
theorem agl {g : acT} {d : Int} : d ∈ acC b g ↔ d = g.2.1 ∨ (∃ c ∈ b.2.2.2.2.1, (c.2.2.1.contains g.1) ≠ (c.2.2.2.1.contains g.1) ∧ c.2.1 = d) ∨ (∃ n ∈ b.2.2.2.2.2, n.1 = g.1 ∧ n.2 = d) := by
 unfold acC
 rw [aqe, aMt]
 simp only [List.mem_append, List.mem_singleton, List.mem_map, List.mem_filter]
 constructor
 ·rintro ((h | ⟨c, ⟨h1, h2⟩, h3⟩) | ⟨n, ⟨h1, h2⟩, h3⟩)
  ·exact .inl h
  ·exact .inr (.inl ⟨c, h1, by simpa using h2, h3⟩)
  ·exact .inr (.inr ⟨n, h1, by simpa using h2, h3⟩)
 ·rintro (h | ⟨c, h1, h2, h3⟩ | ⟨n, h1, h2, h3⟩)
  ·exact .inl (.inl h)
  ·exact .inl (.inr ⟨c, ⟨h1, by simpa using h2⟩, h3⟩)
  ·exact .inr ⟨n, ⟨h1, by simpa using h2⟩, h3⟩
theorem adh.gaugeR (h : adh b) {g : acT} (hg : g ∈ b.2.1) : aCR g.2.2.2.2.1 = true ∧ (-1000 ≤ g.2.2.2.2.1.1 ∧ g.2.2.2.2.1.1 ≤ 1000) ∧ g.2.2.2.2.1.2 ≤ 100 ∧ (1 ≤ g.1 ∧ g.1 ≤ 1099511627776) ∧ (0 ≤ g.2.1 ∧ g.2.1 ≤ 20000) ∧ (1 ≤ g.2.2.1 ∧ g.2.2.1 ≤ 1125899906842624) ∧ (-1073741824 ≤ g.2.2.2.1.1 ∧ g.2.2.2.1.1 ≤ g.2.2.2.1.2 ∧ g.2.2.2.1.2 ≤ 1073741824) ∧ (0 ≤ g.2.2.2.2.2 ∧ g.2.2.2.2.2 ≤ 1048576) := (aE4 g).1 (h.gauge g hg)
theorem adh.day (h : adh b) {g : acT} (hg : g ∈ b.2.1) {d : Int} (hd : d ∈ acC b g) : g.2.1 ≤ d ∧ 0 ≤ d ∧ d ≤ 20000 := by
 have hr := h.gaugeR hg
 have hgo := ae8 h.ids hg
 rcases agl.1 hd with rfl | ⟨c, hc, h1, rfl⟩ | ⟨n, hn, h1, rfl⟩
 ·have := hr.2.2.2.2.1; omega
 ·have hn := (ahx c).1 (h.nums hc)
  have hx : g.1 ∈ c.2.2.1 ++ c.2.2.2.1 := by
   rw [List.mem_append]
   by_cases h2 : g.1 ∈ c.2.2.1
   ·exact .inl h2
   ·refine .inr ?_
    have e1 : c.2.2.1.contains g.1 = false := by simpa using h2
    rw [e1] at h1
    have : c.2.2.2.1.contains g.1 = true := by cases hh : c.2.2.2.1.contains g.1 <;> simp_all
    simpa using this
  obtain ⟨⟨g', h3, h4⟩, _⟩ := h.pile hc hx
  rw [hgo] at h3; cases h3
  have := hn.2.1
  omega
 ·obtain ⟨h2, g', h3, h4⟩ := aIc h (h.looks n hn)
  rw [h1, hgo] at h3; cases h3
  omega
theorem aiK (g : acT) : g.2.1 ∈ acC b g := agl.2 (.inl rfl)
theorem aHJ (h : adh b) {g : acT} (hg : g ∈ b.2.1) : (acC b g).length ≤ 59 := by
 have h1 : ∀ l : List acT, g ∈ l → (acC b g).length ≤ (l.flatMap fun g => (acC b g).map fun d => ((g.1, d) : Int × Int)).length := by
  intro l
  induction l with
  | nil => intro hg; cases hg
  | cons a t ih =>
    intro hg
    rw [List.flatMap_cons, List.length_append, List.length_map]
    rcases List.mem_cons.1 hg with rfl | hg
    ·omega
    ·have := ih hg; omega
 have := h1 b.2.1 hg
 have := h.nodes
 unfold acd at this
 omega
theorem aRT {p : List Int} {d : Int} : 0 ≤ atP (acd b) p d ∧ atP (acd b) p d ≤ (acd b).length := by
 unfold atP
 cases p with
 | nil => simp
 | cons x t =>
   try dsimp only
   cases h : ag0 (acd b) x d with
   | none => simp
   | some j => have := (ah9 h).1; dsimp only; omega
theorem azH (h : adh b) {c : Cmp} (hc : c ∈ b.2.2.2.2.1) : (-1125904000000000 ≤ (aeO b c).1 ∧ (aeO b c).1 ≤ 1125904000000000) ∧ (-1125904000000000 ≤ (aeO b c).2 ∧ (aeO b c).2 ≤ 1125904000000000) := by
 obtain ⟨r1, r2⟩ := h.rates hc
 have hn := (ahx c).1 (h.nums hc)
 have ha := aeY hn.2.2.2.2.2.1
 have hb := aeY hn.2.2.2.2.2.2
 have hf := h.film
 obtain ⟨g1, g2⟩ := aFQ (aFv r1 r2) hn.2.2.2.2.1
 have fb := asQ (b := b) (c := c) (by omega) (by omega) (by omega) (by omega) (by omega) (by omega)
 have q1 : amO (adC b c).1 2000000000 10000 := g1
 have q2 : amO (adC b c).2 2000000000 10000 := g2
 have c1 := aw8 q1
 have c2 := asN q2
 have n3 := hn.2.2.1
 have n4 := hn.2.2.2.1
 unfold aeO
 try dsimp only
 omega
theorem anI (h : adh b) {g : acT} (hg : g ∈ b.2.1) {f t : Int} (hf : 0 ≤ f) : 0 ≤ agv b g f t ∧ agv b g f t ≤ 12 * (20001 * 1048576) + 40 * 1048576 := by
 have hr := (h.gaugeR hg).2.2.2.2.2.2.2
 have h1 := alM (id := g.1) (t := t) hf (x := b.2.2.2.1) fun l hl => aqs h hl
 have h2 : (b.2.2.2.1.length : Int) * (20001 * 1048576) ≤ 12 * (20001 * 1048576) := Int.mul_le_mul_of_nonneg_right (by have := h.nL; omega) (by omega)
 have h3 : (ae5 b g.1 f t).length ≤ 40 := by
  unfold ae5
  rw [List.length_map]
  exact Nat.le_trans (List.length_filter_le _ _) h.nU
 have h4 := ay7 (ae5 b g.1 f t)
 have hm : 0 ≤ ((aH7 (ae5 b g.1 f t)).length : Int) * g.2.2.2.2.2 ∧ ((aH7 (ae5 b g.1 f t)).length : Int) * g.2.2.2.2.2 ≤ 40 * 1048576 :=
  ⟨Int.mul_nonneg (by omega) hr.1, Int.mul_le_mul (by omega) hr.2 hr.1 (by omega)⟩
 unfold agv
 omega
end
theorem aia {α β : Type} (f : Nat → α → β) {l : List α} {i : Nat} {a : α} (h : l[i]? = some a) : (l.take (i + 1)).mapIdx f = (l.take i).mapIdx f ++ [f i a] := by
 have hi : i < l.length := (List.getElem?_eq_some_iff.1 h).1
 have : (l.take i).length = i := by rw [List.length_take]; omega
 rw [take_succ h, List.mapIdx_append]
 simp [this]
theorem avK {α : Type} (f : Nat → List α) (j : Nat) : (List.range (j + 1)).flatMap f = (List.range j).flatMap f ++ f j := by
 rw [List.range_succ, List.flatMap_append]; simp
theorem afE {α : Type} (f : Nat → List α) (n : Nat) (h : ∀ k, (f k).length = 2) : ((List.range n).flatMap f).length = 2 * n := by
 induction n with
 | zero => rfl
 | succ n ih => rw [avK, List.length_append, ih, h]; omega
set_option maxHeartbeats 2000000 in
theorem aFY {b : acz} (h : adh b) : aqz b = some (b, acd b, (((acd b).length : Int) + 1, acn b), ads b) := by
 unfold aqz aGZ
 have hN := h.nodes
 have hG := h.nG
 have hC := h.nC
 rw [aFS h.size, ab2, acB, acq (by omega) (by omega)]
 -- lengths of what comes
 have gl : ∀ g ∈ b.2.1, (acR b g).length ≤ 120 ∧ ∀ i, (acQ b i g).length ≤ 120 := by
  intro g hg
  have := aHJ h hg
  constructor
  ·unfold acR
   rw [List.length_append, afE _ _ (fun _ => rfl)]
   simp only [List.length_cons, List.length_nil]; omega
  ·intro i
   unfold acQ
   rw [List.length_append, afE _ _ (fun _ => rfl)]
   simp only [List.length_cons, List.length_nil]; omega
 have gls : ∀ i, ((b.2.1.take i).flatMap (acR b)).length ≤ 1440 ∧ (((b.2.1.take i).mapIdx (acQ b)).flatten).length ≤ 1440 := by
  intro i
  induction i with
  | zero => simp
  | succ i ih =>
    have key : ∀ i, i ≤ b.2.1.length → ((b.2.1.take i).flatMap (acR b)).length ≤ i * 120 ∧ (((b.2.1.take i).mapIdx (acQ b)).flatten).length ≤ i * 120 := by
     intro i
     induction i with
     | zero => intro _; simp
     | succ i ih =>
       intro hi
       have ih := ih (by omega)
       have hg : b.2.1[i]? = some b.2.1[i] := List.getElem?_eq_getElem hi
       have h2 := gl _ (List.mem_of_getElem? hg)
       have h3 := h2.2 i
       rw [aia _ hg, take_succ hg, List.flatMap_append, List.flatten_append, List.length_append, List.length_append]
       simp only [List.flatMap_cons, List.flatMap_nil, List.append_nil, List.flatten_cons, List.flatten_nil]
       omega
    rcases Nat.lt_or_ge b.2.1.length (i + 1) with h1 | h1
    ·rw [List.take_of_length_le (by omega)]
     have := key b.2.1.length (Nat.le_refl _)
     rw [List.take_length] at this
     omega
    ·have := key (i + 1) h1
     omega
 refine ac3 b.2.1 (fun i => ((b.2.1.take i).flatMap (acR b), ((b.2.1.take i).mapIdx (acQ b)).flatten)) _ rfl (fun i g hi hg kn => ?_) (fun kn => ?_)
 ·try dsimp only
  unfold anx
  have hgm := List.mem_of_getElem? hg
  have hr := h.gaugeR hgm
  have hd := aHJ h hgm
  have hls := gls i
  have hat := aRT (b := b) (p := [g.1]) (d := g.2.1)
  rw [aco hi, aci hg]
  rw [show ajF ((b.1.1, b.1.2), b.2.1, b.2.2.1, b.2.2.2.1, b.2.2.2.2.1, b.2.2.2.2.2) g = ajF b g from rfl, aRk h.size, ab2]
  rw [aRS _ _ _ (by dsimp only; omega), ab2]
  try dsimp only
  have r1 := hr.2.2.2.2.2.1
  have r2 := hr.2.2.2.2.2.2.1
  rw [acq (by omega) (by omega), acq (by omega) (by omega), acq (by omega) (by omega), acp (by simp only [List.length_cons, List.length_nil]; omega), Am.iff_true, acp (by simp only [List.length_cons, List.length_nil]; omega), Am.iff_true]
  refine afn (fun x : Int × List Lk × List (Int × Int) => ∃ j : Nat, j + 1 ≤ (acC b g).length ∧ x.1 = (j : Int) + 1 ∧
   x.2.1 = (b.2.1.take i).flatMap (acR b) ++ ([(0, atP (acd b) [g.1] g.2.1, g.2.2.1 + g.2.2.2.1.2), (atP (acd b) [g.1] g.2.1, 0, -(g.2.2.1 + g.2.2.2.1.1))] ++
    (List.range j).flatMap fun (k : Nat) => [(atP (acd b) [g.1] g.2.1 + k, atP (acd b) [g.1] g.2.1 + k + 1, 0), (atP (acd b) [g.1] g.2.1 + k + 1, atP (acd b) [g.1] g.2.1 + k, agv b g ((acC b g)[k]?.getD 0) ((acC b g)[k + 1]?.getD 0))]) ∧
   x.2.2 = ((b.2.1.take i).mapIdx (acQ b)).flatten ++ ([(1, (i : Int)), (1, (i : Int))] ++ (List.range j).flatMap fun _ => [(2, (i : Int)), (2, (i : Int))])) (fun x => (acC b g).length - x.1.toNat) ?_
   ⟨0, List.length_pos_of_mem (aiK g), rfl, by simp, by simp⟩
  rintro ⟨x1, ls, ss⟩ ⟨j, hj, e1, e2, e3⟩
  dsimp only at e1 e2 e3 ⊢
  subst e1
  have hlls : ls.length ≤ 1562 := by
   rw [e2, List.length_append, List.length_append, afE _ _ (fun _ => rfl)]
   simp only [List.length_cons, List.length_nil]; omega
  have hlss : ss.length ≤ 1562 := by
   rw [e3, List.length_append, List.length_append, afE _ _ (fun _ => rfl)]
   simp only [List.length_cons, List.length_nil]; omega
  rcases Nat.lt_or_ge (j + 1) (acC b g).length with hlt | hge
  ·refine .inr ⟨((j : Int) + 1 + 1, _, _), ⟨j + 1, hlt, by push_cast; rfl, rfl, rfl⟩, by dsimp only; omega, fun kn' => ?_⟩
   try dsimp only
   unfold anw
   have g1 : (acC b g)[j]? = some ((acC b g)[j]?.getD 0) := by rw [List.getElem?_eq_getElem (by omega)]; rfl
   have g2 : (acC b g)[j + 1]? = some ((acC b g)[j + 1]?.getD 0) := by rw [List.getElem?_eq_getElem hlt]; rfl
   have d1 := h.day hgm (List.mem_of_getElem? g1)
   have d2 := h.day hgm (List.mem_of_getElem? g2)
   have lb := anI h hgm (t := (acC b g)[j + 1]?.getD 0) d1.2.1
   have ec : ((j : Int) + 1) = ((j + 1 : Nat) : Int) := by push_cast; rfl
   rw [ec, aco hlt, acq (by omega) (by omega), acq (by omega) (by omega), acq (by omega) (by omega), acq (by omega) (by omega)]
   rw [show (((j + 1 : Nat) : Int) - 1) = ((j : Nat) : Int) by omega, aci g1, aci g2]
   rw [show aqA ((b.1.1, b.1.2), b.2.1, b.2.2.1, b.2.2.2.1, b.2.2.2.2.1, b.2.2.2.2.2) (g.1, g.2.1, g.2.2.1, (g.2.2.2.1.1, g.2.2.2.1.2), (g.2.2.2.2.1.1, g.2.2.2.2.1.2), g.2.2.2.2.2) ((acC b g)[j]?.getD 0) ((acC b g)[j + 1]?.getD 0) = aqA b g ((acC b g)[j]?.getD 0) ((acC b g)[j + 1]?.getD 0) from rfl]
   rw [aUE h hr.2.2.2.2.2.2.2 ⟨by omega, by omega⟩ ⟨by omega, by omega⟩, ab2, acq (by omega) (by omega), acq (by omega) (by omega), acp (by simp only [List.length_cons, List.length_nil]; omega), Am.iff_true, acp (by simp only [List.length_cons, List.length_nil]; omega), Am.iff_true, ack hlt (by omega)]
   rw [avK, avK, e2, e3]
   have a1 : atP (acd b) [g.1] g.2.1 + ((j + 1 : Nat) : Int) - 1 = atP (acd b) [g.1] g.2.1 + (j : Int) := by push_cast; omega
   have a2 : atP (acd b) [g.1] g.2.1 + ((j + 1 : Nat) : Int) = atP (acd b) [g.1] g.2.1 + (j : Int) + 1 := by push_cast; omega
   have a3 : 0 - (0 - agv b g ((acC b g)[j]?.getD 0) ((acC b g)[j + 1]?.getD 0)) = agv b g ((acC b g)[j]?.getD 0) ((acC b g)[j + 1]?.getD 0) := by omega
   rw [a1, a2, a3]
   simp only [List.append_assoc]
  ·refine .inl fun kn' => ?_
   have hje : j + 1 = (acC b g).length := by omega
   unfold anw
   rw [show ((j : Int) + 1) = (((acC b g).length : Nat) : Int) by rw [← hje]; push_cast; rfl, acK]
   dsimp only
   rw [ack hi (by omega)]
   rw [aia _ hg, take_succ hg, List.flatMap_append, List.flatten_append, e2, e3, show j = (acC b g).length - 1 by omega]
   simp only [List.flatMap_cons, List.flatMap_nil, List.append_nil, List.flatten_cons, List.flatten_nil]
   rfl
 ·try dsimp only
  unfold anx
  rw [acK, List.take_length]
  have hls := gls b.2.1.length
  rw [List.take_length] at hls
  have cl : ∀ i, i ≤ b.2.2.2.2.1.length → ((b.2.2.2.2.1.take i).flatMap (acX b)).length = 2 * i ∧ (((b.2.2.2.2.1.take i).mapIdx fun i _ => [((3 : Int), (i : Int)), ((3 : Int), (i : Int))]).flatten).length = 2 * i := by
   intro i
   induction i with
   | zero => intro _; simp
   | succ i ih =>
     intro hi
     have ih := ih (by omega)
     have hg : b.2.2.2.2.1[i]? = some b.2.2.2.2.1[i] := List.getElem?_eq_getElem hi
     rw [aia _ hg, take_succ hg, List.flatMap_append, List.flatten_append, List.length_append, List.length_append]
     simp only [List.flatMap_cons, List.flatMap_nil, List.append_nil, List.flatten_cons, List.flatten_nil, acX, List.length_cons, List.length_nil]
     omega
  refine ac3 b.2.2.2.2.1 (fun i => (b.2.1.flatMap (acR b) ++ (b.2.2.2.2.1.take i).flatMap (acX b), (b.2.1.mapIdx (acQ b)).flatten ++ ((b.2.2.2.2.1.take i).mapIdx fun i _ => [((3 : Int), (i : Int)), ((3 : Int), (i : Int))]).flatten)) _ (by simp) (fun i c hi hc kn' => ?_) (fun kn' => ?_)
  ·try dsimp only
   unfold anv
   have hcm := List.mem_of_getElem? hc
   have hn := (ahx c).1 (h.nums hcm)
   have ha := aeY hn.2.2.2.2.2.1
   have hb := aeY hn.2.2.2.2.2.2
   have sb := azH h hcm
   have c1 := cl i (by omega)
   rw [aco hi, aci hc, alN (by omega) (by omega), ab2, aRS _ _ _ (by dsimp only; omega), ab2, alN (by omega) (by omega), ab2, aRS _ _ _ (by dsimp only; omega), ab2]
   rw [show anR ((b.1.1, b.1.2), b.2.1, b.2.2.1, b.2.2.2.1, b.2.2.2.2.1, b.2.2.2.2.2) c = anR b c from rfl, h.says hcm, ab2]
   rw [acq (by omega) (by omega), acp (by simp only [List.length_append, List.length_cons, List.length_nil]; omega), Am.iff_true, acp (by simp only [List.length_append, List.length_cons, List.length_nil]; omega), Am.iff_true, ack hi (by omega), aia _ hc, take_succ hc, List.flatMap_append, List.flatten_append]
   simp only [List.flatMap_cons, List.flatMap_nil, List.append_nil, List.flatten_cons, List.flatten_nil, List.append_assoc, Int.zero_sub]
   rfl
  ·try dsimp only
   unfold anv
   rw [acK, List.take_length]
   rfl
end Go.Proofs.ZzM
end
noncomputable section
namespace Go.Proofs.ZzM
open Go Go.Am
section
variable {ρ : Type}
def wv (w : List Bool) (v : Int) : Bool := w[v.toNat]?.getD false
theorem aMR {w : List Bool} {u v : Int} (hu : 0 ≤ u) (hv : 0 ≤ v) (h : u.toNat < w.length) (y : Bool) : wv (w.set u.toNat y) v = if v = u then y else wv w v := by
 unfold wv
 rw [List.getElem?_set]
 by_cases hvu : v = u
 ·subst hvu; simp [h]
 ·have : ¬ u.toNat = v.toNat := by omega
  simp [hvu, this]
theorem ag1 {x : List Int} {v : Int} (h : v.toNat < x.length) (f : Int → Option ρ) : afx x v.toNat f = f (gv x v) := agT (aKm h) f
theorem aFT {w : List Bool} {v : Int} (h : v.toNat < w.length) (f : Bool → Option ρ) : afx w v.toNat f = f (wv w v) := by
 refine agT ?_ f
 unfold wv; rw [List.getElem?_eq_getElem h]; rfl
theorem aeQ {v : Int} {n : Nat} (h0 : 0 ≤ v) (h1 : v < n) (x : Option ρ) : acU ((ile 0 v) && (ilt v (n : Int))) x = x := by
 have : ((ile 0 v) && (ilt v (n : Int))) = true := by simp [ile, ilt, h0, h1]
 rw [this, Am.iff_true]
end
def akn (n least : Int) : List Lk → List Int → List Bool → List Int → Bool × List Int × List Bool × List Int
 | [], x, w, q => (true, x, w, q)
 | l :: t, x, w, q =>
   if l.1 ≠ n then akn n least t x w q else
   if gv x l.2.1 ≤ gv x n + l.2.2 then akn n least t x w q else
   if gv x n + l.2.2 < least then (false, x.set l.2.1.toNat (gv x n + l.2.2), w, q) else
   if wv w l.2.1 then akn n least t (x.set l.2.1.toNat (gv x n + l.2.2)) w q else akn n least t (x.set l.2.1.toNat (gv x n + l.2.2)) (w.set l.2.1.toNat true) (q ++ [l.2.1])
structure afO (L : List Lk) (N : Nat) (M : Int) : Prop where
 inr : InR L N
 noloop : ∀ l ∈ L, l.1 ≠ l.2.1
 most : ∀ l ∈ L, -M ≤ l.2.2 ∧ l.2.2 ≤ M
 len : L.length ≤ 400
 nodes : N ≤ 1000
 m0 : 0 ≤ M
 m1 : M ≤ 4503599627370496
set_option maxHeartbeats 1000000 in
theorem aSW {ρ : Type} {L : List Lk} {N : Nat} {M : Int} (hL : afO L N M) {n least : Int} (hn : 0 ≤ n ∧ n < N) {x : List Int} {w : List Bool} {q : List Int} (hx : x.length = N) (hw : w.length = N) (hq : q.length ≤ 1000000)
 (hb : -2305843009213693952 ≤ gv x n ∧ gv x n ≤ 2305843009213693952) (K0 : (Val (.pair .bool (.pair (.slice tI) (.pair (.slice .bool) (.slice tI))))) → Option ρ) (K1 : (Val (.pair (.slice tI) (.pair (.slice .bool) (.slice tI)))) → Option ρ) :
 acl (fun (v47 : (Val (.pair tI (.pair (.slice tI) (.pair (.slice .bool) (.slice tI)))))) kk52 => agd [] least n L (acv L) v47.1 v47.2.1 v47.2.2.1 v47.2.2.2 (fun u48 u49 u50 u51 => kk52 (u48, u49, u50, u51)) K0 K1) ((0 : Int), x, w, q) =
  match akn n least L x w q with
  | (true, r) => K1 r
  | (false, r) => K0 (false, r) := by
 have hlen := hL.len
 refine aHp L (fun i (s : List Int × List Bool × List Int) t => match akn n least t s.1 s.2.1 s.2.2 with | (true, r) => K1 r | (false, r) => K0 (false, r))
  (fun i s => s.1.length = N ∧ s.2.1.length = N ∧ gv s.1 n = gv x n ∧ s.2.2.length ≤ 1000000 + i) (fun s hs kn => ?_) (fun i l t s hd hi hl hI kn hk => ?_) (s := (x, w, q)) ⟨hx, hw, rfl, by simpa using hq⟩
 ·try dsimp only
  unfold agd
  rw [acK]
  rfl
 ·obtain ⟨y, u, p⟩ := s
  obtain ⟨h1, h2, h3, h4⟩ := hI
  dsimp only at h1 h2 h3 h4 hk ⊢
  have hmem : l ∈ L := List.mem_of_getElem? hl
  have hr := hL.inr l hmem
  have hm := hL.most l hmem
  have hm1 := hL.m1
  have hnl := hL.noloop l hmem
  unfold agd
  rw [aco hi, aci hl]
  unfold akn
  by_cases hln : l.1 = n
  ·have e0 : ine l.1 n = false := by simp [ine, hln]
   rw [acm e0]
   have e1 : ∀ (f : Bool → Option ρ) (g : Option ρ), aH8 (k := tI) (v := .bool) (i : Int) [] f g = g := fun f g => rfl
   rw [e1, if_neg (by simp [hln])]
   have tn : n.toNat < y.length := by omega
   have tt : l.2.1.toNat < y.length := by omega
   have tu : l.2.1.toNat < u.length := by omega
   rw [aeQ hn.1 (by omega), ag1 tn, acq (by omega) (by omega), aeQ hr.2.1 (by omega), ag1 tt, adM]
   by_cases hge : gv y l.2.1 ≤ gv y n + l.2.2
   ·rw [if_pos (by simpa [ige] using hge), if_pos hge, ack hi (by omega)]
    exact hk (y, u, p) ⟨h1, h2, h3, by dsimp only; omega⟩
   ·rw [if_neg (by simpa [ige] using hge), if_neg hge]
    have hset : gv (y.set l.2.1.toNat (gv y n + l.2.2)) n = gv x n := by
     rw [ali hr.2.1 hn.1 tt, if_neg (fun h => hnl (hln.trans h)), h3]
    have hself : gv (y.set l.2.1.toNat (gv y n + l.2.2)) l.2.1 = gv y n + l.2.2 := by
     rw [ali hr.2.1 hr.2.1 tt, if_pos rfl]
    rw [aeQ hn.1 (by omega), ag1 tn, acq (by omega) (by omega), aeQ hr.2.1 (by omega), ag1 tt]
    rw [show (adx (List.set y l.2.1.toNat (gv y n + l.2.2))) = ((y.length : Nat) : Int) by simp [adx]]
    rw [aeQ hr.2.1 (by omega), ag1 (by simpa using tt), hself, adM]
    by_cases hlt : gv y n + l.2.2 < least
    ·rw [if_pos (by simpa [ilt] using hlt), if_pos hlt]
    ·rw [if_neg (by simpa [ilt] using hlt), if_neg hlt, aeQ hr.2.1 (by omega), aFT tu, adM]
     cases hwv : wv u l.2.1 with
     | true =>
       rw [if_neg (by simp), if_pos rfl, ack hi (by omega)]
       exact hk (y.set l.2.1.toNat (gv y n + l.2.2), u, p) ⟨by simpa using h1, h2, hset, by dsimp only; omega⟩
     | false =>
       rw [if_pos (by simp), if_neg (by simp), acp (by simp only [List.length_singleton]; omega), Am.iff_true, aeQ hr.2.1 (by omega), aFT tu, ack hi (by omega)]
       exact hk (y.set l.2.1.toNat (gv y n + l.2.2), u.set l.2.1.toNat true, p ++ [l.2.1]) ⟨by simpa using h1, by simpa using h2, hset, by simp only [List.length_append, List.length_singleton]; omega⟩
  ·have e0 : ine l.1 n = true := by simp [ine, hln]
   rw [acs e0, if_pos hln, ack hi (by omega)]
   exact hk (y, u, p) ⟨h1, h2, h3, by dsimp only; omega⟩
structure aTO (N : Nat) (n least : Int) (L : List Lk) (x : List Int) (q : List Int) (x' : List Int) (w' : List Bool) (q' : List Int) : Prop where
 lx : x'.length = N
 lw : w'.length = N
 same : gv x' n = gv x n
 le : ∀ v : Int, 0 ≤ v → v < N → gv x' v ≤ gv x v
 link : ∀ v m, (n, v, m) ∈ L → gv x' v ≤ gv x n + m
 chg : ∀ v : Int, 0 ≤ v → v < N → gv x' v = gv x v ∨ (v ∈ q' ∧ gv x' v < gv x v ∧ ∃ m, (n, v, m) ∈ L ∧ gv x' v = gv x n + m ∧ least ≤ gv x' v)
 new : ∃ l, q' = q ++ l ∧ ∀ v ∈ l, (0 ≤ v ∧ v < N) ∧ gv x' v < gv x v
 nodup : q'.Nodup
 waits : ∀ v : Int, 0 ≤ v → v < N → (wv w' v = true ↔ v ∈ q')
theorem ahg {N : Nat} {n least : Int} (hn : 0 ≤ n ∧ n < N) : ∀ {L : List Lk}, InR L N → (∀ l ∈ L, l.1 ≠ l.2.1) → ∀ {x : List Int} {w : List Bool} {q : List Int}, x.length = N → w.length = N → q.Nodup → (∀ v : Int, 0 ≤ v → v < N → (wv w v = true ↔ v ∈ q)) →
 ∀ {x' : List Int} {w' : List Bool} {q' : List Int}, akn n least L x w q = (true, x', w', q') → aTO N n least L x q x' w' q'
 | [], _, _, x, w, q, hx, hw, hq, hwq, x', w', q', h => by
   cases h
   exact ⟨hx, hw, rfl, fun _ _ _ => Int.le_refl _, fun _ _ h => (by cases h), fun _ _ _ => .inl rfl, ⟨[], by simp, fun _ h => by cases h⟩, hq, hwq⟩
 | l :: t, hL, hnl, x, w, q, hx, hw, hq, hwq, x', w', q', h => by
   have hLt : InR t N := fun l hl => hL l (by simp [hl])
   have hnt : ∀ l ∈ t, l.1 ≠ l.2.1 := fun l hl => hnl l (by simp [hl])
   have hr := hL l (by simp)
   have hl0 := hnl l (by simp)
   unfold akn at h
   split at h
   ·rename_i hne
    have a := ahg hn hLt hnt hx hw hq hwq h
    exact ⟨a.lx, a.lw, a.same, a.le, fun v m hm => by
     rcases List.mem_cons.1 hm with rfl | hm
     ·exact (hne rfl).elim
     ·exact a.link v m hm, fun v h0 h1 => (a.chg v h0 h1).imp id fun ⟨g1, g2, m, g3, g4⟩ => ⟨g1, g2, m, by simp [g3], g4⟩, a.new, a.nodup, a.waits⟩
   ·rename_i hne
    have hln : l.1 = n := by simpa using hne
    split at h
    ·rename_i hle
     have a := ahg hn hLt hnt hx hw hq hwq h
     exact ⟨a.lx, a.lw, a.same, a.le, fun v m hm => by
      rcases List.mem_cons.1 hm with rfl | hm
      ·have := a.le v hr.2.1 hr.2.2; simp only at hle; omega
      ·exact a.link v m hm, fun v h0 h1 => (a.chg v h0 h1).imp id fun ⟨g1, g2, m, g3, g4⟩ => ⟨g1, g2, m, by simp [g3], g4⟩, a.new, a.nodup, a.waits⟩
    ·rename_i hgt
     split at h
     ·cases h
     ·rename_i hls
      have tt : l.2.1.toNat < x.length := by omega
      have tw : l.2.1.toNat < w.length := by omega
      have hy : (x.set l.2.1.toNat (gv x n + l.2.2)).length = N := by simpa using hx
      have hyn : gv (x.set l.2.1.toNat (gv x n + l.2.2)) n = gv x n := by
       rw [ali hr.2.1 hn.1 tt, if_neg (fun h => hl0 (hln.trans h))]
      have hyv : ∀ v, 0 ≤ v → gv (x.set l.2.1.toNat (gv x n + l.2.2)) v = if v = l.2.1 then gv x n + l.2.2 else gv x v := fun v h0 => ali hr.2.1 h0 tt _
      have hlm : (n, l.2.1, l.2.2) ∈ l :: t := by rw [← hln]; simp
      -- what both ways have in common
      have fin : ∀ {w1 : List Bool} {q1 : List Int}, aTO N n least t (x.set l.2.1.toNat (gv x n + l.2.2)) q1 x' w' q' → l.2.1 ∈ q1 → (∃ l', q1 = q ++ l' ∧ ∀ v ∈ l', v = l.2.1) → aTO N n least (l :: t) x q x' w' q' := by
       intro w1 q1 a hmem hq1
       obtain ⟨new, hnew, hnv⟩ := a.new
       obtain ⟨l', hl', hlv⟩ := hq1
       have hto : gv x' l.2.1 ≤ gv x n + l.2.2 := by
        have := a.le l.2.1 hr.2.1 hr.2.2
        rw [hyv _ hr.2.1, if_pos rfl] at this
        exact this
       refine ⟨a.lx, a.lw, a.same.trans hyn, fun v h0 h1 => ?_, fun v m hm => ?_, fun v h0 h1 => ?_, ⟨l' ++ new, by rw [hnew, hl', List.append_assoc], fun v hv => ?_⟩, a.nodup, a.waits⟩
       ·have := a.le v h0 h1
        rw [hyv v h0] at this
        split at this
        ·rename_i e; subst e; omega
        ·exact this
       ·rcases List.mem_cons.1 hm with rfl | hm
        ·exact hto
        ·have := a.link v m hm
         rwa [hyn] at this
       ·rcases a.chg v h0 h1 with g | ⟨g1, g2, m, g3, g4, g5⟩
        ·rw [hyv v h0] at g
         split at g
         ·rename_i e
          subst e
          exact .inr ⟨by rw [hnew]; exact List.mem_append_left _ hmem, by omega, l.2.2, hlm, g, by omega⟩
         ·exact .inl g
        ·rw [hyv v h0] at g2
         rw [hyn] at g4
         refine .inr ⟨g1, ?_, m, by simp [g3], g4, g5⟩
         split at g2
         ·rename_i e; subst e; omega
         ·exact g2
       ·rcases List.mem_append.1 hv with hv | hv
        ·rw [hlv v hv]; exact ⟨hr.2, by omega⟩
        ·obtain ⟨g1, g2⟩ := hnv v hv
         rw [hyv v g1.1] at g2
         refine ⟨g1, ?_⟩
         split at g2
         ·rename_i e; subst e; omega
         ·exact g2
      split at h
      ·rename_i hwt
       exact fin (w1 := w) (ahg hn hLt hnt hy hw hq hwq h) ((hwq _ hr.2.1 hr.2.2).1 hwt) ⟨[], by simp, fun _ h => by cases h⟩
      ·rename_i hwt
       have hnq : l.2.1 ∉ q := fun hc => hwt ((hwq _ hr.2.1 hr.2.2).2 hc)
       refine fin (w1 := w.set l.2.1.toNat true) (ahg hn hLt hnt hy (by simpa using hw) ?_ ?_ h) (by simp) ⟨[l.2.1], rfl, fun v hv => by simpa using hv⟩
       ·rw [List.nodup_append]
        exact ⟨hq, by simp, fun a ha b hb => by simp at hb; subst hb; exact fun e => hnq (e ▸ ha)⟩
       ·intro v h0 h1
        rw [aMR hr.2.1 h0 tw]
        by_cases hv : v = l.2.1
        ·simp [hv]
        ·simp only [hv, if_false, List.mem_append, List.mem_singleton, or_false]
         exact hwq v h0 h1
theorem ai4 {n least : Int} : ∀ {L : List Lk}, (∀ l ∈ L, l.1 ≠ l.2.1) → (∀ l ∈ L, 0 ≤ l.2.1) → 0 ≤ n → ∀ {x : List Int} {w : List Bool} {q : List Int} {r}, akn n least L x w q = (false, r) → ∃ v m, (n, v, m) ∈ L ∧ gv x n + m < least
 | [], _, _, _, x, w, q, r, h => by cases h
 | l :: t, hnl, h0, hn, x, w, q, r, h => by
   have hnt : ∀ l ∈ t, l.1 ≠ l.2.1 := fun l hl => hnl l (by simp [hl])
   have h0t : ∀ l ∈ t, 0 ≤ l.2.1 := fun l hl => h0 l (by simp [hl])
   have up : (∃ v m, (n, v, m) ∈ t ∧ gv x n + m < least) → ∃ v m, (n, v, m) ∈ l :: t ∧ gv x n + m < least := fun ⟨v, m, g1, g2⟩ => ⟨v, m, by simp [g1], g2⟩
   unfold akn at h
   split at h
   ·exact up (ai4 hnt h0t hn h)
   ·rename_i hne
    have hln : l.1 = n := by simpa using hne
    split at h
    ·exact up (ai4 hnt h0t hn h)
    ·split at h
     ·rename_i hlt
      exact ⟨l.2.1, l.2.2, by rw [← hln]; simp, hlt⟩
     ·have hyn : gv (x.set l.2.1.toNat (gv x n + l.2.2)) n = gv x n := by
       unfold gv
       rw [List.getElem?_set]
       have h1 := hnl l (by simp)
       have h2 := h0 l (by simp)
       have : ¬ l.2.1.toNat = n.toNat := by omega
       simp [this]
      split at h
      ·have := ai4 hnt h0t hn h
       rw [hyn] at this
       exact up this
      ·have := ai4 hnt h0t hn h
       rw [hyn] at this
       exact up this
end Go.Proofs.ZzM
end
noncomputable section
namespace Go.Proofs.ZzM
open Go Go.Am
theorem aNq {ρ : Type} {L : List Lk} {N : Nat} {M : Int} (hL : afO L N M) {n least : Int} (hn : 0 ≤ n ∧ n < N) {x : List Int} {w : List Bool} {t rest : List Int} (hx : x.length = N) (hw : w.length = N) (ht : t.length = N) (hq : rest.length ≤ 1000000)
 (hb : -2305843009213693952 ≤ gv x n ∧ gv x n ≤ 2305843009213693952) (htn : 0 ≤ gv t n ∧ gv t n ≤ 1000000) (kn : List Int → List Bool → List Int → List Int → Option ρ) (k0 : (Val (.pair .bool (.pair (.slice tI) (.pair (.slice .bool) (.pair (.slice tI) (.slice tI)))))) → Option ρ) :
 adz [] least (N : Int) L x w t (n :: rest) kn k0 =
  if (N : Int) + 1 < gv t n + 1 then k0 (false, x, w.set n.toNat false, t.set n.toNat (gv t n + 1), rest) else
  match akn n least L x (w.set n.toNat false) rest with
  | (true, x', w', q') => kn x' w' (t.set n.toNat (gv t n + 1)) q'
  | (false, x', w', q') => k0 (false, x', w', t.set n.toNat (gv t n + 1), q') := by
 have hN := hL.nodes
 have tn : n.toNat < x.length := by omega
 have tw : n.toNat < w.length := by omega
 have tt : n.toNat < t.length := by omega
 unfold adz
 have e0 : ieq (acv (n :: rest)) 0 = false := by
  rw [acB]
  simp only [ieq, List.length_cons, beq_eq_false_iff_ne, ne_eq]
  omega
 have e1 : ilt (0 : Int) (adx (n :: rest)) = true := by simp [ilt, adx]
 have e2 : ile (1 : Int) (adx (n :: rest)) = true := by simp [ile, adx]; omega
 have e3 : decide (1 + (List.length (n :: rest) - 1) = List.length (n :: rest)) = true := by simp; omega
 rw [acm e0, adB e1]
 rw [show afx (n :: rest) 0 = fun (f : Int → Option ρ) => f n from rfl]
 try dsimp only
 rw [adB e2, adB e3, aeQ hn.1 (by omega), aFT tw, aeQ hn.1 (by omega), ag1 tt, acq (by omega) (by omega), aeQ hn.1 (by omega), ag1 tt]
 rw [show (adx (List.set t n.toNat (gv t n + 1))) = ((t.length : Nat) : Int) by simp [adx]]
 rw [aeQ hn.1 (by omega), ag1 (by simpa using tt), ali hn.1 hn.1 tt, if_pos rfl, acq (by omega) (by omega), adM]
 rw [show List.drop 1 (n :: rest) = rest from rfl]
 by_cases hlt : (N : Int) + 1 < gv t n + 1
 ·rw [if_pos (by simpa [igt] using hlt), if_pos hlt]
 ·rw [if_neg (by simpa [igt] using hlt), if_neg hlt]
  rw [aSW hL hn hx (w := w.set n.toNat false) (by simpa using hw) hq hb]
  generalize akn n least L x (w.set n.toNat false) rest = r
  obtain ⟨b, x', w', q'⟩ := r
  cases b <;> rfl
theorem aQa {ρ : Type} {L : List Lk} {N : Int} {least : Int} {x : List Int} {w : List Bool} {t : List Int} (kn : List Int → List Bool → List Int → List Int → Option ρ) (k0 : (Val (.pair .bool (.pair (.slice tI) (.pair (.slice .bool) (.pair (.slice tI) (.slice tI)))))) → Option ρ) :
 adz [] least N L x w t [] kn k0 = k0 (true, x, w, t, []) := by
 unfold adz
 have e0 : ieq (acv ([] : List Int)) 0 = true := by rw [acB]; rfl
 rw [acs e0]
def aHt (N : Nat) (t : List Int) : Nat := (t.map fun a => ((N : Int) + 2 - a).toNat).sum
theorem aNy (N : Nat) : ∀ (t : List Int) (i : Nat) (a b : Int), t[i]? = some a → a < b → a < (N : Int) + 2 → aHt N (t.set i b) < aHt N t
 | a0 :: t, 0, a, b, h, h1, h2 => by
   simp at h; subst h
   simp only [aHt, List.set_cons_zero, List.map_cons, List.sum_cons]
   omega
 | a0 :: t, i + 1, a, b, h, h1, h2 => by
   have := aNy N t i a b (by simpa using h) h1 h2
   simp only [aHt] at this
   simp only [aHt, List.set_cons_succ, List.map_cons, List.sum_cons]
   omega
theorem aKb {N : Nat} {t : List Int} {n : Int} (hn : n.toNat < t.length) (h : gv t n ≤ (N : Int) + 1) : aHt N (t.set n.toNat (gv t n + 1)) < aHt N t :=
 aNy N t n.toNat (gv t n) _ (aKm hn) (by omega) (by omega)
structure aPy (L : List Lk) (S : Int → Prop) (N : Nat) (M : Int) (k : Nat) (A B : List Int) (x : List Int) (w : List Bool) (t q : List Int) : Prop where
 q_eq : q = A ++ B
 lx : x.length = N
 lw : w.length = N
 lt : t.length = N
 nodup : q.Nodup
 rng : ∀ v ∈ q, 0 ≤ v ∧ v < N
 waits : ∀ v : Int, 0 ≤ v → v < N → (wv w v = true ↔ v ∈ q)
 t0 : ∀ v : Int, 0 ≤ v → v < N → 0 ≤ gv t v ∧ gv t v ≤ (k : Int) + 1
 tA : ∀ v ∈ A, gv t v ≤ k
 low : ∀ vs v d, Wl L S vs v d → vs.length ≤ k → gv x v ≤ d
 nxt : ∀ vs u d, Wl L S vs u d → vs.length ≤ k → u ∉ A → ∀ v m, (u, v, m) ∈ L → gv x v ≤ d + m
 rel : ∀ u : Int, 0 ≤ u → u < N → u ∉ q → gv x u ≠ ad0 → ∀ v m, (u, v, m) ∈ L → gv x v ≤ gv x u + m
 att : ∀ v : Int, 0 ≤ v → v < N → gv x v ≠ ad0 → ∃ vs, Wl L S vs v (gv x v)
 bd : ∀ v : Int, 0 ≤ v → v < N → gv x v = ad0 ∨ gv x v ≤ ((k : Int) + 1) * M
 bA : ∀ v ∈ A, gv x v ≤ (k : Int) * M
 fin : ∀ v ∈ q, gv x v < ad0
 kN : k + 1 ≤ N
 last : k + 1 = N → B = []
section
variable {L : List Lk} {S : Int → Prop} {N : Nat} {M : Int} {p : Int → Int} {k : Nat} {A B x : List Int} {w : List Bool} {t q : List Int}
theorem azc {a b : Nat} {M : Int} (h : a ≤ b) (hM : 0 ≤ M) : (a : Int) * M ≤ (b : Int) * M := Int.mul_le_mul_of_nonneg_right (by omega) hM
theorem Wl.lt_free (hL : afO L N M) (hNM : N * M < ad0) {vs : List Int} {v d : Int} (hw : Wl L S vs v d) (h : vs.length ≤ N) : d < ad0 := by
 have h1 := hw.high fun l hl => (hL.most l hl).2
 have h2 := azc h hL.m0
 omega
theorem aPy.next (hL : afO L N M) (hNM : N * M < ad0) (hS : ∀ v, S v → 0 ≤ v ∧ v < N) (h : aPy L S N M k [] B x w t q) (hB : B ≠ []) : aPy L S N M (k + 1) B [] x w t q := by
 have hM := hL.m0
 have hq : q = B := by simpa using h.q_eq
 have hk : k + 1 ≠ N := fun e => hB (h.last e)
 have hkN := h.kN
 have low' : ∀ vs v d, Wl L S vs v d → vs.length ≤ k + 1 → gv x v ≤ d := by
  intro vs v d hw hl
  cases hw with
  | nil hs => exact h.low [] v 0 (.nil hs) (by simp)
  | @step vs u _ m d hw hlk => exact h.nxt vs u d hw (by simpa using hl) (by simp) v m hlk
 refine ⟨by simp [hq], h.lx, h.lw, h.lt, h.nodup, h.rng, h.waits, fun v h0 h1 => ⟨(h.t0 v h0 h1).1, by have := (h.t0 v h0 h1).2; push_cast; omega⟩, fun v hv => ?_, low', fun vs u d hw hl hu v m hlk => ?_, h.rel, h.att, fun v h0 h1 => ?_, fun v hv => ?_, h.fin, by omega, fun _ => rfl⟩
 ·have := h.rng v (by rw [hq]; exact hv)
  have := (h.t0 v this.1 this.2).2
  push_cast; omega
 ·have h1 := low' vs u d hw hl
  have h2 := hw.lt_free hL hNM (by omega)
  have h3 := (hw.range hL.inr hS).1
  have := h.rel u h3.1 h3.2 (by rw [hq]; exact hu) (by omega) v m hlk
  omega
 ·rcases h.bd v h0 h1 with h2 | h2
  ·exact .inl h2
  ·refine .inr ?_
   have := azc (show k + 1 ≤ k + 1 + 1 by omega) hM
   push_cast at this ⊢
   omega
 ·have h1 := h.rng v (by rw [hq]; exact hv)
  have h2 := h.fin v (by rw [hq]; exact hv)
  rcases h.bd v h1.1 h1.2 with h3 | h3
  ·omega
  ·push_cast; exact h3
theorem aPy.step {n : Int} {A' : List Int} {least : Int} {x' : List Int} {w' : List Bool} {q' : List Int} (hL : afO L N M) (hNM : N * M < ad0) (hp : Pot L p) (hS : ∀ v, S v → 0 ≤ v ∧ v < N) (h : aPy L S N M k (n :: A') B x w t q)
 (ha : aTO N n least L x (A' ++ B) x' w' q') : ∃ B', aPy L S N M k A' B' x' w' (t.set n.toNat (gv t n + 1)) q' := by
 have hM := hL.m0
 have hq : q = n :: (A' ++ B) := by simpa using h.q_eq
 have hkN := h.kN
 have hnr := h.rng n (by rw [hq]; simp)
 have hnf := h.fin n (by rw [hq]; simp)
 have hnd : n ∉ A' ++ B := by have := h.nodup; rw [hq, List.nodup_cons] at this; exact this.1
 have htn : n.toNat < t.length := by have := h.lt; omega
 have tset : ∀ v, 0 ≤ v → gv (t.set n.toNat (gv t n + 1)) v = if v = n then gv t n + 1 else gv t v := fun v h0 => ali hnr.1 h0 htn _
 have hkM : ((k : Int) + 1) * M < ad0 := by
  have := azc hkN hM
  push_cast at this
  omega
 have xle : ∀ v : Int, 0 ≤ v → v < N → gv x v ≤ ad0 := fun v h0 h1 => by rcases h.bd v h0 h1 with h2 | h2 <;> omega
 obtain ⟨l, hl, hlv⟩ := ha.new
 have att' : ∀ v : Int, 0 ≤ v → v < N → gv x' v ≠ ad0 → ∃ vs, Wl L S vs v (gv x' v) := by
  intro v h0 h1 hne
  rcases ha.chg v h0 h1 with g | ⟨_, _, m, g3, g4, _⟩
  ·rw [g] at hne ⊢; exact h.att v h0 h1 hne
  ·obtain ⟨vs, hw⟩ := h.att n hnr.1 hnr.2 (by omega)
   rw [g4]; exact ⟨_, hw.step g3⟩
 refine ⟨B ++ l, by rw [hl, List.append_assoc], ha.lx, ha.lw, by rw [List.length_set]; exact h.lt, ha.nodup, fun v hv => ?_, ha.waits, fun v h0 h1 => ?_, fun v hv => ?_, fun vs v d hw hlen => ?_, fun vs u d hw hlen hu v m hlk => ?_,
  fun u h0 h1 hu hf v m hlk => ?_, att', fun v h0 h1 => ?_, fun v hv => ?_, fun v hv => ?_, hkN, fun hk => ?_⟩
 ·rw [hl] at hv
  rcases List.mem_append.1 hv with hv | hv
  ·exact h.rng v (by rw [hq]; simp only [List.mem_cons]; exact .inr hv)
  ·exact (hlv v hv).1
 ·rw [tset v h0]
  have h2 := h.t0 v h0 h1
  split
  ·have h3 := h.tA n (by simp)
   have h4 := h.t0 n hnr.1 hnr.2
   omega
  ·exact h2
 ·have h1 := h.rng v (by rw [hq]; simp [hv])
  rw [tset v h1.1, if_neg (fun e => hnd (by rw [← e]; simp [hv]))]
  exact h.tA v (by simp [hv])
 ·have h1 := h.low vs v d hw hlen
  have h2 := (hw.range hL.inr hS).1
  have := ha.le v h2.1 h2.2
  omega
 ·have hvr := (hL.inr _ hlk).2
  by_cases hun : u = n
  ·subst hun
   have h1 := ha.link v m hlk
   have h2 := h.low vs u d hw hlen
   omega
  ·have h1 := h.nxt vs u d hw hlen (by simp [hun, hu]) v m hlk
   have := ha.le v hvr.1 hvr.2
   omega
 ·have hvr := (hL.inr _ hlk).2
  have heq : gv x' u = gv x u := by
   rcases ha.chg u h0 h1 with g | ⟨g, _⟩
   ·exact g
   ·exact (hu g).elim
  by_cases hun : u = n
  ·subst hun
   have h1 := ha.link v m hlk
   omega
  ·have hur : u ∉ q := by
    rw [hq]
    intro hc
    rcases List.mem_cons.1 hc with e | hc
    ·exact hun e
    ·exact hu (by rw [hl]; exact List.mem_append_left _ hc)
   have h2 := h.rel u h0 h1 hur (by rw [← heq]; exact hf) v m hlk
   have := ha.le v hvr.1 hvr.2
   omega
 ·rcases ha.chg v h0 h1 with g | ⟨_, _, m, g3, g4, _⟩
  ·rw [g]; exact h.bd v h0 h1
  ·have h2 := h.bA n (by simp)
   have h3 := (hL.most _ g3).2
   simp only at h3
   refine .inr ?_
   rw [g4, Int.add_mul, Int.one_mul]
   omega
 ·have h1 := h.rng v (by rw [hq]; simp [hv])
  have h2 := h.bA v (by simp [hv])
  have := ha.le v h1.1 h1.2
  omega
 ·rw [hl] at hv
  rcases List.mem_append.1 hv with hv | hv
  ·have h1 := h.rng v (by rw [hq]; simp only [List.mem_cons]; exact .inr hv)
   have h2 := h.fin v (by rw [hq]; simp only [List.mem_cons]; exact .inr hv)
   have := ha.le v h1.1 h1.2
   omega
  ·obtain ⟨g1, g2⟩ := hlv v hv
   have := xle v g1.1 g1.2
   omega
 ·rw [h.last hk]
  cases l with
  | nil => rfl
  | cons v l =>
    exfalso
    obtain ⟨g1, g2⟩ := hlv v (by simp)
    have := xle v g1.1 g1.2
    obtain ⟨vs, hw⟩ := att' v g1.1 g1.2 (by omega)
    obtain ⟨vs', d', k1, k2, k3⟩ := hw.simple hp
    have k4 := k1.short hL.inr hS k3
    have := h.low vs' v d' k1 (by omega)
    omega
theorem aPy.done (hL : afO L N M) (hNM : N * M < ad0) (hp : Pot L p) (hS : ∀ v, S v → 0 ≤ v ∧ v < N) (h : aPy L S N M k A B x w t []) : aPz L S N (gv x) := by
 have hkN := h.kN
 have hM := hL.m0
 have hkM : ((k : Int) + 1) * M < ad0 := by
  have := azc hkN hM
  push_cast at this
  omega
 have key : ∀ vs v d, Wl L S vs v d → vs.length + 1 ≤ N → gv x v ≤ d := by
  intro vs v d hw
  induction hw with
  | nil hs => intro _; exact h.low [] _ 0 (.nil hs) (by simp)
  | @step vs u v m d hw hlk ih =>
    intro hlen
    simp only [List.length_cons] at hlen
    have h1 := ih (by omega)
    have h2 := hw.lt_free hL hNM (by omega)
    have h3 := (hw.range hL.inr hS).1
    have := h.rel u h3.1 h3.2 (by simp) (by omega) v m hlk
    omega
 refine ⟨h.att, fun v vs d hw => ?_, fun v h0 h1 => ?_⟩
 ·obtain ⟨vs', d', k1, k2, k3⟩ := hw.simple hp
  have := key vs' v d' k1 (k1.short hL.inr hS k3)
  omega
 ·rcases h.bd v h0 h1 with h2 | h2 <;> omega
theorem aIo {ρ : Type} {r : Option ρ} (hL : afO L N M) (hNM : N * M < ad0) (hp : Pot L p) (hS : ∀ v, S v → 0 ≤ v ∧ v < N) (k0 : (Val (.pair .bool (.pair (.slice tI) (.pair (.slice .bool) (.pair (.slice tI) (.slice tI)))))) → Option ρ)
 (hK : ∀ x w t q, x.length = N → aPz L S N (gv x) → k0 (true, x, w, t, q) = r) (h : aPy L S N M k A B x w t q) :
 acl (fun (v64 : (Val (.pair (.slice tI) (.pair (.slice .bool) (.pair (.slice tI) (.slice tI)))))) kk69 => adz [] (azb L) (N : Int) L v64.1 v64.2.1 v64.2.2.1 v64.2.2.2 (fun u65 u66 u67 u68 => kk69 (u65, u66, u67, u68)) k0) (x, w, t, q) = r := by
 refine afn (fun s : List Int × List Bool × List Int × List Int => ∃ k A B, aPy L S N M k A B s.1 s.2.1 s.2.2.1 s.2.2.2) (fun s => aHt N s.2.2.1) ?_ ⟨k, A, B, h⟩
 rintro ⟨x, w, t, q⟩ ⟨k, A, B, h⟩
 dsimp only at h ⊢
 have hN := hL.nodes
 cases q with
 | nil => exact .inl fun kn => by rw [aQa]; exact hK x w t [] h.lx (h.done hL hNM hp hS)
 | cons n rest =>
   -- the phase in which the first one is
   have hph : ∃ k A' B, aPy L S N M k (n :: A') B x w t (n :: rest) := by
    cases A with
    | nil =>
      have hB : B = n :: rest := by simpa using h.q_eq.symm
      subst hB
      exact ⟨k + 1, rest, [], h.next hL hNM hS (by simp)⟩
    | cons a A' =>
      have := h.q_eq
      simp only [List.cons_append, List.cons.injEq] at this
      obtain ⟨rfl, _⟩ := this
      exact ⟨k, A', B, h⟩
   clear h k A B
   obtain ⟨k, A', B, h⟩ := hph
   have hrest : rest = A' ++ B := by have := h.q_eq; simpa using this
   have hnr := h.rng n (by simp)
   have hnf := h.fin n (by simp)
   have hkN := h.kN
   have h1 := h.tA n (by simp)
   have h2 := h.t0 n hnr.1 hnr.2
   obtain ⟨vs, hw⟩ := h.att n hnr.1 hnr.2 (by omega)
   have hlow := hw.low' hp
   have hneg : -(400 * 4503599627370496) ≤ azb L := by
    have : ∀ L' : List Lk, (∀ l ∈ L', -M ≤ l.2.2) → -((L'.length : Int) * M) ≤ azb L' := by
     intro L'
     induction L' with
     | nil => intro _; simp [azb, ayr]
     | cons l t ih =>
       intro hh
       have i1 := ih fun l hl => hh l (by simp [hl])
       have i2 := hh l (by simp)
       have i3 := hL.m0
       unfold azb at i1 ⊢
       simp only [ayr, if_true, List.length_cons, Int.natCast_succ, Int.add_mul, Int.one_mul]
       omega
    have h3 := this L fun l hl => (hL.most l hl).1
    have h4 : (L.length : Int) * M ≤ 400 * 4503599627370496 := Int.mul_le_mul (by have := hL.len; omega) hL.m1 hL.m0 (by omega)
    omega
   have hrl : rest.length ≤ 1000000 := by
    have := aNf N (n :: rest) h.nodup h.rng
    simp only [List.length_cons] at this
    omega
   refine .inr ?_
   have hw' : (w.set n.toNat false).length = N := by rw [List.length_set]; exact h.lw
   cases hr : akn n (azb L) L x (w.set n.toNat false) rest with
   | mk b r' =>
   obtain ⟨x', w', q'⟩ := r'
   cases b with
   | false =>
     exfalso
     obtain ⟨v, m, g1, g2⟩ := ai4 hL.noloop (fun l hl => (hL.inr l hl).2.1) hnr.1 hr
     have := (hw.step g1).low' hp
     omega
   | true =>
     have hnd := h.nodup
     rw [List.nodup_cons] at hnd
     have ha := ahg hnr hL.inr hL.noloop h.lx hw' hnd.2 (fun v h0 h1 => by
      rw [aMR hnr.1 h0 (by have := h.lw; omega)]
      by_cases hv : v = n
      ·subst hv; simp [hnd.1]
      ·rw [if_neg hv, h.waits v h0 h1]
       simp [hv]) hr
     rw [hrest] at ha
     obtain ⟨B', hB'⟩ := h.step hL hNM hp hS ha
     refine ⟨(x', w', t.set n.toNat (gv t n + 1), q'), ⟨k, A', B', hB'⟩, aKb (by have := h.lt; omega) (by omega), fun kn => ?_⟩
     have hF : ad0 = 1152921504606846976 := rfl
     rw [aNq hL hnr h.lx h.lw h.lt hrl (by constructor <;> omega) (by constructor <;> omega), if_neg (by omega), hr]
end
end Go.Proofs.ZzM
end
noncomputable section
namespace Go.Proofs.ZzM
open Go Go.Am
theorem az4 (f : Lk → Bool) : ∀ (L L' : List Lk), ayr f (L ++ L') = ayr f L + ayr f L'
 | [], L' => by simp [ayr]
 | l :: t, L' => by
   simp only [List.cons_append, ayr, az4 f t L']
   omega
theorem aI1 {L : List Lk} {i : Nat} {l : Lk} (h : L[i]? = some l) : azb (L.take (i + 1)) = azb (L.take i) + min l.2.2 0 := by
 rw [take_succ h, azb, azb, az4]
 simp [ayr]
theorem imin0 (e : Int) : aK9 e 0 = min e 0 := by
 unfold aK9
 split <;> omega
theorem aFU {L : List Lk} {M : Int} (h : ∀ l ∈ L, -M ≤ l.2.2) (hM : 0 ≤ M) : -((L.length : Int) * M) ≤ azb L := by
 induction L with
 | nil => simp [azb, ayr]
 | cons l t ih =>
   have i1 := ih fun l hl => h l (by simp [hl])
   have i2 := h l (by simp)
   unfold azb at i1 ⊢
   simp only [ayr, if_true, List.length_cons, Int.natCast_succ, Int.add_mul, Int.one_mul]
   omega
theorem aUB (L : List Lk) : azb L ≤ 0 := amV _ L
section
variable {ρ : Type} {L : List Lk} {N : Nat} {M : Int}
theorem aNz (hL : afO L N M) (k0 : Int → Option ρ) : acl (fun (v75 : Val ab5) kk78 => afs L (acv L) v75.1 v75.2 (fun u76 u77 => kk78 (u76, u77)) k0) ((0 : Int), (0 : Int)) = k0 (azb L) := by
 refine afn (fun x : Int × Int => ∃ i : Nat, i ≤ L.length ∧ x = (azb (L.take i), (i : Int))) (fun x => L.length - x.2.toNat) ?_ ⟨0, by omega, rfl⟩
 rintro x ⟨i, hi, rfl⟩
 have hlen := hL.len
 rcases Nat.lt_or_ge i L.length with h | h
 ·have hl : L[i]? = some L[i] := List.getElem?_eq_getElem h
  refine .inr ⟨(azb (L.take (i + 1)), (i : Int) + 1), ⟨i + 1, h, by simp⟩, by simp; omega, fun kn => ?_⟩
  try dsimp only
  unfold afs
  have hb : ∀ j, j ≤ L.length → -(400 * 4503599627370496) ≤ azb (L.take j) := by
   intro j hj
   have h1 := aFU (L := L.take j) (fun l hl => (hL.most l (List.mem_of_mem_take hl)).1) hL.m0
   have h2 : ((L.take j).length : Int) * M ≤ 400 * 4503599627370496 := Int.mul_le_mul (by rw [List.length_take]; omega) hL.m1 hL.m0 (by omega)
   omega
  have h1 := hb i hi
  have h2 := hb (i + 1) h
  have h3 := aUB (L.take i)
  rw [aI1 hl] at h2
  rw [aco h, aci hl, imin0, acq (by omega) (by omega), ack h (by omega), aI1 hl]
 ·refine .inl fun kn => ?_
  have : i = L.length := by omega
  subst this
  try dsimp only
  unfold afs
  rw [acK, List.take_length]
theorem aPS {x : List Int} (hx : x.length = N) (hN : N ≤ 1000) {r : Option ρ} (k0 : (Val (.pair (.slice .bool) (.slice tI))) → Option ρ)
 (hK : ∀ (w : List Bool) (q : List Int), w.length = N → q.Nodup → (∀ v ∈ q, 0 ≤ v ∧ v < N) → (∀ v : Int, 0 ≤ v → v < N → (wv w v = true ↔ v ∈ q)) → (∀ v : Int, 0 ≤ v → v < N → (v ∈ q ↔ gv x v ≠ ad0)) → k0 (w, q) = r) :
 acl (fun (v70 : (Val (.pair tI (.pair (.slice .bool) (.slice tI))))) kk74 => aea (N : Int) x v70.1 v70.2.1 v70.2.2 (fun u71 u72 u73 => kk74 (u71, u72, u73)) k0) ((0 : Int), (List.replicate N false), ([] : List Int)) = r := by
 refine afn (fun s : Int × List Bool × List Int => ∃ i : Nat, i ≤ N ∧ s.1 = i ∧ s.2.1.length = N ∧ s.2.2.Nodup ∧ s.2.2.length ≤ i ∧ (∀ v ∈ s.2.2, 0 ≤ v ∧ v < i) ∧ (∀ v : Int, 0 ≤ v → v < N → (wv s.2.1 v = true ↔ v ∈ s.2.2)) ∧ (∀ v : Int, 0 ≤ v → v < i → (v ∈ s.2.2 ↔ gv x v ≠ ad0))) (fun s => N - s.1.toNat) ?_
  ⟨0, by omega, rfl, by simp, by simp, by simp, by simp, fun v h0 h1 => ?_, fun v h0 h1 => by omega⟩
 ·rintro ⟨s, w, q⟩ ⟨i, hi, h1, h2, h3, h4, h5, h6, h7⟩
  simp only at h1 h2 h3 h4 h5 h6 h7
  subst h1
  rcases Nat.lt_or_ge i N with h | h
  ·refine .inr ?_
   have hix : i < x.length := by omega
   have hiw : i < w.length := by omega
   have hnq : ((i : Int)) ∉ q := fun hc => by have := (h5 _ hc).2; omega
   by_cases hf : gv x i = ad0
   ·refine ⟨((i : Int) + 1, w, q), ⟨i + 1, h, by simp, h2, h3, by simp only; omega, fun v hv => ⟨(h5 v hv).1, by have := (h5 v hv).2; push_cast; omega⟩, h6, fun v h0 h1 => ?_⟩, by simp; omega, fun kn => ?_⟩
    ·by_cases hv : v = i
     ·subst hv; simp [hf, hnq]
     ·exact h7 v h0 (by push_cast at h1; omega)
    ·try dsimp only
     unfold aea
     have e : ilt (i : Int) (N : Int) = true := by simp [ilt, h]
     rw [acs e, afY hix, ag1 (by simpa using hix)]
     have e2 : ine (gv x i) 1152921504606846976 = false := by simp [ine, hf]
     rw [acm e2, ack h (by omega)]
   ·refine ⟨((i : Int) + 1, w.set i true, q ++ [(i : Int)]), ⟨i + 1, h, by simp, by simpa using h2, ?_, by simp; omega, fun v hv => ?_, fun v h0 h1 => ?_, fun v h0 h1 => ?_⟩, by simp; omega, fun kn => ?_⟩
    ·rw [List.nodup_append]
     exact ⟨h3, by simp, fun a ha b hb => by simp at hb; subst hb; exact fun e => hnq (e ▸ ha)⟩
    ·rcases List.mem_append.1 hv with hv | hv
     ·exact ⟨(h5 v hv).1, by have := (h5 v hv).2; push_cast; omega⟩
     ·simp at hv; subst hv; push_cast; omega
    ·have := aMR (w := w) (u := (i : Int)) (by omega) h0 (by simpa using hiw) true
     rw [Int.toNat_natCast] at this
     show wv (w.set i true) v = true ↔ v ∈ q ++ [(i : Int)]
     rw [this]
     by_cases hv : v = i
     ·simp [hv]
     ·simp only [hv, if_false, List.mem_append, List.mem_singleton, or_false]
      exact h6 v h0 h1
    ·show v ∈ q ++ [(i : Int)] ↔ _
     by_cases hv : v = i
     ·subst hv; simp [hf]
     ·simp only [List.mem_append, List.mem_singleton, hv, or_false]
      exact h7 v h0 (by push_cast at h1; omega)
    ·try dsimp only
     unfold aea
     have e : ilt (i : Int) (N : Int) = true := by simp [ilt, h]
     rw [acs e, afY hix, ag1 (by simpa using hix)]
     have e2 : ine (gv x i) 1152921504606846976 = true := by simp [ine, hf]
     rw [acs e2, acp (by simp only [List.length_singleton]; omega), Am.iff_true, afY hiw, aFT (by simpa using hiw), ack h (by omega), Int.toNat_natCast]
  ·refine .inl fun kn => ?_
   have : i = N := by omega
   subst this
   try dsimp only
   unfold aea
   have e : ilt (i : Int) (i : Int) = false := by simp [ilt]
   rw [acm e]
   exact hK w q h2 h3 h5 h6 h7
 ·have : wv (List.replicate N false) v = false := by
   unfold wv
   rw [List.getElem?_replicate]
   split <;> rfl
  simp [this]
theorem aEi (hL : afO L N M) (hN : 1 ≤ N) {S : Int → Bool} (hS : ∀ v, S v = true → 0 ≤ v ∧ v < N) {w : List Bool} {q : List Int} (hw : w.length = N) (hq : q.Nodup) (hr : ∀ v ∈ q, 0 ≤ v ∧ v < N) (hwq : ∀ v : Int, 0 ≤ v → v < N → (wv w v = true ↔ v ∈ q)) (hqs : ∀ v : Int, 0 ≤ v → v < N → (v ∈ q ↔ gv (amQ S N) v ≠ ad0)) :
 aPy L (fun v => S v = true) N M 0 q [] (amQ S N) w (List.replicate N 0) q := by
 have ht : ∀ v : Int, 0 ≤ v → v < N → gv (List.replicate N (0 : Int)) v = 0 := by
  intro v h0 h1
  unfold gv
  rw [List.getElem?_replicate]
  split <;> rfl
 have hg : ∀ v : Int, 0 ≤ v → v < N → (v ∈ q ↔ S v = true) := by
  intro v h0 h1
  rw [hqs v h0 h1, af1 S h0 h1]
  cases S v <;> simp [ad0]
 have hM := hL.m0
 refine ⟨by simp, ac2 S N, hw, by simp, hq, hr, hwq, fun v h0 h1 => ?_, fun v hv => ?_, fun vs v d hw hl => ?_, fun vs u d hw hl hu v m hlk => ?_, fun u h0 h1 hu hf v m hlk => ?_, fun v h0 h1 hf => ?_, fun v h0 h1 => ?_, fun v hv => ?_, fun v hv => ?_, by omega, fun _ => rfl⟩
 ·rw [ht v h0 h1]; omega
 ·have := hr v hv
  rw [ht v this.1 this.2]; omega
 ·cases hw with
  | nil hs =>
    have := hS v hs
    rw [af1 S this.1 this.2, if_pos hs]; omega
  | step => simp at hl
 ·cases hw with
  | nil hs =>
    have := hS u hs
    exact (hu ((hg u this.1 this.2).2 hs)).elim
  | step => simp at hl
 ·rw [af1 S h0 h1] at hf
  have := mt (hg u h0 h1).2 hu
  rw [if_neg this] at hf
  exact (hf rfl).elim
 ·rw [af1 S h0 h1] at hf ⊢
  split at hf
  ·rename_i hs
   rw [if_pos hs]; exact ⟨[], .nil hs⟩
  ·exact (hf rfl).elim
 ·rw [af1 S h0 h1]
  split
  ·exact .inr (by simp [hM])
  ·exact .inl rfl
 ·have h1 := hr v hv
  rw [af1 S h1.1 h1.2, if_pos ((hg v h1.1 h1.2).1 hv)]; simp
 ·have h1 := hr v hv
  rw [af1 S h1.1 h1.2, if_pos ((hg v h1.1 h1.2).1 hv)]; simp [ad0]
structure Bad (L : List Lk) (N : Nat) (x : List Int) (w : List Bool) (t q : List Int) : Prop where
 lx : x.length = N
 lw : w.length = N
 lt : t.length = N
 nodup : q.Nodup
 rng : ∀ v ∈ q, 0 ≤ v ∧ v < N
 waits : ∀ v : Int, 0 ≤ v → v < N → (wv w v = true ↔ v ∈ q)
 t0 : ∀ v : Int, 0 ≤ v → v < N → 0 ≤ gv t v ∧ gv t v ≤ (N : Int) + 1
 bd : ∀ v : Int, 0 ≤ v → v < N → -2305843009213693952 ≤ gv x v ∧ gv x v ≤ 0
 rel : ∀ u : Int, 0 ≤ u → u < N → u ∉ q → ∀ v m, (u, v, m) ∈ L → gv x v ≤ gv x u + m
theorem aSq {r : Option ρ} {x : List Int} {w : List Bool} {t q : List Int} (hL : afO L N M) (hp : ¬ ∃ p, Pot L p) (k0 : (Val (.pair .bool (.pair (.slice tI) (.pair (.slice .bool) (.pair (.slice tI) (.slice tI)))))) → Option ρ)
 (hK : ∀ x w t q, k0 (false, x, w, t, q) = r) (h : Bad L N x w t q) :
 acl (fun (v64 : (Val (.pair (.slice tI) (.pair (.slice .bool) (.pair (.slice tI) (.slice tI)))))) kk69 => adz [] (azb L) (N : Int) L v64.1 v64.2.1 v64.2.2.1 v64.2.2.2 (fun u65 u66 u67 u68 => kk69 (u65, u66, u67, u68)) k0) (x, w, t, q) = r := by
 refine afn (fun s : List Int × List Bool × List Int × List Int => Bad L N s.1 s.2.1 s.2.2.1 s.2.2.2) (fun s => aHt N s.2.2.1) ?_ h
 rintro ⟨x, w, t, q⟩ h
 dsimp only at h ⊢
 have hN := hL.nodes
 cases q with
 | nil =>
   exfalso
   exact hp ⟨gv x, fun u v m hl => h.rel u (hL.inr _ hl).1.1 (hL.inr _ hl).1.2 (by simp) v m hl⟩
 | cons n rest =>
   have hnr := h.rng n (by simp)
   have hb := h.bd n hnr.1 hnr.2
   have ht := h.t0 n hnr.1 hnr.2
   have hrl : rest.length ≤ 1000000 := by
    have := aNf N (n :: rest) h.nodup h.rng
    simp only [List.length_cons] at this
    omega
   have hout := fun (kn : List Int → List Bool → List Int → List Int → Option ρ) => aNq (ρ := ρ) hL (least := azb L) hnr h.lx h.lw h.lt hrl ⟨hb.1, by omega⟩ ⟨ht.1, by omega⟩ kn k0
   by_cases hlt : (N : Int) + 1 < gv t n + 1
   ·exact .inl fun kn => by rw [hout, if_pos hlt]; exact hK _ _ _ _
   ·have hw' : (w.set n.toNat false).length = N := by rw [List.length_set]; exact h.lw
    cases hr : akn n (azb L) L x (w.set n.toNat false) rest with
    | mk b r' =>
    obtain ⟨x', w', q'⟩ := r'
    cases b with
    | false => exact .inl fun kn => by rw [hout, if_neg hlt, hr]; exact hK _ _ _ _
    | true =>
      have hnd := h.nodup
      rw [List.nodup_cons] at hnd
      have htl : n.toNat < t.length := by have := h.lt; omega
      have ha := ahg hnr hL.inr hL.noloop h.lx hw' hnd.2 (fun v h0 h1 => by
       rw [aMR hnr.1 h0 (by have := h.lw; omega)]
       by_cases hv : v = n
       ·subst hv; simp [hnd.1]
       ·rw [if_neg hv, h.waits v h0 h1]
        simp [hv]) hr
      obtain ⟨l, hl, hlv⟩ := ha.new
      refine .inr ⟨(x', w', t.set n.toNat (gv t n + 1), q'), ⟨ha.lx, ha.lw, by rw [List.length_set]; exact h.lt, ha.nodup, fun v hv => ?_, ha.waits, fun v h0 h1 => ?_, fun v h0 h1 => ?_, fun u h0 h1 hu v m hlk => ?_⟩, aKb htl (by omega), fun kn => by rw [hout, if_neg hlt, hr]⟩
      ·dsimp only at hv
       rw [hl] at hv
       rcases List.mem_append.1 hv with hv | hv
       ·exact h.rng v (by simp [hv])
       ·exact (hlv v hv).1
      ·try dsimp only
       rw [ali hnr.1 h0 htl]
       have := h.t0 v h0 h1
       split <;> omega
      ·try dsimp only
       have h2 := h.bd v h0 h1
       rcases ha.chg v h0 h1 with g | ⟨_, g2, m, g3, g4, g5⟩
       ·rw [g]; exact h2
       ·have h3 := aFU (L := L) (fun l hl => (hL.most l hl).1) hL.m0
        have h4 : (L.length : Int) * M ≤ 400 * 4503599627370496 := Int.mul_le_mul (by have := hL.len; omega) hL.m1 hL.m0 (by omega)
        omega
      ·dsimp only at hu ⊢
       have hvr := (hL.inr _ hlk).2
       have heq : gv x' u = gv x u := by
        rcases ha.chg u h0 h1 with g | ⟨g, _⟩
        ·exact g
        ·exact (hu g).elim
       by_cases hun : u = n
       ·subst hun
        have h1 := ha.link v m hlk
        omega
       ·have hur : u ∉ n :: rest := by
         intro hc
         rcases List.mem_cons.1 hc with e | hc
         ·exact hun e
         ·exact hu (by rw [hl]; exact List.mem_append_left _ hc)
        have h2 := h.rel u h0 h1 hur v m hlk
        have := ha.le v hvr.1 hvr.2
        omega
end
def aPx (N : Nat) (v : Int) : Bool := decide (0 ≤ v) && decide (v < (N : Int))
def aQj (s : Int) (v : Int) : Bool := v == s
theorem aIn (N : Nat) : amQ (aPx N) N = List.replicate N 0 := by
 refine aNB (by simp [ac2]) fun v h0 h1 => ?_
 rw [ac2] at h1
 rw [af1 _ h0 h1]
 have : aPx N v = true := by simp [aPx, h0, h1]
 rw [if_pos this]
 unfold gv
 rw [List.getElem?_replicate]
 split <;> rfl
def af2 (L : List Lk) (N : Nat) : List Int := ahw L N (amQ (aPx N) N)
def ady (L : List Lk) (N : Nat) : Bool := decide (ayo L (af2 L N) = af2 L N)
def aiz (L : List Lk) (N : Nat) (s : Int) : List Int := ahw L N (amQ (aQj s) N)
section
variable {L : List Lk} {N : Nat} {M : Int}
theorem aSI (hL : afO L N M) (hN : N ≤ 200) : N * M < ad0 := by
 have : (N : Int) * M ≤ 200 * 4503599627370496 := Int.mul_le_mul (by omega) hL.m1 hL.m0 (by omega)
 unfold ad0
 omega
theorem avF {p : Int → Int} (hL : afO L N M) (hN : N ≤ 200) (hp : Pot L p) : aPz L (fun v => aPx N v = true) N (gv (af2 L N)) :=
 azP hp hL.inr (fun v h => by simpa [aPx] using h) (fun l hl => (hL.most l hl).2) hL.m0 (aSI hL hN) N (by omega)
theorem aiy {p : Int → Int} (hL : afO L N M) (hN : N ≤ 200) (hp : Pot L p) {s : Int} (hs : 0 ≤ s ∧ s < N) : aPz L (fun v => aQj s v = true) N (gv (aiz L N s)) :=
 azP hp hL.inr (fun v h => by simp [aQj] at h; subst h; exact hs) (fun l hl => (hL.most l hl).2) hL.m0 (aSI hL hN) N (by omega)
theorem aIH : ∀ {L : List Lk} {x : List Int}, (∀ u v m, (u, v, m) ∈ L → gv x u < ad0 → gv x v ≤ gv x u + m) → ayo L x = x
 | [], x, _ => rfl
 | l :: t, x, h => by
   have h1 : ah1 x l = x := by
    unfold ah1
    split
    ·rename_i hc
     have := h l.1 l.2.1 l.2.2 (by simp) hc.1
     omega
    ·rfl
   show ayo t (ah1 x l) = x
   rw [h1]
   exact aIH fun u v m hm => h u v m (by simp [hm])
theorem aeB (hL : afO L N M) (hN : N ≤ 200) : ady L N = true ↔ ∃ p, Pot L p := by
 unfold ady
 rw [decide_eq_true_eq]
 have hle : ∀ v : Int, 0 ≤ v → v < N → gv (af2 L N) v ≤ 0 := by
  intro v h0 h1
  have := as6 hL.inr N (ac2 (aPx N) N) v h0
  rw [af1 _ h0 h1, if_pos (by simp [aPx, h0, h1])] at this
  exact this
 constructor
 ·intro h
  refine ⟨gv (af2 L N), fun u v m hl => ?_⟩
  have hr := (hL.inr _ hl).1
  have := avO hL.inr (x := af2 L N) (by unfold af2; rw [ad3, ac2]) u v m hl (by have := hle u hr.1 hr.2; unfold ad0; omega)
  rwa [h] at this
 ·rintro ⟨p, hp⟩
  have hd := avF hL hN hp
  exact aIH fun u v m hl hf => hd.pot hL.inr hl (by omega)
end
end Go.Proofs.ZzM
end
noncomputable section
namespace Go.Proofs.ZzM
open Go Go.Am
section
variable {ρ : Type} {L : List Lk} {N : Nat} {M : Int}
theorem ava (hN : N ≤ 1000) (x : Option ρ) : acU ((ile (0 : Int) (N : Int)) && (acO (Int.toNat (N : Int)))) x = x := by
 rw [Int.toNat_natCast, acp (by omega)]
 have : ((ile (0 : Int) (N : Int)) && true) = true := by simp [ile]
 rw [this, Am.iff_true]
theorem aLu (hL : afO L N M) (h1 : 1 ≤ N) (hN : N ≤ 200) (k0 : (Val (.pair .bool (.pair (.slice tI) (.pair (.slice .bool) (.pair (.slice tI) (.slice tI)))))) → Option ρ) {rT rF : Option ρ}
 (hT : ady L N = true → ∀ w t q, k0 (true, af2 L N, w, t, q) = rT) (hF : ∀ x w t q, k0 (false, x, w, t, q) = rF) :
 (acl (fun (v70 : (Val (.pair tI (.pair (.slice .bool) (.slice tI))))) kk74 => aea (N : Int) (List.replicate N (0 : Int)) v70.1 v70.2.1 v70.2.2 (fun u71 u72 u73 => kk74 (u71, u72, u73)) (fun z9 => acl (fun (v64 : (Val (.pair (.slice tI) (.pair (.slice .bool) (.pair (.slice tI) (.slice tI)))))) kk69 => adz [] (azb L) (N : Int) L v64.1 v64.2.1 v64.2.2.1 v64.2.2.2 (fun u65 u66 u67 u68 => kk69 (u65, u66, u67, u68)) k0) ((List.replicate N (0 : Int)), z9.1, (List.replicate N (0 : Int)), z9.2))) ((0 : Int), (List.replicate N false), ([] : List Int))) = if ady L N then rT else rF := by
 refine aPS (by simp) (by omega) _ fun w q hw hq hr hwq hqs => ?_
 try dsimp only
 have hS : ∀ v, aPx N v = true → 0 ≤ v ∧ v < N := fun v h => by simpa [aPx] using h
 by_cases ho : ady L N = true
 ·rw [if_pos ho]
  obtain ⟨p, hp⟩ := (aeB hL hN).1 ho
  have hs := aEi hL h1 hS hw hq hr hwq (fun v a b => by rw [aIn]; exact hqs v a b)
  rw [aIn] at hs
  refine aIo hL (aSI hL hN) hp hS k0 (fun x w t q hx hd => ?_) hs
  have : x = af2 L N := by
   refine aNB (by rw [hx]; unfold af2; rw [ad3, ac2]) fun v a b => ?_
   exact hd.uniq (avF hL hN hp) a (by omega)
  rw [this]; exact hT ho w t q
 ·rw [if_neg ho]
  refine aSq hL (fun hp => ho ((aeB hL hN).2 hp)) k0 hF ?_
  have hg : ∀ v, gv (List.replicate N (0 : Int)) v = 0 := by
   intro v
   unfold gv
   rw [List.getElem?_replicate]
   split <;> rfl
  refine ⟨by simp, hw, by simp, hq, hr, hwq, fun v a b => ?_, fun v a b => ?_, fun u a b hu v m hl => ?_⟩
  ·rw [hg]; omega
  ·rw [hg]; omega
  ·exact (hu ((hqs u a b).2 (by rw [hg]; unfold ad0; omega))).elim
end
theorem shift_ok {ρ : Type} {x : List Int} (f : Int) (hx : x.length ≤ 1000) (hf : -2305843009213693952 ≤ f ∧ f ≤ 2305843009213693952) (hb : ∀ a ∈ x, -2305843009213693952 ≤ a ∧ a ≤ 2305843009213693952) (k0 : List Int → Option ρ) :
 acl (fun (v60 : (Val (.pair tI (.slice tI)))) kk63 => agc f (acv x) v60.1 v60.2 (fun u61 u62 => kk63 (u61, u62)) k0) ((0 : Int), x) = k0 (x.map fun a => a - f) := by
 refine ac3 x (fun i => (x.take i).map (fun a => a - f) ++ x.drop i) _ (by simp) (fun i a hi ha kn => ?_) (fun kn => ?_)
 ·try dsimp only
  unfold agc
  have hlen : ((x.take i).map (fun a => a - f) ++ x.drop i).length = x.length := by simp; omega
  have hget : ((x.take i).map (fun a => a - f) ++ x.drop i)[i]? = some a := by
   rw [List.getElem?_append_right (by simp; omega)]
   simp only [List.length_map, List.length_take, List.getElem?_drop]
   rw [← ha]; congr 1; omega
  have hi' : i < ((x.take i).map (fun a => a - f) ++ x.drop i).length := by omega
  have ha' := hb a (List.mem_of_getElem? ha)
  rw [aco hi, afY hi', aev hget, acq (by omega) (by omega), afY hi', aev hget, ack hi (by omega), Int.toNat_natCast, take_succ ha]
  congr 2
  rw [List.drop_eq_getElem_cons hi, List.map_append, List.append_assoc, List.set_append_right _ _ (by simp; omega)]
  have : i - (List.map (fun a => a - f) (List.take i x)).length = 0 := by simp; omega
  rw [this]
  have h1 : x[i] = a := by rw [List.getElem?_eq_getElem hi] at ha; simpa using ha
  simp [h1]
 ·try dsimp only
  unfold agc
  rw [acK]
  simp
section
variable {L : List Lk} {N : Nat} {M : Int}
theorem aSs (hL : afO L N M) (hN : N ≤ 200) (ho : ady L N = true) : ∀ a ∈ af2 L N, -2305843009213693952 ≤ a ∧ a ≤ 0 := by
 obtain ⟨p, hp⟩ := (aeB hL hN).1 ho
 have hd := avF hL hN hp
 intro a ha
 obtain ⟨i, hi, rfl⟩ := List.mem_iff_getElem.1 ha
 have hlen : (af2 L N).length = N := by unfold af2; rw [ad3, ac2]
 have h0 : gv (af2 L N) i = (af2 L N)[i] := by unfold gv; simp [hi]
 have hle := as6 hL.inr N (ac2 (aPx N) N) (i : Int) (by omega)
 rw [af1 _ (by omega) (by omega), if_pos (by simp [aPx]; omega)] at hle
 have hle' : gv (af2 L N) i ≤ 0 := hle
 obtain ⟨vs, hw⟩ := hd.att i (by omega) (by omega) (by unfold ad0; omega)
 have h1 := hw.low' hp
 have h3 := aFU (L := L) (fun l hl => (hL.most l hl).1) hL.m0
 have h4 : (L.length : Int) * M ≤ 400 * 4503599627370496 := Int.mul_le_mul (by have := hL.len; omega) hL.m1 hL.m0 (by omega)
 omega
def solP (L : List Lk) (N : Nat) : List Int := (af2 L N).map fun a => a - gv (af2 L N) 0
theorem amR (hL : afO L N M) (h1 : 1 ≤ N) (hN : N ≤ 200) : ahh ((N : Int), L) [] = some (if ady L N then (solP L N, true) else ([], false)) := by
 unfold ahh apk
 try dsimp only
 rw [ava (by omega), ava (by omega), ava (by omega), Int.toNat_natCast]
 refine Eq.trans (aNz hL _) ?_
 refine Eq.trans (aLu hL h1 hN _ (rT := some (solP L N, true)) (rF := some ([], false)) (fun ho w t q => ?_) (fun x w t q => ?_)) ?_
 ·try dsimp only
  have hlen : (af2 L N).length = N := by unfold af2; rw [ad3, ac2]
  have hb := aSs hL hN ho
  have h0 : ilt (0 : Int) (adx (af2 L N)) = true := decide_eq_true (show (0 : Int) < ((af2 L N).length : Int) by omega)
  have hg : (af2 L N)[0]? = some (gv (af2 L N) 0) := aKm (v := 0) (show 0 < _ by omega)
  have hm := hb _ (List.mem_of_getElem? hg)
  rw [show (!true) = false from rfl, acM, adB h0, agT hg]
  exact shift_ok _ (by omega) ⟨hm.1, by omega⟩ (fun a ha => ⟨(hb a ha).1, by have := (hb a ha).2; omega⟩) _
 ·rfl
 ·cases ady L N <;> rfl
structure aep (L : List Lk) (N : Nat) : Prop where
 n1 : 1 ≤ N
 n60 : N ≤ 60
 len : L.length ≤ 300
 inr : InR L N
 noloop : ∀ l ∈ L, l.1 ≠ l.2.1
 most : ∀ l ∈ L, -4503599627370496 ≤ l.2.2 ∧ l.2.2 ≤ 4503599627370496
theorem aep.links (h : aep L N) : afO L N 4503599627370496 :=
 ⟨h.inr, h.noloop, h.most, by have := h.len; omega, by have := h.n60; omega, by omega, by omega⟩
theorem aep.sub {L' : List Lk} (h : aep L N) (hs : ∀ l ∈ L', l ∈ L) (hl : L'.length ≤ L.length) : aep L' N :=
 ⟨h.n1, h.n60, by have := h.len; omega, fun l hm => h.inr l (hs l hm), fun l hm => h.noloop l (hs l hm), fun l hm => h.most l (hs l hm)⟩
theorem az2 (n : Int) (L : List Lk) (v : Int) : alk (n, L) v = some (decide (0 ≤ v) && decide (v < n)) := by
 unfold alk aGx ige
 by_cases h : 0 ≤ v
 ·have : decide (v ≥ 0) = true := by simpa using h
  rw [acs this]; simp [h]
 ·have : decide (v ≥ 0) = false := by simpa using h
  rw [acm this]; simp [h]
theorem afP (h : aep L N) : ahS ((N : Int), L) = some (0, -1) := by
 have h1 := h.n1
 have h2 := h.n60
 have h3 := h.len
 unfold ahS aAQ
 try dsimp only
 rw [acm (by simp [ilt]; omega), acm (by simp [igt]; omega), acm (by rw [acB]; simp [igt]; omega)]
 refine Eq.trans (afT L (fun _ => false) (fun i => some (1, i)) (some (0, -1)) (fun i l hi hl kn => ?_) (fun kn => ?_)) ?_
 ·try dsimp only
  unfold ak4
  have hm := List.mem_of_getElem? hl
  have a := h.inr l hm
  have b := h.noloop l hm
  have c := h.most l hm
  have e1 : (decide (0 ≤ l.1) && decide (l.1 < (N : Int))) = true := by simp [a.1.1, a.1.2]
  have e2 : (decide (0 ≤ l.2.1) && decide (l.2.1 < (N : Int))) = true := by simp [a.2.1, a.2.2]
  rw [aco hi, aci hl, az2, ab2, e1, az2, ab2, e2]
  simp only [Bool.not_true, acM, Bool.false_eq_true, if_false]
  rw [acm (by simp [ieq, b]), acm (by simp [ilt]; omega), acm (by simp [igt]; omega), ack hi (by omega)]
 ·try dsimp only
  unfold ak4
  rw [acK]
 ·rw [List.findIdx?_eq_none_iff.2 (by simp)]
theorem ahK {ρ : Type} {x : List Int} {v : Int} (h0 : 0 ≤ v) (h : v.toNat < x.length) (f : Int → Option ρ) : adG x v f = f (gv x v) := by
 obtain ⟨i, rfl⟩ := Int.eq_ofNat_of_zero_le h0
 exact aci (aKm h) f
def aKv (L : List Lk) (x : List Int) : Bool := L.all fun l => decide (gv x l.2.1 ≤ gv x l.1 + l.2.2)
theorem aK4 (h : aep L N) {x : List Int} (hx : x.length = N) (hb : ∀ a ∈ x, -ad0 ≤ a ∧ a ≤ ad0) : azp ((N : Int), L) x = some (aKv L x && gv x 0 == 0, 0) := by
 have h1 := h.n1
 have h2 := h.n60
 have h3 := h.len
 unfold azp aGE
 rw [afP h, ab2]
 try dsimp only
 rw [acm (by rfl), acm (by rw [acB, hx]; simp [ine])]
 have second : acl (fun (v20 : Int) kk22 => aim x L (acv L) v20 (fun u21 => kk22 u21) (fun z17 => some (z17.1, z17.2)) (fun _ => adG x (0 : Int) fun e19 => some (ieq e19 (0 : Int), (0 : Int)))) (0 : Int) = some (aKv L x && gv x 0 == 0, 0) := by
  refine Eq.trans (afL L (fun l => !decide (gv x l.2.1 ≤ gv x l.1 + l.2.2)) (fun _ => some (false, 0)) (some (false, 0)) (some (gv x 0 == 0, 0)) (fun _ => rfl) (fun i l hi hl kn => ?_) (fun kn => ?_)) ?_
  ·try dsimp only
   unfold aim
   have hm := List.mem_of_getElem? hl
   have a := h.inr l hm
   have c := h.most l hm
   have g1 : l.1.toNat < x.length := by omega
   have hg := hb _ (List.mem_of_getElem? (aKm g1))
   unfold ad0 at hg
   rw [aco hi, aci hl, ahK a.2.1 (by omega), ahK a.1.1 g1, acq (by omega) (by omega), ack hi (by omega), adM]
   by_cases hle : gv x l.2.1 ≤ gv x l.1 + l.2.2
   ·rw [if_neg (by simp [igt]; omega), if_neg (by simp [hle])]
   ·rw [if_pos (by simp [igt]; omega), if_pos (by simp [hle])]
  ·try dsimp only
   unfold aim
   rw [acK, ahK (by omega) (by rw [Int.toNat_zero]; omega)]
  ·unfold aKv
   rw [show (L.any fun l => !decide (gv x l.2.1 ≤ gv x l.1 + l.2.2)) = !(L.all fun l => decide (gv x l.2.1 ≤ gv x l.1 + l.2.2)) from by rw [List.all_eq_not_any_not]; simp]
   cases (L.all fun l => decide (gv x l.2.1 ≤ gv x l.1 + l.2.2)) <;> rfl
 refine Eq.trans (afL x (fun _ => false) (fun z4 => ifb (ige z4 (0 : Int)) (some (false, (1 : Int))) (some (aKv L x && gv x 0 == 0, 0))) (some (false, 1)) (some (aKv L x && gv x 0 == 0, 0)) (fun j => ?_) (fun i a hi ha kn => ?_) (fun kn => ?_)) ?_
 ·rw [acs (by simp [ige])]
 ·try dsimp only
  unfold ann
  have hg := hb a (List.mem_of_getElem? ha)
  unfold ad0 at hg
  rw [aco hi, aci ha, acm (by simp [ilt]; omega), acm (by simp [igt]; omega), ack hi (by omega)]
  simp
 ·try dsimp only
  unfold ann
  rw [acK]
  exact second
 ·simp
end
end Go.Proofs.ZzM
end
noncomputable section
namespace Go.Proofs.ZzM
open Go Go.Am
section
variable {b : acz}
theorem ap1 (b : acz) (g : acT) : (acC b g).Pairwise (· < ·) := azE _
theorem aKC (h : adh b) {g : acT} (hg : g ∈ b.2.1) : ∃ t, acC b g = g.2.1 :: t := by
 have h1 := ap1 b g
 have h2 := aiK (b := b) g
 have h3 : ∀ d ∈ acC b g, g.2.1 ≤ d := fun d hd => (h.day hg hd).1
 cases hd : acC b g with
 | nil => rw [hd] at h2; cases h2
 | cons a t =>
   rw [hd] at h1 h2 h3
   rw [List.pairwise_cons] at h1
   rcases List.mem_cons.1 h2 with e | e
   ·exact ⟨t, by rw [e]⟩
   ·have := h1.1 _ e
    have := h3 a (by simp)
    omega
def off (b : acz) (i : Nat) : Nat := ((b.2.1.take i).flatMap fun g => (acC b g).map fun d => ((g.1, d) : Int × Int)).length
theorem ar8 {i : Nat} {g : acT} (hg : b.2.1[i]? = some g) : acd b = ((b.2.1.take i).flatMap fun g => (acC b g).map fun d => ((g.1, d) : Int × Int)) ++ (((acC b g).map fun d => ((g.1, d) : Int × Int)) ++ ((b.2.1.drop (i + 1)).flatMap fun g => (acC b g).map fun d => ((g.1, d) : Int × Int))) := by
 obtain ⟨hi, rfl⟩ := List.getElem?_eq_some_iff.1 hg
 have h1 : b.2.1 = b.2.1.take i ++ (b.2.1[i] :: b.2.1.drop (i + 1)) := by
  rw [← List.drop_eq_getElem_cons hi, List.take_append_drop]
 unfold acd
 conv => lhs; rw [h1]
 rw [List.flatMap_append, List.flatMap_cons]
theorem aLE (h : adh b) {i : Nat} {g : acT} (hg : b.2.1[i]? = some g) {k : Nat} {d : Int} (hk : (acC b g)[k]? = some d) : ag0 (acd b) g.1 d = some (off b i + k) := by
 obtain ⟨hi, hgi⟩ := List.getElem?_eq_some_iff.1 hg
 obtain ⟨hkl, hkd⟩ := List.getElem?_eq_some_iff.1 hk
 unfold ag0
 rw [ar8 hg, List.findIdx?_append, List.findIdx?_append]
 have h1 : List.findIdx? (fun n : Int × Int => decide (g.1 = n.1) && decide (d = n.2)) ((b.2.1.take i).flatMap fun g => (acC b g).map fun d => ((g.1, d) : Int × Int)) = none := by
  rw [List.findIdx?_eq_none_iff]
  intro x hx
  obtain ⟨g', hg', hx⟩ := List.mem_flatMap.1 hx
  obtain ⟨d', _, rfl⟩ := List.mem_map.1 hx
  obtain ⟨j, hj, rfl⟩ := List.mem_iff_getElem.1 hg'
  rw [List.length_take] at hj
  rw [List.getElem_take]
  have := (List.pairwise_iff_getElem.1 h.ids) j i (by omega) hi (by omega)
  rw [hgi] at this
  simp only [Bool.and_eq_false_iff, decide_eq_false_iff_not]
  exact .inl (by omega)
 have h2 : List.findIdx? (fun n : Int × Int => decide (g.1 = n.1) && decide (d = n.2)) ((acC b g).map fun d => ((g.1, d) : Int × Int)) = some k := by
  rw [List.findIdx?_eq_some_iff_getElem]
  refine ⟨by simpa using hkl, by simp [hkd], fun j hj => ?_⟩
  have := (List.pairwise_iff_getElem.1 (ap1 b g)) j k (by omega) hkl hj
  rw [hkd] at this
  simp only [List.getElem_map, Bool.and_eq_true, decide_eq_true_eq, not_and]
  intro _
  omega
 rw [h1, h2]
 simp only [Option.map_some, Option.some_or, Option.none_or]
 unfold off
 congr 1
 omega
theorem aSG {i : Nat} {g : acT} (hg : b.2.1[i]? = some g) {k : Nat} {d : Int} (hk : (acC b g)[k]? = some d) : (acd b)[off b i + k]? = some (g.1, d) := by
 obtain ⟨hkl, hkd⟩ := List.getElem?_eq_some_iff.1 hk
 rw [ar8 hg, List.getElem?_append_right (by unfold off; omega), List.getElem?_append_left (by unfold off; simp; omega)]
 unfold off
 simp [hk]
theorem aTD (h : adh b) {i : Nat} {g : acT} (hg : b.2.1[i]? = some g) : atP (acd b) [g.1] g.2.1 = (off b i : Int) + 1 := by
 obtain ⟨t, ht⟩ := aKC h (List.mem_of_getElem? hg)
 have := aLE h hg (k := 0) (d := g.2.1) (by rw [ht]; rfl)
 unfold atP
 simp only [this]
 rfl
theorem aUy (h : adh b) {i : Nat} {g : acT} (hg : b.2.1[i]? = some g) : off b i + (acC b g).length ≤ (acd b).length := by
 rw [ar8 hg]
 unfold off
 simp only [List.length_append, List.length_map]
 omega
theorem aSE {i : Nat} {g : acT} (hg : b.2.1[i]? = some g) : off b (i + 1) = off b i + (acC b g).length := by
 unfold off
 rw [take_succ hg, List.flatMap_append]
 simp
theorem aI0 (h : adh b) {c : Cmp} (hc : c ∈ b.2.2.2.2.1) {x : Int} (hx : (x ∈ c.2.2.1 ∧ x ∉ c.2.2.2.1) ∨ (x ∈ c.2.2.2.1 ∧ x ∉ c.2.2.1)) : ∃ j, ag0 (acd b) x c.2.1 = some j := by
 have hm : x ∈ c.2.2.1 ++ c.2.2.2.1 := by rw [List.mem_append]; exact hx.imp (·.1) (·.1)
 obtain ⟨⟨g, hg, _⟩, _⟩ := h.pile hc hm
 obtain ⟨hgm, hgx⟩ := agf hg
 obtain ⟨i, hi, hgi⟩ := List.mem_iff_getElem.1 hgm
 have hd : c.2.1 ∈ acC b g := agl.2 (.inr (.inl ⟨c, hc, by
  rw [hgx]
  rcases hx with ⟨h1, h2⟩ | ⟨h1, h2⟩
  ·have e1 : c.2.2.1.contains x = true := by simpa using h1
   have e2 : c.2.2.2.1.contains x = false := by simpa using h2
   rw [e1, e2]; simp
  ·have e1 : c.2.2.2.1.contains x = true := by simpa using h1
   have e2 : c.2.2.1.contains x = false := by simpa using h2
   rw [e1, e2]; simp, rfl⟩))
 obtain ⟨k, hk, hkd⟩ := List.mem_iff_getElem.1 hd
 have := aLE h (g := g) (i := i) (by rw [List.getElem?_eq_getElem hi, hgi]) (k := k) (d := c.2.1) (by rw [List.getElem?_eq_getElem hk, hkd])
 rw [hgx] at this
 exact ⟨_, this⟩
inductive aPq (b : acz) (p : List Int) (d : Int) (n : Int) : Prop
 | none : p = [] → n = 0 → aPq b p d n
 | one (x : Int) (j : Nat) : p = [x] → ag0 (acd b) x d = some j → n = (j : Int) + 1 → aPq b p d n
theorem aHK (h : adh b) {c : Cmp} (hc : c ∈ b.2.2.2.2.1) : aPq b (adb c.2.2.1 c.2.2.2.1) c.2.1 (cx b c) := by
 have hl := (h.lefts hc).1
 cases hp : adb c.2.2.1 c.2.2.2.1 with
 | nil => exact .none rfl (by unfold cx atP; rw [hp])
 | cons x t =>
   rw [hp] at hl
   have : t = [] := by cases t with | nil => rfl | cons => simp at hl
   subst this
   obtain ⟨j, hj⟩ := aI0 h hc (x := x) (.inl (agM.1 (by rw [hp]; simp)))
   exact .one x j rfl hj (by unfold cx atP; rw [hp]; simp only [hj])
theorem aCa (h : adh b) {c : Cmp} (hc : c ∈ b.2.2.2.2.1) : aPq b (adb c.2.2.2.1 c.2.2.1) c.2.1 (cy b c) := by
 have hl := (h.lefts hc).2.1
 cases hp : adb c.2.2.2.1 c.2.2.1 with
 | nil => exact .none rfl (by unfold cy atP; rw [hp])
 | cons x t =>
   rw [hp] at hl
   have : t = [] := by cases t with | nil => rfl | cons => simp at hl
   subst this
   obtain ⟨j, hj⟩ := aI0 h hc (x := x) (.inr (agM.1 (by rw [hp]; simp)))
   exact .one x j rfl hj (by unfold cy atP; rw [hp]; simp only [hj])
theorem aPq.rng {p : List Int} {d n : Int} (h : aPq b p d n) : 0 ≤ n ∧ n < ((acd b).length + 1 : Nat) := by
 rcases h with ⟨_, h⟩ | ⟨x, j, _, h1, h2⟩
 ·omega
 ·have := (ah9 h1).1
  omega
theorem aTe (h : adh b) {c : Cmp} (hc : c ∈ b.2.2.2.2.1) : cx b c ≠ cy b c := by
 have hl := (h.lefts hc).2.2
 rcases aHK h hc with ⟨h1, h2⟩ | ⟨x, j, h1, h2, h3⟩
 ·rcases aCa h hc with ⟨g1, g2⟩ | ⟨y, k, g1, g2, g3⟩
  ·rw [h1, g1] at hl; simp at hl
  ·omega
 ·rcases aCa h hc with ⟨g1, g2⟩ | ⟨y, k, g1, g2, g3⟩
  ·omega
  ·intro e
   have : j = k := by omega
   subst this
   have e1 := (ah9 h2).2
   have e2 := (ah9 g2).2
   rw [e1] at e2
   simp only [Option.some.injEq, Prod.mk.injEq] at e2
   have m1 : x ∈ adb c.2.2.1 c.2.2.2.1 := by rw [h1]; simp
   have m2 : y ∈ adb c.2.2.2.1 c.2.2.1 := by rw [g1]; simp
   rw [e2.1] at m1
   exact (agM.1 m1).2 (agM.1 m2).1
theorem aKa (h : adh b) : (acn b).length = 2 * (acd b).length + 2 * b.2.2.2.2.1.length := by
 have h1 : ∀ l : List acT, (∀ g ∈ l, g ∈ b.2.1) → (l.flatMap (acR b)).length = 2 * (l.flatMap fun g => (acC b g).map fun d => ((g.1, d) : Int × Int)).length := by
  intro l
  induction l with
  | nil => intro _; rfl
  | cons g t ih =>
    intro hm
    have := ih fun g hg => hm g (by simp [hg])
    have hp := List.length_pos_of_mem (aiK (b := b) g)
    simp only [List.flatMap_cons, List.length_append, List.length_map, this]
    unfold acR
    rw [List.length_append, afE _ _ (fun _ => rfl)]
    simp only [List.length_cons, List.length_nil]
    omega
 have h2 : ∀ l : List Cmp, (l.flatMap (acX b)).length = 2 * l.length := by
  intro l
  induction l with
  | nil => rfl
  | cons c t ih =>
    simp only [List.flatMap_cons, List.length_append, ih, acX, List.length_cons, List.length_nil]
    omega
 unfold acn
 rw [List.length_append, h1 _ fun _ h => h, h2]
 rfl
theorem adI (h : adh b) {i : Nat} {g : acT} (hg : b.2.1[i]? = some g) {l : Lk} : l ∈ acR b g ↔
 l = (0, (off b i : Int) + 1, g.2.2.1 + g.2.2.2.1.2) ∨ l = ((off b i : Int) + 1, 0, -(g.2.2.1 + g.2.2.2.1.1)) ∨
 ∃ (k : Nat) (d e : Int), (acC b g)[k]? = some d ∧ (acC b g)[k + 1]? = some e ∧ (l = ((off b i : Int) + k + 1, (off b i : Int) + k + 2, 0) ∨ l = ((off b i : Int) + k + 2, (off b i : Int) + k + 1, agv b g d e)) := by
 unfold acR
 rw [aTD h hg]
 simp only [List.mem_append, List.mem_cons, List.not_mem_nil, or_false, List.mem_flatMap, List.mem_range]
 constructor
 ·rintro ((h1 | h1) | ⟨k, hk, h1⟩)
  ·exact .inl h1
  ·exact .inr (.inl h1)
  ·refine .inr (.inr ⟨k, (acC b g)[k], (acC b g)[k + 1], List.getElem?_eq_getElem (by omega), List.getElem?_eq_getElem (by omega), ?_⟩)
   rw [List.getElem?_eq_getElem (show k < (acC b g).length by omega), List.getElem?_eq_getElem (show k + 1 < (acC b g).length by omega)] at h1
   simp only [Option.getD_some] at h1
   have e1 : (off b i : Int) + 1 + k = (off b i : Int) + k + 1 := by omega
   have e2 : (off b i : Int) + k + 1 + 1 = (off b i : Int) + k + 2 := by omega
   rw [e1, e2] at h1
   exact h1
 ·rintro (h1 | h1 | ⟨k, d, e, hd, he, h1⟩)
  ·exact .inl (.inl h1)
  ·exact .inl (.inr h1)
  ·obtain ⟨h2, rfl⟩ := List.getElem?_eq_some_iff.1 hd
   obtain ⟨h3, rfl⟩ := List.getElem?_eq_some_iff.1 he
   refine .inr ⟨k, by omega, ?_⟩
   rw [hd, he]
   simp only [Option.getD_some]
   have e1 : (off b i : Int) + 1 + k = (off b i : Int) + k + 1 := by omega
   have e2 : (off b i : Int) + k + 1 + 1 = (off b i : Int) + k + 2 := by omega
   rw [e1, e2]
   exact h1
theorem ajS {l : Lk} : l ∈ acn b ↔ (∃ (i : Nat) (g : acT), b.2.1[i]? = some g ∧ l ∈ acR b g) ∨ ∃ c ∈ b.2.2.2.2.1, l = (cy b c, cx b c, (aeO b c).2) ∨ l = (cx b c, cy b c, -(aeO b c).1) := by
 unfold acn
 simp only [List.mem_append, List.mem_flatMap, acX, List.mem_cons, List.not_mem_nil, or_false]
 constructor
 ·rintro (⟨g, hg, h⟩ | h)
  ·obtain ⟨i, hi, rfl⟩ := List.mem_iff_getElem.1 hg
   exact .inl ⟨i, _, List.getElem?_eq_getElem hi, h⟩
  ·exact .inr h
 ·rintro (⟨i, g, hg, h⟩ | h)
  ·exact .inl ⟨g, List.mem_of_getElem? hg, h⟩
  ·exact .inr h
theorem adh.sys (h : adh b) : aep (acn b) ((acd b).length + 1) := by
 have hN := h.nodes
 have hL := h.links
 have key : ∀ l ∈ acn b, ((0 ≤ l.1 ∧ l.1 < ((acd b).length + 1 : Nat)) ∧ (0 ≤ l.2.1 ∧ l.2.1 < ((acd b).length + 1 : Nat))) ∧ l.1 ≠ l.2.1 ∧ (-4503599627370496 ≤ l.2.2 ∧ l.2.2 ≤ 4503599627370496) := by
  intro l hl
  rcases ajS.1 hl with ⟨i, g, hg, hl⟩ | ⟨c, hc, hl⟩
  ·have hgm := List.mem_of_getElem? hg
   have hr := h.gaugeR hgm
   have ho := aUy h hg
   have hp := List.length_pos_of_mem (aiK (b := b) g)
   have r1 := hr.2.2.2.2.2.1
   have r2 := hr.2.2.2.2.2.2.1
   rcases (adI h hg).1 hl with rfl | rfl | ⟨k, d, e, hd, he, h1⟩
   ·dsimp only; omega
   ·dsimp only; omega
   ·obtain ⟨h2, _⟩ := List.getElem?_eq_some_iff.1 he
    have d1 := h.day hgm (List.mem_of_getElem? hd)
    have lb := anI h hgm (t := e) d1.2.1
    rcases h1 with rfl | rfl
    ·dsimp only; omega
    ·dsimp only; omega
  ·have a := (aHK h hc).rng
   have b' := (aCa h hc).rng
   have ne := aTe h hc
   have sb := azH h hc
   rcases hl with rfl | rfl
   ·dsimp only; omega
   ·dsimp only; omega
 exact ⟨by omega, by omega, by rw [aKa h]; omega, fun l hl => (key l hl).1, fun l hl => (key l hl).2.1, fun l hl => (key l hl).2.2⟩
end
def aqt (b : acz) (x : List Int) : Bool := decide (x.length = (acd b).length) && x.all fun n => inP n (-4503599627370496) 4503599627370496
theorem aOT {m : Maker} {x : List Int} (hn : m.2.1.length ≤ 1000000) : agz m x = some (if decide (x.length = m.2.1.length) && x.all fun n => inP n (-4503599627370496) 4503599627370496 then 0 else 1) := by
 unfold agz ain
 by_cases hl : x.length = m.2.1.length
 ·rw [acm (by rw [acB, acB, hl]; simp [ine])]
  refine Eq.trans (afL x (fun n => !inP n (-4503599627370496) 4503599627370496) (fun z => ifb (ige z 0) (some 1) (some 0)) (some 1) (some 0) (fun j => ?_) (fun i a hi ha kn => ?_) (fun kn => ?_)) ?_
  ·rw [acs (by simp [ige])]
  ·try dsimp only
   unfold afm
   rw [aco hi, aci ha, aeX, ab2, ack hi (by omega), adM]
  ·try dsimp only
   unfold afm
   rw [acK]
  ·rw [show (x.any fun n => !inP n (-4503599627370496) 4503599627370496) = !(x.all fun n => inP n (-4503599627370496) 4503599627370496) from by rw [List.all_eq_not_any_not]; simp]
   cases (x.all fun n => inP n (-4503599627370496) 4503599627370496) <;> simp [hl]
 ·rw [acs (by rw [acB, acB]; simp [ine]; omega)]
  simp [hl]
def aS4 (b : acz) (x : List Int) : Bool := aKv (acn b) (0 :: x)
def aCK (b : acz) (x : List Int) : Bool × Int := if acu b ≠ 0 then (false, acu b) else if aqt b x then (aS4 b x, 0) else (false, 1)
theorem aJb {b : acz} (h : adh b) {x : List Int} (hx : aqt b x = true) (src : List (Int × Int)) : aiJ (b, acd b, (((acd b).length : Int) + 1, acn b), src) x = some (aS4 b x) := by
 simp only [aqt, Bool.and_eq_true, decide_eq_true_eq, List.all_eq_true, inP] at hx
 have hN := h.nodes
 unfold aiJ alL
 rw [adB (acp (by simp only [List.length_singleton]; omega))]
 have := aK4 h.sys (x := [0] ++ x) (by simp; omega) (fun a ha => by
  unfold ad0
  rcases List.mem_append.1 ha with ha | ha
  ·simp at ha; omega
  ·have := hx.2 a ha; omega)
 rw [show (((acd b).length : Int) + 1) = (((acd b).length + 1 : Nat) : Int) by push_cast; rfl]
 try dsimp only
 rw [this, ab2]
 unfold aS4
 have e : gv ([0] ++ x) 0 = 0 := rfl
 rw [e]
 simp
theorem aR6 {b : acz} (hs : ahl b) (hr : ∀ g ∈ b.2.1, I64 g.2.2.2.2.1.1) (x : List Int) : acV b x = some (aCK b x) := by
 unfold acV aHn aCK
 rw [ae3 hs hr, ab2]
 by_cases hc : acu b = 0
 ·have h := (acx b).1 hc
  have hN := h.nodes
  rw [acm (by simp [ine, hc]), aFY h, ab2, aOT (by dsimp only; omega), ab2, if_neg (show ¬ (acu b ≠ 0) from fun h => h hc)]
  rw [show (decide (x.length = (b, acd b, (((acd b).length : Int) + 1, acn b), ads b).2.1.length) && x.all fun n => inP n (-4503599627370496) 4503599627370496) = aqt b x from rfl]
  cases hl : aqt b x with
  | false => rfl
  | true =>
    rw [if_pos rfl, acm (by rfl), aJb h hl, ab2, if_pos rfl]
 ·rw [acs (by simp [ine, hc]), if_pos hc]
end Go.Proofs.ZzM
end
noncomputable section
namespace Go.Proofs.ZzM
open Go Go.Am
theorem aRP {ρ : Type} : @anl ρ = @afs ρ := rfl
theorem aRO {ρ : Type} : @ank ρ = @aea ρ := rfl
theorem aRN {ρ : Type} : @anj ρ = @adz ρ := rfl
theorem aKk {ρ : Type} {N : Nat} (hN : N ≤ 1000) (x : Option ρ) : acU ((ile (0 : Int) (N : Int)) && (acO N)) x = x := by
 have := ava hN x
 rwa [Int.toNat_natCast] at this
section
variable {L : List Lk} {N : Nat} {M : Int}
theorem aPR {s : Int} (hs : 0 ≤ s ∧ s < N) : (List.replicate N ad0).set s.toNat 0 = amQ (aQj s) N := by
 refine aNB (by simp [ac2]) fun v h0 h1 => ?_
 have hv : v < N := by simpa using h1
 rw [af1 _ h0 hv, ali hs.1 h0 (by simp; omega)]
 unfold aQj
 by_cases h : v = s
 ·simp [h]
 ·simp only [h, if_false, beq_iff_eq]
  unfold gv
  rw [List.getElem?_replicate]
  have : v.toNat < N := by omega
  simp [this]
theorem aCv (hL : afO L N M) (h1 : 1 ≤ N) (hN : N ≤ 200) (ho : ady L N = true) {s : Int} (hs : 0 ≤ s ∧ s < N) : ajV ((N : Int), L) [] s = some (aiz L N s) := by
 obtain ⟨p, hp⟩ := (aeB hL hN).1 ho
 unfold ajV aws
 rw [aRP, aRO, aRN]
 dsimp only
 rw [ava (by omega), Int.toNat_natCast]
 refine ac3 (List.replicate N (0 : Int)) (fun i => List.replicate i ad0 ++ List.replicate (N - i) 0) _ (by simp) (fun i a hi ha kn => ?_) (fun kn => ?_)
 ·dsimp only
  unfold ajz
  have hiN : i < N := by simpa using hi
  have hl : i < (List.replicate i ad0 ++ List.replicate (N - i) (0 : Int)).length := by simp; omega
  rw [aco hi, afY hl, aev (List.getElem?_eq_getElem hl), ack hiN (by omega), Int.toNat_natCast]
  congr 2
  rw [List.set_append_right _ _ (by simp)]
  have : N - i = (N - (i + 1)) + 1 := by omega
  rw [this, List.length_replicate, Nat.sub_self, List.replicate_succ, List.set_cons_zero, List.replicate_succ']
  simp
 ·try dsimp only
  unfold ajz
  rw [acK]
  dsimp only
  have e0 : List.replicate (List.replicate N (0 : Int)).length ad0 ++ List.replicate (N - (List.replicate N (0 : Int)).length) 0 = List.replicate N ad0 := by simp
  rw [e0]
  have hlen : s.toNat < (List.replicate N ad0).length := by simp; omega
  rw [show adx (List.replicate N ad0) = ((N : Nat) : Int) by simp [adx], aeQ hs.1 hs.2, ag1 hlen, aKk (by omega), aKk (by omega), aPR hs]
  refine Eq.trans (aNz hL _) ?_
  have hS : ∀ v, aQj s v = true → 0 ≤ v ∧ v < N := fun v h => by simp [aQj] at h; subst h; exact hs
  refine aPS (ac2 _ _) (by omega) _ fun w q hw hq hr hwq hqs => ?_
  have hs0 := aEi hL h1 hS hw hq hr hwq hqs
  refine aIo hL (aSI hL hN) hp hS _ (fun x w t q hx hd => ?_) hs0
  have : x = aiz L N s := by
   refine aNB (by rw [hx]; unfold aiz; rw [ad3, ac2]) fun v a b => ?_
   exact hd.uniq (aiy hL hN hp hs) a (by omega)
  dsimp only
  rw [this]
def afw (L : List Lk) (N : Nat) (s t : Int) : Int × Int :=
 if !ady L N then (0, 9) else if gv (aiz L N s) t = ad0 then (0, 5) else (gv (aiz L N s) t, 0)
theorem aN5 (h : aep L N) {ns : List Int} (hn : ∀ n ∈ ns, 0 ≤ n ∧ n < N) (hl : ns.length ≤ 1000) : apU ((N : Int), L) ns = some (if ady L N then 0 else 9) := by
 have h2 := h.n60
 unfold apU aAG
 rw [afP h, ab2]
 dsimp only
 rw [acm (by rfl)]
 refine Eq.trans (afT ns (fun _ => false) (fun _ => some 1) (some (if ady L N then 0 else 9)) (fun i n hi hm kn => ?_) (fun kn => ?_)) ?_
 ·try dsimp only
  unfold akZ
  have a := hn n (List.mem_of_getElem? hm)
  have e : (decide (0 ≤ n) && decide (n < (N : Int))) = true := by simp [a.1, a.2]
  rw [aco hi, aci hm, az2, ab2, e, ack hi (by omega)]
  simp
 ·try dsimp only
  unfold akZ
  rw [acK, amR h.links h.n1 (by omega), ab2]
  cases ady L N <;> rfl
 ·rw [List.findIdx?_eq_none_iff.2 (by simp)]
theorem azu (h : aep L N) {s t : Int} (hs : 0 ≤ s ∧ s < N) (ht : 0 ≤ t ∧ t < N) : akv ((N : Int), L) s t = some (afw L N s t) := by
 have h2 := h.n60
 unfold akv aAW afw
 rw [aN5 h (fun n hn => by simp at hn; rcases hn with rfl | rfl <;> assumption) (by simp), ab2]
 by_cases ho : ady L N = true
 ·rw [if_pos ho, acm (by rfl), aCv h.links h.n1 (by omega) ho hs, ab2, ahK ht.1 (by unfold aiz; rw [ad3, ac2]; omega), adM, if_neg (show ¬ (!ady L N) = true by simp [ho])]
  by_cases hf : gv (aiz L N s) t = ad0
  ·rw [if_pos (by simpa [ieq] using hf), if_pos hf]
  ·rw [if_neg (by simpa [ieq] using hf), if_neg hf]
 ·rw [if_neg ho, acs (by rfl), if_pos (show (!ady L N) = true by simpa using ho)]
end
end Go.Proofs.ZzM
end
noncomputable section
namespace Go.Proofs.ZzM
open Go Go.Am
def acE (b : acz) (c : Cmp) : acz := (b.1, b.2.1, b.2.2.1, b.2.2.2.1, b.2.2.2.2.1 ++ [c], b.2.2.2.2.2)
def ajJ : acz := ((0, 0), [], [], [], [], [])
def ap8 (b : acz) (c : Cmp) : acz × Int := if acu b ≠ 0 then (ajJ, acu b) else if acu (acE b c) ≠ 0 then (ajJ, acu (acE b c)) else (acE b c, 0)
theorem aQv {b : acz} (h : adh b) {c : Cmp} (hA : c.2.2.1.length ≤ 1000) (hB : c.2.2.2.1.length ≤ 1000) : ahl (acE b c) := by
 have hs := h.size
 have := h.nC
 refine ⟨hs.gauges, hs.uses, hs.loans, by simp [acE]; omega, hs.looks, fun d hd => ?_⟩
 rcases List.mem_append.1 (show d ∈ b.2.2.2.2.1 ++ [c] from hd) with hd | hd
 ·exact hs.piles d hd
 ·simp at hd; subst hd; exact ⟨hA, hB⟩
theorem aRY {b : acz} (hs : ahl b) (hr : ∀ g ∈ b.2.1, I64 g.2.2.2.2.1.1) {c : Cmp} (hA : c.2.2.1.length ≤ 1000) (hB : c.2.2.2.1.length ≤ 1000) : ajG b c = some (ap8 b c) := by
 unfold ajG aHh ap8
 have h1 := hs.gauges; have h2 := hs.uses; have h3 := hs.loans; have h4 := hs.compares; have h5 := hs.looks
 rw [acp (by omega), Am.iff_true, acp (by omega), Am.iff_true, ae3 hs hr, ab2]
 by_cases hc : acu b = 0
 ·have h := (acx b).1 hc
  rw [acm (by simp [ine, hc]), acp (by omega), Am.iff_true, acp (by omega), Am.iff_true, acp (by omega), Am.iff_true, acp (by omega), Am.iff_true, acp (by omega), Am.iff_true, if_neg (show ¬ (acu b ≠ 0) from fun h => h hc)]
  refine ac3 b.2.2.2.2.1 (fun _ => b.2.2.2.2.1) _ rfl (fun i d hi hd kn => ?_) (fun kn => ?_)
  ·dsimp only
   unfold anG
   obtain ⟨p1, p2⟩ := hs.piles d (List.mem_of_getElem? hd)
   have e1 : b.2.2.2.2.1.set i d = b.2.2.2.2.1 := by
    obtain ⟨h, rfl⟩ := List.getElem?_eq_some_iff.1 hd
    exact List.set_getElem_self h
   rw [aco hi, afY hi, aev hd, acp (by omega), Am.iff_true, acp (by omega), Am.iff_true, afY hi, aev hd, Int.toNat_natCast]
   rw [show (d.1, d.2.1, d.2.2.1, d.2.2.2) = d from rfl, e1, afY hi, agT hd, ack hi (by omega)]
   rw [show (d.1, d.2.1, d.2.2.1, d.2.2.2.1, d.2.2.2.2) = d from rfl, e1]
  ·try dsimp only
   unfold anG
   rw [acK]
   dsimp only
   rw [acp (by simp only [List.length_singleton]; omega), Am.iff_true]
   rw [show acL (b.1, b.2.1, b.2.2.1, b.2.2.2.1, b.2.2.2.2.1 ++ [c], b.2.2.2.2.2) = acL (acE b c) from rfl, ae3 (aQv h hA hB) hr, ab2]
   by_cases hc2 : acu (acE b c) = 0
   ·rw [acm (by simp [ine, hc2]), if_neg (show ¬ (acu (acE b c) ≠ 0) from fun h => h hc2)]
    rfl
   ·rw [acs (by simp [ine, hc2]), if_pos hc2]
    rfl
 ·rw [acs (by simp [ine, hc]), if_pos hc]
  rfl
def ab9 (c : Cmp) : Cmp := (c.1, c.2.1, c.2.2.1, c.2.2.2.1, 0, c.2.2.2.2.2)
def aMh (b : acz) (c : Cmp) : Int := aCk (adC b c).1 + (agi b c).1 - c.2.2.2.2.2.1
def asK (b : acz) (c : Cmp) : Int := (adC b c).2.1 / (adC b c).2.2 + (agi b c).2 + c.2.2.2.2.2.1
def azC (b : acz) (c : Cmp) (s : Int × Int) : (Int × Int) × Int := if asK b c < aMh b c then ((0, 0), 5) else ((s.1 + aMh b c, s.2 + asK b c), 0)
structure aTN (b : acz) (c : Cmp) : Prop where
 nums : aOB c = true
 r1 : amO (ar0 (agF b) (adb c.2.2.1 c.2.2.2.1)) 1000 100
 r2 : amO (ar0 (agF b) (adb c.2.2.2.1 c.2.2.1)) 1000 100
theorem adh.cmp {b : acz} (h : adh b) {c : Cmp} (hc : c ∈ b.2.2.2.2.1) : aTN b c := ⟨h.nums hc, (h.rates hc).1, (h.rates hc).2⟩
theorem axn {b : acz} (hf : 0 ≤ b.1.1 ∧ b.1.1 ≤ b.1.2 ∧ b.1.2 ≤ 1000000) {c : Cmp} (h : aTN b c) : amO (adC b c).1 2000000000 10000 ∧ amO (adC b c).2 2000000000 10000 ∧ (-3000000000 ≤ aCk (adC b c).1 + (agi b c).1 ∧ aCk (adC b c).1 + (agi b c).1 ≤ 3000000000) ∧
 (-3000000000 ≤ (adC b c).2.1 / (adC b c).2.2 + (agi b c).2 ∧ (adC b c).2.1 / (adC b c).2.2 + (agi b c).2 ≤ 3000000000) ∧ (0 ≤ c.2.2.2.2.2.1 ∧ c.2.2.2.2.2.1 ≤ 1073741824) := by
 have hn := (ahx c).1 h.nums
 have ha := aeY hn.2.2.2.2.2.1
 have hb := aeY hn.2.2.2.2.2.2
 obtain ⟨g1, g2⟩ := aFQ (aFv h.r1 h.r2) hn.2.2.2.2.1
 have fb := asQ (b := b) (c := c) (by omega) (by omega) (by omega) (by omega) (by omega) (by omega)
 have q1 : amO (adC b c).1 2000000000 10000 := g1
 have q2 : amO (adC b c).2 2000000000 10000 := g2
 have c1 := aw8 q1
 have c2 := asN q2
 exact ⟨q1, q2, by omega, by omega, hn.2.2.2.1⟩
theorem aSu {b : acz} (hs : ahl b) (hf : 0 ≤ b.1.1 ∧ b.1.1 ≤ b.1.2 ∧ b.1.2 ≤ 1000000) {c : Cmp} (h : aTN b c) {s : Int × Int} (h1 : -2305843009213693952 ≤ s.1 ∧ s.1 ≤ 2305843009213693952) (h2 : -2305843009213693952 ≤ s.2 ∧ s.2 ≤ 2305843009213693952) : amG b c s = some (azC b c s) := by
 have hn := (ahx c).1 h.nums
 have ha := aeY hn.2.2.2.2.2.1
 have hb := aeY hn.2.2.2.2.2.2
 obtain ⟨q1, q2, b1, b2, b3⟩ := axn hf h
 unfold amG aBf azC aMh asK
 rw [aKn hs (by omega) (by omega) h.r1 h.r2 hn.2.2.2.2.1, ab2, aNI (by omega) (by omega) (by omega) (by omega) (by omega) (by omega), ab2, aR9 q1.rat, ab2, aOe q2.rat, ab2]
 dsimp only
 rw [acq (by omega) (by omega), acq (by omega) (by omega), acq (by omega) (by omega), acq (by omega) (by omega), adM]
 by_cases hlt : (adC b c).2.1 / (adC b c).2.2 + (agi b c).2 + c.2.2.2.2.2.1 < aCk (adC b c).1 + (agi b c).1 - c.2.2.2.2.2.1
 ·rw [if_pos (by simpa [igt] using hlt), if_pos hlt]
 ·rw [if_neg (by simpa [igt] using hlt), if_neg hlt, acq (by omega) (by omega), acq (by omega) (by omega)]
def acP (b : acz) : List Lk := (acn b).take ((acn b).length - 2)
def adF (b : acz) (c : Cmp) : (Int × Int) × Int :=
 if (ap8 b (ab9 c)).2 ≠ 0 then ((0, 0), (ap8 b (ab9 c)).2) else
 if (afw (acP (acE b (ab9 c))) ((acd (acE b (ab9 c))).length + 1) (cy (acE b (ab9 c)) (ab9 c)) (cx (acE b (ab9 c)) (ab9 c))).2 ≠ 0 then
  ((0, 0), (afw (acP (acE b (ab9 c))) ((acd (acE b (ab9 c))).length + 1) (cy (acE b (ab9 c)) (ab9 c)) (cx (acE b (ab9 c)) (ab9 c))).2) else
 if (afw (acP (acE b (ab9 c))) ((acd (acE b (ab9 c))).length + 1) (cx (acE b (ab9 c)) (ab9 c)) (cy (acE b (ab9 c)) (ab9 c))).2 ≠ 0 then
  ((0, 0), (afw (acP (acE b (ab9 c))) ((acd (acE b (ab9 c))).length + 1) (cx (acE b (ab9 c)) (ab9 c)) (cy (acE b (ab9 c)) (ab9 c))).2) else
 azC b (ab9 c) (-(afw (acP (acE b (ab9 c))) ((acd (acE b (ab9 c))).length + 1) (cx (acE b (ab9 c)) (ab9 c)) (cy (acE b (ab9 c)) (ab9 c))).1,
  (afw (acP (acE b (ab9 c))) ((acd (acE b (ab9 c))).length + 1) (cy (acE b (ab9 c)) (ab9 c)) (cx (acE b (ab9 c)) (ab9 c))).1)
theorem aK8 {L : List Lk} {N : Nat} (h : aep L N) {s t : Int} (hs : 0 ≤ s ∧ s < N) (ht : 0 ≤ t ∧ t < N) : -2305843009213693952 ≤ (afw L N s t).1 ∧ (afw L N s t).1 ≤ 2305843009213693952 := by
 unfold afw
 have h2 := h.n60
 split
 ·simp
 ·rename_i ho
  have ho' : ady L N = true := by simpa using ho
  obtain ⟨p, hp⟩ := (aeB h.links (by omega)).1 ho'
  have hd := aiy h.links (by omega) hp hs
  split
  ·simp
  ·rename_i hne
   dsimp only
   have hb := hd.bd t ht.1 ht.2
   obtain ⟨vs, hw⟩ := hd.att t ht.1 ht.2 hne
   have h3 := hw.low' hp
   have h4 := aFU (L := L) (fun l hl => (h.most l hl).1) (M := 4503599627370496) (by omega)
   have h5 := h.len
   unfold ad0 at hb
   constructor <;> omega
theorem aPo {b : acz} (hs : ahl b) (hr : ∀ g ∈ b.2.1, I64 g.2.2.2.2.1.1) {c : Cmp} (hA : c.2.2.1.length ≤ 1000) (hB : c.2.2.2.1.length ≤ 1000) : anU b c = some (adF b c) := by
 unfold anU asH adF
 rw [show ajG b (c.1, c.2.1, c.2.2.1, c.2.2.2.1, 0, c.2.2.2.2.2) = ajG b (ab9 c) from rfl, aRY hs hr (c := ab9 c) hA hB, ab2]
 by_cases hw : (ap8 b (ab9 c)).2 = 0
 ·rw [acm (by simp [ine, hw]), if_neg (show ¬ ((ap8 b (ab9 c)).2 ≠ 0) from fun h => h hw)]
  -- the book is valid, and so is the greater one
  have hb : acu b = 0 := by
   unfold ap8 at hw
   split at hw
   ·rename_i h; exact (h hw).elim
   ·rename_i h; simpa using h
  have hm : acu (acE b (ab9 c)) = 0 := by
   unfold ap8 at hw
   rw [if_neg (by simp [hb])] at hw
   split at hw
   ·rename_i h; exact (h hw).elim
   ·rename_i h; simpa using h
  have he : ap8 b (ab9 c) = (acE b (ab9 c), 0) := by
   unfold ap8
   rw [if_neg (by simp [hb]), if_neg (by simp [hm])]
  have g := (acx b).1 hb
  have gm := (acx _).1 hm
  have hmem : ab9 c ∈ (acE b (ab9 c)).2.2.2.2.1 := by simp [acE]
  have hN := gm.nodes
  have hll := aKa gm
  have hcl : (acE b (ab9 c)).2.2.2.2.1.length = b.2.2.2.2.1.length + 1 := by simp [acE]
  have hlk := gm.links
  have hsys : aep (acP (acE b (ab9 c))) ((acd (acE b (ab9 c))).length + 1) := gm.sys.sub (fun l hl => List.mem_of_mem_take hl) (by unfold acP; rw [List.length_take]; omega)
  have hx := (aHK gm hmem).rng
  have hy := (aCa gm hmem).rng
  have lA : c.2.2.1.length ≤ 1000 := hA
  rw [he]
  dsimp only
  rw [aFY gm, ab2]
  dsimp only
  rw [acB, acq (by omega) (by omega)]
  have e1 : ((ile (0 : Int) (((acn (acE b (ab9 c))).length : Int) - 2)) && (ile (((acn (acE b (ab9 c))).length : Int) - 2) (adx (acn (acE b (ab9 c)))))) = true := by
   simp [ile, adx]; omega
  have e2 : (((acn (acE b (ab9 c))).length : Int) - 2).toNat = (acn (acE b (ab9 c))).length - 2 := by omega
  rw [adB e1, alN (by omega) (by omega), ab2, aRS _ _ _ (by dsimp only; omega), ab2, alN (by omega) (by omega), ab2, aRS _ _ _ (by dsimp only; omega), ab2, e2]
  have e3 : (((acd (acE b (ab9 c))).length : Int) + 1) = (((acd (acE b (ab9 c))).length + 1 : Nat) : Int) := by push_cast; rfl
  rw [e3]
  rw [show List.take ((acn (acE b (ab9 c))).length - 2) (acn (acE b (ab9 c))) = acP (acE b (ab9 c)) from rfl]
  dsimp only
  rw [show atP (acd (acE b (ab9 c))) (adb c.2.2.1 c.2.2.2.1) c.2.1 = cx (acE b (ab9 c)) (ab9 c) from rfl, show atP (acd (acE b (ab9 c))) (adb c.2.2.2.1 c.2.2.1) c.2.1 = cy (acE b (ab9 c)) (ab9 c) from rfl]
  rw [azu hsys hy hx, ab2, azu hsys hx hy]
  have b1 := aK8 hsys hy hx
  have b2 := aK8 hsys hx hy
  generalize hB1 : afw (acP (acE b (ab9 c))) ((acd (acE b (ab9 c))).length + 1) (cy (acE b (ab9 c)) (ab9 c)) (cx (acE b (ab9 c)) (ab9 c)) = B1 at b1 ⊢
  generalize hB2 : afw (acP (acE b (ab9 c))) ((acd (acE b (ab9 c))).length + 1) (cx (acE b (ab9 c)) (ab9 c)) (cy (acE b (ab9 c)) (ab9 c)) = B2 at b2 ⊢
  by_cases h1 : B1.2 = 0
  ·rw [acm (by simp [ine, h1]), if_neg (show ¬ (B1.2 ≠ 0) from fun h => h h1), ab2]
   by_cases h2 : B2.2 = 0
   ·rw [acm (by simp [ine, h2]), if_neg (show ¬ (B2.2 ≠ 0) from fun h => h h2), acq (by omega) (by omega)]
    have hck : aTN b (ab9 c) := ⟨(gm.cmp hmem).nums, (gm.cmp hmem).r1, (gm.cmp hmem).r2⟩
    rw [show amG b (c.1, c.2.1, c.2.2.1, c.2.2.2.1, 0, c.2.2.2.2.2) (0 - B2.1, B1.1) = amG b (ab9 c) (0 - B2.1, B1.1) from rfl, aSu g.size g.film hck (by dsimp only; omega) (by dsimp only; omega), ab2, Int.zero_sub]
   ·rw [acs (by simp [ine, h2]), if_pos h2]
  ·rw [acs (by simp [ine, h1]), if_pos h1]
 ·rw [acs (by simp [ine, hw]), if_pos hw]
end Go.Proofs.ZzM
end
noncomputable section
namespace Go.Proofs.ZzM
open Go Go.Am
structure In (b : acz) : Prop where
 size : ahl b
 num : ∀ g ∈ b.2.1, I64 g.2.2.2.2.1.1
def aCE (b : acz) : Sys × List (Int × Int) × Int := if acu b ≠ 0 then ((0, []), [], acu b) else ((((acd b).length : Int) + 1, acn b), ads b, 0)
theorem agn {b : acz} (h : In b) : adt b = some (aCE b) := by
 unfold adt awJ aCE
 rw [ae3 h.size h.num, ab2]
 by_cases hc : acu b = 0
 ·rw [acm (by simp [ine, hc]), aFY ((acx b).1 hc), ab2, if_neg (show ¬ (acu b ≠ 0) from fun h => h hc)]
 ·rw [acs (by simp [ine, hc]), if_pos hc]
def cmp0 : Cmp := (0, 0, [], [], 0, 0, 0, 0)
def alV (b : acz) (i : Int) : Cmp × Int := if acu b ≠ 0 then (cmp0, acu b) else if i < 0 ∨ (b.2.2.2.2.1.length : Int) ≤ i then (cmp0, 1) else (b.2.2.2.2.1[i.toNat]?.getD cmp0, 0)
theorem aSh {b : acz} (h : In b) (i : Int) : avq b i = some (alV b i) := by
 unfold avq aBd alV
 rw [ae3 h.size h.num, ab2]
 by_cases hc : acu b = 0
 ·rw [acm (by simp [ine, hc]), if_neg (show ¬ (acu b ≠ 0) from fun h => h hc), acB]
  by_cases h1 : i < 0
  ·rw [acs (by simp [ilt, h1]), if_pos (.inl h1)]; rfl
  ·rw [acm (by simp [ilt]; omega)]
   by_cases h2 : (b.2.2.2.2.1.length : Int) ≤ i
   ·rw [acs (by simp [ige, h2]), if_pos (.inr h2)]; rfl
   ·rw [acm (by simp [ige]; omega), if_neg (by omega)]
    obtain ⟨j, rfl⟩ := Int.eq_ofNat_of_zero_le (show 0 ≤ i by omega)
    have hj : j < b.2.2.2.2.1.length := by omega
    rw [aci (List.getElem?_eq_getElem hj), Int.toNat_natCast, List.getElem?_eq_getElem hj]
    rfl
 ·rw [acs (by simp [ine, hc]), if_pos hc]; rfl
theorem aLe {b : acz} {i : Int} (h : (alV b i).2 = 0) : adh b ∧ (alV b i).1 ∈ b.2.2.2.2.1 ∧ b.2.2.2.2.1[i.toNat]? = some (alV b i).1 ∧ 0 ≤ i := by
 unfold alV at h ⊢
 split at h
 ·rename_i hc; exact (hc h).elim
 ·rename_i hc
  have hc0 : acu b = 0 := by simpa using hc
  split at h
  ·simp at h
  ·rename_i hi
   have hj : i.toNat < b.2.2.2.2.1.length := by omega
   rw [if_neg hc, if_neg hi, List.getElem?_eq_getElem hj]
   exact ⟨(acx b).1 hc0, List.getElem_mem hj, rfl, by omega⟩
def aTJ (b : acz) (i : Int) : (Int × Int) × Int := if (alV b i).2 ≠ 0 then ((0, 0), (alV b i).2) else (aeO b (alV b i).1, 0)
theorem aU2 {b : acz} (h : In b) (i : Int) : azq b i = some (aTJ b i) := by
 unfold azq aHj aTJ
 rw [aSh h, ab2]
 by_cases hw : (alV b i).2 = 0
 ·obtain ⟨g, hm, _, _⟩ := aLe hw
  rw [acm (by simp [ine, hw]), g.says hm, ab2, if_neg (show ¬ ((alV b i).2 ≠ 0) from fun h => h hw)]
 ·rw [acs (by simp [ine, hw]), if_pos hw]
def exB : acz := ((0, 2), [(1, 0, 1000, (-5, 5), (1, 10), 1), (2, 0, 1000, (-50, 50), (1, 4), 0)], [(1, 10)], [(1, (20, 29), 3)], [(7, 10, [1], [2], -20, 1, 100, 200)], [])
theorem apY : In exB := ⟨⟨by decide, by decide, by decide, by decide, by decide, by decide⟩, by
 intro g hg
 simp [exB] at hg
 rcases hg with rfl | rfl <;> exact ⟨by decide, by decide⟩⟩
def exC : Cmp := (8, 10, [1], [2], 0, 0, 0, 0)
end Go.Proofs.ZzM
end
noncomputable section
namespace Go.Proofs.ZzM
open Go Go.Am
def avb (b : acz) (x d : Int) : Int := match ag0 (acd b) x d with | some j => (j : Int) + 1 | none => 0
def aOd (b : acz) (n : Int × Int) : Int × Int := if acu b ≠ 0 then (0, acu b) else if avb b n.1 n.2 = 0 then (0, 5) else (avb b n.1 n.2, 0)
theorem aCJ {b : acz} (h : In b) (n : Int × Int) : aeo b n = some (aOd b n) := by
 have hl := aEu h.size
 unfold aeo aBu aOd
 rw [ae3 h.size h.num, ab2]
 by_cases hc : acu b = 0
 ·rw [acm (by simp [ine, hc]), if_neg (show ¬ (acu b ≠ 0) from fun h => h hc), aFS h.size, ab2, show acS (acd b) n = acS (acd b) (n.1, n.2) from rfl, aK1 (by omega), ab2]
  unfold avb
  cases hx : ag0 (acd b) n.1 n.2 with
  | none => rfl
  | some j =>
    have := (ah9 hx).1
    simp only
    rw [acm (by simp [ilt]), acq (by omega) (by omega), if_neg (by omega)]
 ·rw [acs (by simp [ine, hc]), if_pos hc]
end Go.Proofs.ZzM
end
noncomputable section
namespace Go.Proofs.ZzM
open Go Go.Am
def aqW (b : acz) (n : Int × Int) : acz := (b.1, b.2.1, b.2.2.1, b.2.2.2.1, b.2.2.2.2.1, b.2.2.2.2.2 ++ [n])
theorem aQI {b : acz} (h : adh b) (n : Int × Int) : ahl (aqW b n) := by
 have hs := h.size
 have := h.nK
 exact ⟨hs.gauges, hs.uses, hs.loans, hs.compares, by simp [aqW]; omega, hs.piles⟩
def aPp (b : acz) (n : Int × Int) : acz × Int := if acu b ≠ 0 then (ajJ, acu b) else if acu (aqW b n) ≠ 0 then (ajJ, acu (aqW b n)) else (aqW b n, 0)
theorem aU5 {b : acz} (h : In b) (n : Int × Int) : agW b n = some (aPp b n) := by
 have hs := h.size
 have h1 := hs.gauges; have h2 := hs.uses; have h3 := hs.loans; have h4 := hs.compares; have h5 := hs.looks
 unfold agW aHl aPp
 rw [ae3 hs h.num, ab2]
 by_cases hc : acu b = 0
 ·have hg := (acx b).1 hc
  rw [acm (by simp [ine, hc]), acp (by omega), Am.iff_true, acp (by omega), Am.iff_true, acp (by omega), Am.iff_true, acp (by omega), Am.iff_true, acp (by omega), Am.iff_true, if_neg (show ¬ (acu b ≠ 0) from fun h => h hc)]
  refine ac3 b.2.2.2.2.1 (fun _ => b.2.2.2.2.1) _ rfl (fun i d hi hd kn => ?_) (fun kn => ?_)
  ·dsimp only
   unfold anH
   obtain ⟨p1, p2⟩ := hs.piles d (List.mem_of_getElem? hd)
   have e1 : b.2.2.2.2.1.set i d = b.2.2.2.2.1 := by
    obtain ⟨h, rfl⟩ := List.getElem?_eq_some_iff.1 hd
    exact List.set_getElem_self h
   rw [aco hi, afY hi, aev hd, acp (by omega), Am.iff_true, acp (by omega), Am.iff_true, afY hi, aev hd, Int.toNat_natCast]
   rw [show (d.1, d.2.1, d.2.2.1, d.2.2.2) = d from rfl, e1, afY hi, agT hd, ack hi (by omega)]
   rw [show (d.1, d.2.1, d.2.2.1, d.2.2.2.1, d.2.2.2.2) = d from rfl, e1]
  ·try dsimp only
   unfold anH
   rw [acK]
   dsimp only
   rw [acp (by simp only [List.length_singleton]; omega), Am.iff_true]
   rw [show acL (b.1, b.2.1, b.2.2.1, b.2.2.2.1, b.2.2.2.2.1, b.2.2.2.2.2 ++ [n]) = acL (aqW b n) from rfl, ae3 (aQI hg n) h.num, ab2]
   by_cases hc2 : acu (aqW b n) = 0
   ·rw [acm (by simp [ine, hc2]), if_neg (show ¬ (acu (aqW b n) ≠ 0) from fun h => h hc2)]
    rfl
   ·rw [acs (by simp [ine, hc2]), if_pos hc2]
    rfl
 ·rw [acs (by simp [ine, hc]), if_pos hc]
  rfl
end Go.Proofs.ZzM
end
noncomputable section
namespace Go.Proofs.ZzM
open Go Go.Am
theorem aR7 {b : acz} {x : List Int} : aCK b x = (true, 0) ↔ adh b ∧ aqt b x = true ∧ aS4 b x = true := by
 unfold aCK
 constructor
 ·intro h
  split at h
  ·cases h
  ·rename_i hc
   have hc0 : acu b = 0 := by simpa using hc
   split at h
   ·rename_i hl
    simp only [Prod.mk.injEq, and_true] at h
    exact ⟨(acx b).1 hc0, hl, h⟩
   ·cases h
 ·rintro ⟨h1, h2, h3⟩
  rw [if_neg (by simp [(acx b).2 h1]), if_pos h2, h3]
theorem aQ9 {L : List Lk} {x : List Int} : aKv L x = true ↔ Pot L (gv x) := by
 simp only [aKv, List.all_eq_true, decide_eq_true_eq, Pot]
 exact ⟨fun h u v m hl => h (u, v, m) hl, fun h l hl => h l.1 l.2.1 l.2.2 hl⟩
end Go.Proofs.ZzM
end
noncomputable section
namespace Go.Proofs.ZzM
open Go Go.Am
section
variable {b : acz}
theorem aUz : off b b.2.1.length = (acd b).length := by unfold off acd; rw [List.take_length]
theorem aSF : ∀ n, n ≤ b.2.1.length → ∀ j, j < off b n → ∃ (i : Nat) (g : acT) (k : Nat), b.2.1[i]? = some g ∧ k < (acC b g).length ∧ j = off b i + k := by
 intro n
 induction n with
 | zero => intro _ j hj; simp [off] at hj
 | succ n ih =>
   intro hn j hj
   have hg : b.2.1[n]? = some b.2.1[n] := List.getElem?_eq_getElem (by omega)
   rw [aSE hg] at hj
   by_cases h : j < off b n
   ·exact ih (by omega) j h
   ·exact ⟨n, _, j - off b n, hg, by omega, by omega⟩
theorem aEv {v : Int} (h0 : 1 ≤ v) (h1 : v < ((acd b).length + 1 : Nat)) : ∃ (i : Nat) (g : acT) (k : Nat), b.2.1[i]? = some g ∧ k < (acC b g).length ∧ v = (off b i : Int) + k + 1 := by
 obtain ⟨i, g, k, h2, h3, h4⟩ := aSF (b := b) b.2.1.length (Nat.le_refl _) (v - 1).toNat (by rw [aUz]; omega)
 exact ⟨i, g, k, h2, h3, by omega⟩
def GL (b : acz) (L : List Lk) : Prop := ∀ (i : Nat) (g : acT), b.2.1[i]? = some g → ∀ l ∈ acR b g, l ∈ L
theorem aNC : GL b (acn b) := fun i g hg l hl => ajS.2 (.inl ⟨i, g, hg, hl⟩)
theorem aPL {L : List Lk} (h : adh b) (hL : GL b L) {v : Int} (h0 : 0 ≤ v) (h1 : v < ((acd b).length + 1 : Nat)) : ∃ vs d, Wl L (fun u => u = 0) vs v d ∧ d ≤ 4503599627370496 := by
 by_cases hv : v = 0
 ·exact ⟨[], 0, .nil hv, by omega⟩
 obtain ⟨i, g, k, hg, hk, rfl⟩ := aEv (by omega) h1
 have hr := h.gaugeR (List.mem_of_getElem? hg)
 have r1 := hr.2.2.2.2.2.1
 have r2 := hr.2.2.2.2.2.2.1
 have key : ∀ k : Nat, k < (acC b g).length → ∃ vs, Wl L (fun u => u = 0) vs ((off b i : Int) + k + 1) (g.2.2.1 + g.2.2.2.1.2) := by
  intro k
  induction k with
  | zero =>
    intro _
    have hw : Wl L (fun u => u = 0) [0] ((off b i : Int) + 1) (0 + (g.2.2.1 + g.2.2.2.1.2)) := Wl.step (.nil rfl) (hL i g hg _ ((adI h hg).2 (.inl rfl)))
    rw [Int.zero_add] at hw
    exact ⟨[0], by simpa using hw⟩
  | succ k ih =>
    intro hk
    obtain ⟨vs, hw⟩ := ih (by omega)
    have hw' := Wl.step hw (hL i g hg _ ((adI h hg).2 (.inr (.inr ⟨k, _, _, List.getElem?_eq_getElem (show k < _ by omega), List.getElem?_eq_getElem hk, .inl rfl⟩))))
    rw [Int.add_zero] at hw'
    have e : (off b i : Int) + ((k + 1 : Nat) : Int) + 1 = (off b i : Int) + k + 2 := by push_cast; omega
    exact ⟨_, by rw [e]; exact hw'⟩
 obtain ⟨vs, hw⟩ := key k hk
 exact ⟨vs, _, hw, by omega⟩
theorem aIj {L : List Lk} (h : adh b) (hL : GL b L) {v : Int} (h0 : 0 ≤ v) (h1 : v < ((acd b).length + 1 : Nat)) : ∃ vs d, Wl L (fun u => u = v) vs 0 d ∧ d ≤ 4503599627370496 := by
 by_cases hv : v = 0
 ·exact ⟨[], 0, .nil hv.symm, by omega⟩
 obtain ⟨i, g, k, hg, hk, rfl⟩ := aEv (by omega) h1
 have hgm := List.mem_of_getElem? hg
 have hr := h.gaugeR hgm
 have r1 := hr.2.2.2.2.2.1
 have r2 := hr.2.2.2.2.2.2.1
 have hd := aHJ h hgm
 have key : ∀ m : Nat, m ≤ k → ∃ vs d, Wl L (fun u => u = (off b i : Int) + k + 1) vs ((off b i : Int) + (k - m : Nat) + 1) d ∧ d ≤ m * (12 * (20001 * 1048576) + 40 * 1048576) := by
  intro m
  induction m with
  | zero => intro _; exact ⟨[], 0, .nil (by simp), by simp⟩
  | succ m ih =>
    intro hm
    obtain ⟨vs, d, hw, hd⟩ := ih (by omega)
    have e1 : ((k - m : Nat) : Int) = ((k - (m + 1) : Nat) : Int) + 1 := by omega
    have hl : (((off b i : Int) + (k - (m + 1) : Nat) + 2, (off b i : Int) + (k - (m + 1) : Nat) + 1, agv b g ((acC b g)[k - (m + 1)]'(by omega)) ((acC b g)[k - (m + 1) + 1]'(by omega))) : Lk) ∈ L :=
     hL i g hg _ ((adI h hg).2 (.inr (.inr ⟨k - (m + 1), _, _, List.getElem?_eq_getElem (by omega), List.getElem?_eq_getElem (by omega), .inr rfl⟩)))
    have hb := anI h hgm (f := (acC b g)[k - (m + 1)]'(by omega)) (t := (acC b g)[k - (m + 1) + 1]'(by omega)) (h.day hgm (List.getElem_mem _)).2.1
    have e2 : (off b i : Int) + (k - m : Nat) + 1 = (off b i : Int) + (k - (m + 1) : Nat) + 2 := by omega
    rw [e2] at hw
    exact ⟨_, _, .step hw hl, by push_cast; omega⟩
 obtain ⟨vs, d, hw, hdb⟩ := key k (Nat.le_refl _)
 have e : (off b i : Int) + (k - k : Nat) + 1 = (off b i : Int) + 1 := by omega
 rw [e] at hw
 have hw' := Wl.step hw (hL i g hg _ ((adI h hg).2 (.inr (.inl rfl))))
 exact ⟨_, _, hw', by omega⟩
end
structure ayY (L : List Lk) (N : Nat) : Prop where
 to : ∀ v : Int, 0 ≤ v → v < N → ∃ vs d, Wl L (fun u => u = 0) vs v d ∧ d ≤ 4503599627370496
 from' : ∀ v : Int, 0 ≤ v → v < N → ∃ vs d, Wl L (fun u => u = v) vs 0 d ∧ d ≤ 4503599627370496
theorem adh.tied {b : acz} (h : adh b) : ayY (acn b) ((acd b).length + 1) := ⟨fun v h0 h1 => aPL h aNC h0 h1, fun v h0 h1 => aIj h aNC h0 h1⟩
theorem adh.tiedL {b : acz} {L : List Lk} (h : adh b) (hL : GL b L) : ayY L ((acd b).length + 1) := ⟨fun v h0 h1 => aPL h hL h0 h1, fun v h0 h1 => aIj h hL h0 h1⟩
section
variable {L : List Lk} {N : Nat}
theorem aQi {L : List Lk} {s : Int} {vs : List Int} {v d : Int} : Wl L (fun v => aQj s v = true) vs v d ↔ Wl L (fun u => u = s) vs v d :=
 ⟨fun h => h.mono fun u hu => by simpa [aQj] using hu, fun h => h.mono fun u hu => by simpa [aQj] using hu⟩
theorem aCw (s : Int) : (aiz L N s).length = N := by unfold aiz; rw [ad3, ac2]
theorem aML (h : aep L N) (ho : ady L N = true) {v : Int} (h0 : 0 ≤ v) (h1 : v < N) : gv (aiz L N v) v = 0 := by
 have h2 := h.n60
 obtain ⟨p, hp⟩ := (aeB h.links (by omega)).1 ho
 have hd := aiy h.links (by omega) hp (s := v) ⟨h0, h1⟩
 have h3 := hd.low v [] 0 (.nil (by simp [aQj]))
 obtain ⟨vs, hw⟩ := hd.att v h0 h1 (by unfold ad0; omega)
 obtain ⟨s, hs, hx⟩ := (aQi.1 hw).pot hp
 subst hs
 omega
end
theorem aPj {b : acz} : ∀ i, i ≤ b.2.2.2.2.1.length → ((b.2.2.2.2.1.take i).flatMap (acX b)).length = 2 * i ∧ (((b.2.2.2.2.1.take i).mapIdx fun i _ => [((3 : Int), (i : Int)), ((3 : Int), (i : Int))]).flatten).length = 2 * i := by
 intro i
 induction i with
 | zero => intro _; simp
 | succ i ih =>
   intro hi
   have ih := ih (by omega)
   have hg : b.2.2.2.2.1[i]? = some b.2.2.2.2.1[i] := List.getElem?_eq_getElem hi
   rw [aia _ hg, take_succ hg, List.flatMap_append, List.flatten_append, List.length_append, List.length_append]
   simp only [List.flatMap_cons, List.flatMap_nil, List.append_nil, List.flatten_cons, List.flatten_nil, acX, List.length_cons, List.length_nil]
   omega
end Go.Proofs.ZzM
end
noncomputable section
namespace Go.Proofs.ZzM
open Go Go.Am
section
variable {L : List Lk} {N : Nat}
theorem an1 (h : aep L N) : adc ((N : Int), L) = some (ady L N, 0) := by
 have h2 := h.n60
 unfold adc alG
 rw [afP h, ab2]
 dsimp only
 rw [acm (by rfl), amR h.links h.n1 (by omega), ab2]
 cases ady L N <;> rfl
end
end Go.Proofs.ZzM
end
noncomputable section
namespace Go.Proofs.ZzM
open Go Go.Am
def aov (b : acz) (n : Int × Int) : acz × Int := if avb b n.1 n.2 ≠ 0 then (b, 0) else if acu (aqW b n) ≠ 0 then (ajJ, acu (aqW b n)) else (aqW b n, 0)
def agY : acz → List (Int × Int) → acz × Int
 | b, [] => (b, 0)
 | b, n :: t => if (aov b n).2 ≠ 0 then (ajJ, (aov b n).2) else agY (aov b n).1 t
def adv (b : acz) (ns : List (Int × Int)) : acz × Int :=
 if acu b ≠ 0 then (ajJ, acu b) else if (agY b ns).2 ≠ 0 then (ajJ, (agY b ns).2) else
 if ady (acn (agY b ns).1) ((acd (agY b ns).1).length + 1) then ((agY b ns).1, 0) else (ajJ, 9)
theorem aPQ {b : acz} (h : adh b) {n : Int × Int} (e : (aov b n).2 = 0) : adh (aov b n).1 := by
 unfold aov at e ⊢
 split
 ·exact h
 ·rename_i h1
  rw [if_neg h1] at e
  split
  ·rename_i h2
   rw [if_pos h2] at e
   exact absurd e h2
  ·rename_i h2
   exact (acx _).1 (by simpa using h2)
theorem aLk {b : acz} {n : Int × Int} (e : (aov b n).2 = 0) : (aov b n).1.2.1 = b.2.1 := by
 unfold aov at e ⊢
 split
 ·rfl
 ·rename_i h1
  rw [if_neg h1] at e
  split
  ·rename_i h2
   rw [if_pos h2] at e
   exact absurd e h2
  ·rfl
theorem azJ : ∀ {ns : List (Int × Int)} {b : acz}, adh b → (agY b ns).2 = 0 → adh (agY b ns).1
 | [], b, h, _ => h
 | n :: t, b, h, e => by
   unfold agY at e ⊢
   split
   ·rename_i h1; rw [if_pos h1] at e; exact absurd e h1
   ·rename_i h1
    rw [if_neg h1] at e
    exact azJ (aPQ h (by simpa using h1)) e
theorem arZ : ∀ {ns : List (Int × Int)} {b : acz}, (agY b ns).2 = 0 → (agY b ns).1.2.1 = b.2.1
 | [], b, _ => rfl
 | n :: t, b, e => by
   unfold agY at e ⊢
   split
   ·rename_i h1; rw [if_pos h1] at e; exact absurd e h1
   ·rename_i h1
    rw [if_neg h1] at e
    rw [arZ e, aLk (by simpa using h1)]
theorem adh.inn {b : acz} (h : adh b) (hn : ∀ g ∈ b.2.1, I64 g.2.2.2.2.1.1) : In b := ⟨h.size, hn⟩
theorem aeu {b : acz} (h : adh b) : aCE b = ((((acd b).length : Int) + 1, acn b), ads b, 0) := by
 unfold aCE
 rw [if_neg (by simp [(acx b).2 h])]
theorem asU {b : acz} (h : adh b) (n : Int × Int) : aOd b n = if avb b n.1 n.2 = 0 then (0, 5) else (avb b n.1 n.2, 0) := by
 unfold aOd
 rw [if_neg (by simp [(acx b).2 h])]
abbrev Flat : Type := Int × Int × List acT × List (Int × Int) × List ayi × List Cmp × List (Int × Int)
def flat (b : acz) : Flat := (b.1.1, b.1.2, b.2.1, b.2.2.1, b.2.2.2.1, b.2.2.2.2.1, b.2.2.2.2.2)
theorem apQ (b : acz) : (((flat b).1, (flat b).2.1), (flat b).2.2) = b := rfl
section
variable {ρ : Type}
def aUl (ns : List (Int × Int)) (E1 : Int × Flat → Option ρ) (K1 : Flat → Option ρ) (b : acz) : Option ρ :=
 acl (fun (v : Int × Flat) kk => ac9 (acv ns) ns v.1 v.2.1 v.2.2.1 v.2.2.2.1 v.2.2.2.2.1 v.2.2.2.2.2.1 v.2.2.2.2.2.2.1 v.2.2.2.2.2.2.2 (fun u1 u2 u3 u4 u5 u6 u7 u8 => kk (u1, u2, u3, u4, u5, u6, u7, u8)) (fun z => E1 z) (fun z => K1 z)) ((0 : Int), b.1.1, b.1.2, b.2.1, b.2.2.1, b.2.2.2.1, b.2.2.2.2.1, b.2.2.2.2.2)
theorem aP3 {ns : List (Int × Int)} (hl : ns.length ≤ 1000) {E1 : Int × Flat → Option ρ} {K1 : Flat → Option ρ} (R : Int → Option ρ) (h1 : ∀ z, z.1 ≠ 0 → E1 z = R z.1) {b : acz} (hg : adh b) (hn : ∀ g ∈ b.2.1, I64 g.2.2.2.2.1.1) :
 aUl ns E1 K1 b = if (agY b ns).2 ≠ 0 then R (agY b ns).2 else K1 (flat (agY b ns).1) := by
 unfold aUl
 refine aHp ns (fun (i : Nat) (s : Flat) (t : List (Int × Int)) => if (agY ((s.1, s.2.1), s.2.2) t).2 ≠ 0 then R (agY ((s.1, s.2.1), s.2.2) t).2 else K1 (flat (agY ((s.1, s.2.1), s.2.2) t).1))
  (fun i s => adh ((s.1, s.2.1), s.2.2) ∧ ∀ g ∈ s.2.2.1, I64 g.2.2.2.2.1.1) (fun s hs kn => ?_) (fun i n t s hd hi ha hs kn hk => ?_) (s := flat b) ⟨hg, hn⟩
 ·dsimp only
  unfold ac9
  rw [acK]
  rfl
 ·dsimp only
  unfold ac9
  obtain ⟨hs1, hs2⟩ := hs
  have hin : In ((s.1, s.2.1), s.2.2) := hs1.inn hs2
  rw [aco hi, afY hi, aev ha]
  rw [show aeo ((s.1, s.2.1), s.2.2.1, s.2.2.2.1, s.2.2.2.2.1, s.2.2.2.2.2.1, s.2.2.2.2.2.2) n = aeo ((s.1, s.2.1), s.2.2) n from rfl, aCJ hin, ab2]
  rw [show agW ((s.1, s.2.1), s.2.2.1, s.2.2.2.1, s.2.2.2.2.1, s.2.2.2.2.2.1, s.2.2.2.2.2.2) n = agW ((s.1, s.2.1), s.2.2) n from rfl, aU5 hin, ab2]
  rw [asU hs1]
  generalize hB : (((s.1, s.2.1), s.2.2) : acz) = B at hs1 hin ⊢
  have hu : agY B (n :: t) = if (aov B n).2 ≠ 0 then (ajJ, (aov B n).2) else agY (aov B n).1 t := rfl
  rw [hu]
  by_cases h0 : avb B n.1 n.2 = 0
  ·rw [if_pos h0, acm (by rfl)]
   by_cases h2 : acu (aqW B n) = 0
   ·have e : aov B n = (aqW B n, 0) := by unfold aov; rw [if_neg (by simp [h0]), if_neg (by simp [h2])]
    have e2 : aPp B n = (aqW B n, 0) := by unfold aPp; rw [if_neg (by simp [(acx B).2 hs1]), if_neg (by simp [h2])]
    rw [e2, e, acm (by rfl), ack hi (by omega), if_neg (show ¬ ((0 : Int) ≠ 0) by simp)]
    subst hB
    exact hk (s.1, s.2.1, s.2.2.1, s.2.2.2.1, s.2.2.2.2.1, s.2.2.2.2.2.1, s.2.2.2.2.2.2 ++ [n]) ⟨(acx _).1 h2, hs2⟩
   ·have e : aov B n = (ajJ, acu (aqW B n)) := by unfold aov; rw [if_neg (by simp [h0]), if_pos h2]
    have e2 : aPp B n = (ajJ, acu (aqW B n)) := by unfold aPp; rw [if_neg (by simp [(acx B).2 hs1]), if_pos h2]
    rw [e2, e, acs (by simp [ine, h2]), if_pos h2, if_pos h2]
    exact h1 _ h2
  ·have e : aov B n = (B, 0) := by unfold aov; rw [if_pos h0]
   rw [if_neg h0, acs (by rfl), ack hi (by omega), e, if_neg (show ¬ ((0 : Int) ≠ 0) by simp)]
   subst hB
   exact hk s ⟨hs1, hs2⟩
theorem amU {b : acz} (hI : In b) {ns : List (Int × Int)} (hl : ns.length ≤ 1000) {E0 : Int → Option ρ} {E1 : Int × Flat → Option ρ} {E2 : Flat → Sys × List (Int × Int) × Int → Option ρ} {E3 : Flat → Sys × List (Int × Int) × Int → Bool × Int → Option ρ}
 {K : Flat → Sys × List (Int × Int) × Int → Bool × Int → Option ρ} (R : Int → Option ρ) (h0 : ∀ e, e ≠ 0 → E0 e = R e) (h1 : ∀ z, z.1 ≠ 0 → E1 z = R z.1) (h3 : ∀ z s r, E3 z s r = R 9) :
 ab4 (acL b) (fun r1 => ifb (ine r1 (0 : Int)) (E0 r1) (aUl ns E1 (fun z8 => ab4 (adt ((z8.1, z8.2.1), z8.2.2)) fun r9 => ifb (ine r9.2.2 (0 : Int)) (E2 z8 r9) (ab4 (adc r9.1) fun r10 => ifb (!r10.1) (E3 z8 r9 r10) (K z8 r9 r10))) b)) =
 if (adv b ns).2 ≠ 0 then R (adv b ns).2 else K (flat (adv b ns).1) ((((acd (adv b ns).1).length : Int) + 1, acn (adv b ns).1), ads (adv b ns).1, 0) (true, 0) := by
 rw [ae3 hI.size hI.num, ab2]
 unfold adv
 by_cases hc : acu b = 0
 ·have hg := (acx b).1 hc
  rw [acm (by simp [ine, hc]), if_neg (show ¬ (acu b ≠ 0) from fun h => h hc), aP3 hl R h1 hg hI.num]
  by_cases hr : (agY b ns).2 = 0
  ·rw [if_neg (show ¬ ((agY b ns).2 ≠ 0) from fun h => h hr), if_neg (show ¬ ((agY b ns).2 ≠ 0) from fun h => h hr)]
   have hB := azJ hg hr
   have hBn : ∀ g ∈ (agY b ns).1.2.1, I64 g.2.2.2.2.1.1 := by rw [arZ hr]; exact hI.num
   generalize (agY b ns).1 = B at hB hBn ⊢
   rw [apQ, agn (hB.inn hBn), ab2, aeu hB, acm (by rfl)]
   dsimp only
   rw [show (((acd B).length : Int) + 1) = (((acd B).length + 1 : Nat) : Int) by push_cast; rfl, an1 hB.sys, ab2]
   cases ho : ady (acn B) ((acd B).length + 1) with
   | true =>
     rw [if_neg (by simp)]
     simp only [Bool.not_true, acM]
     push_cast
     rfl
   | false =>
     rw [if_pos (by simp)]
     simp only [Bool.not_false, ad5]
     rw [h3]
     rfl
  ·rw [if_pos hr, if_pos hr, if_pos hr]
 ·rw [acs (by simp [ine, hc]), h0 _ hc, if_pos hc, if_pos hc]
end
end Go.Proofs.ZzM
end
noncomputable section
namespace Go.Proofs.ZzM
open Go Go.Am
def aLf (b : acz) (id day : Int) : Bool := b.2.2.1.any fun u => u.1 == id && u.2 == day
def aRl (b : acz) (g : acT) (d : Int) : Int := match aqX b g.1 d with | some l => l.2.2 | none => if aLf b g.1 d then g.2.2.2.2.2 else 0
theorem aQJ (l : ayi) (id : Int) {f t : Int} (hft : f ≤ t) : (if l.1 = id ∧ 0 < adj l f (t + 1) then adj l f (t + 1) * l.2.2 else 0) = (if l.1 = id ∧ 0 < adj l f t then adj l f t * l.2.2 else 0) + (if l.1 = id ∧ l.2.1.1 ≤ t ∧ t ≤ l.2.1.2 then l.2.2 else 0) := by
 by_cases hid : l.1 = id
 ·by_cases h1 : l.2.1.1 ≤ t ∧ t ≤ l.2.1.2
  ·have e : adj l f (t + 1) = adj l f t + 1 := by unfold adj; omega
   have p : 0 ≤ adj l f t := by unfold adj; omega
   rw [e, if_pos ⟨hid, by omega⟩, if_pos (show l.1 = id ∧ l.2.1.1 ≤ t ∧ t ≤ l.2.1.2 from ⟨hid, h1⟩), Int.add_mul, Int.one_mul]
   by_cases hp : 0 < adj l f t
   ·rw [if_pos ⟨hid, hp⟩]
   ·rw [if_neg (fun h => hp h.2)]
    have : adj l f t = 0 := by omega
    rw [this]
    omega
  ·rw [if_neg (show ¬ (l.1 = id ∧ l.2.1.1 ≤ t ∧ t ≤ l.2.1.2) from fun h => h1 h.2), Int.add_zero]
   by_cases hlo : l.2.1.1 ≤ t
   ·have e : adj l f (t + 1) = adj l f t := by unfold adj; omega
    rw [e]
   ·have p1 : ¬ 0 < adj l f (t + 1) := by unfold adj; omega
    have p2 : ¬ 0 < adj l f t := by unfold adj; omega
    rw [if_neg (fun h => p1 h.2), if_neg (fun h => p2 h.2)]
 ·rw [if_neg (fun h => hid h.1), if_neg (fun h => hid h.1), if_neg (fun h => hid h.1)]
  rfl
theorem aEP (id : Int) {f t : Int} (hft : f ≤ t) : ∀ {x : List ayi}, x.Pairwise (fun a c => ¬ (a.1 = c.1 ∧ a.2.1.1 ≤ c.2.1.2 ∧ c.2.1.1 ≤ a.2.1.2)) →
 ac0 id f (t + 1) x = ac0 id f t x + (match x.find? (fun l => l.1 == id && inP t l.2.1.1 l.2.1.2) with | some l => l.2.2 | none => 0)
 | [], _ => rfl
 | l :: r, hp => by
   rw [List.pairwise_cons] at hp
   have ih := aEP id hft hp.2
   simp only [ac0]
   rw [ih, aQJ l id hft, List.find?_cons]
   by_cases hm : l.1 = id ∧ l.2.1.1 ≤ t ∧ t ≤ l.2.1.2
   ·have e : (l.1 == id && inP t l.2.1.1 l.2.1.2) = true := by simp [inP, hm.1, hm.2.1, hm.2.2]
    have hn : r.find? (fun l => l.1 == id && inP t l.2.1.1 l.2.1.2) = none := by
     rw [List.find?_eq_none]
     intro c hc hcm
     simp only [inP, Bool.and_eq_true, beq_iff_eq, decide_eq_true_eq] at hcm
     exact hp.1 c hc ⟨by rw [hm.1, hcm.1], by omega, by omega⟩
    rw [if_pos hm, e, hn]
    simp only
    omega
   ·have e : (l.1 == id && inP t l.2.1.1 l.2.1.2) = false := by
     rw [Bool.eq_false_iff]
     intro h
     simp only [inP, Bool.and_eq_true, beq_iff_eq, decide_eq_true_eq] at h
     exact hm h
    rw [if_neg hm, e]
    simp only
    omega
section
variable {b : acz}
theorem adh.apart (h : adh b) : b.2.2.2.1.Pairwise (fun a c => ¬ (a.1 = c.1 ∧ a.2.1.1 ≤ c.2.1.2 ∧ c.2.1.1 ≤ a.2.1.2)) := by
 rw [List.pairwise_iff_getElem]
 intro i j hi hj hij ⟨h1, h2, h3⟩
 have hz := h.loans j _ (List.getElem?_eq_getElem hj)
 unfold aBx at hz
 have hany : (b.2.2.2.1.take j).any (fun x => x.1 == b.2.2.2.1[j].1 && (decide (x.2.1.1 ≤ b.2.2.2.1[j].2.1.2) && decide (b.2.2.2.1[j].2.1.1 ≤ x.2.1.2))) = true := by
  rw [List.any_eq_true]
  exact ⟨b.2.2.2.1[i], List.mem_iff_getElem.2 ⟨i, by rw [List.length_take]; omega, by rw [List.getElem_take]⟩, by simp [h1, h2, h3]⟩
 rw [hany] at hz
 (repeat' split at hz) <;> first | omega | simp_all
theorem adh.notUsed (h : adh b) {id d : Int} {l : ayi} (hl : aqX b id d = some l) : aLf b id d = false := by
 have hm := List.mem_of_find?_eq_some hl
 have hp := List.find?_some hl
 simp only [inP, Bool.and_eq_true, beq_iff_eq, decide_eq_true_eq] at hp
 obtain ⟨j, hj, rfl⟩ := List.mem_iff_getElem.1 hm
 have hz := h.loans j _ (List.getElem?_eq_getElem hj)
 rw [Bool.eq_false_iff]
 intro hu
 obtain ⟨u, hu, hue⟩ := List.any_eq_true.1 hu
 simp only [Bool.and_eq_true, beq_iff_eq] at hue
 have hany : b.2.2.1.any (fun u => u.1 == b.2.2.2.1[j].1 && inP u.2 b.2.2.2.1[j].2.1.1 b.2.2.2.1[j].2.1.2) = true := by
  rw [List.any_eq_true]
  exact ⟨u, hu, by simp only [inP, Bool.and_eq_true, beq_iff_eq, decide_eq_true_eq]; exact ⟨by rw [hue.1, hp.1], by omega, by omega⟩⟩
 unfold aBx at hz
 rw [hany] at hz
 (repeat' split at hz) <;> first | omega | simp_all
theorem aId {id f t : Int} (hft : f ≤ t) : aH7 (ae5 b id f (t + 1)) = aH7 (ae5 b id f t) ++ if aLf b id t then [t] else [] := by
 have hm : ∀ t x, x ∈ ae5 b id f t ↔ aLf b id x = true ∧ f ≤ x ∧ x < t := by
  intro t x
  unfold ae5 aLf
  simp only [List.mem_map, List.mem_filter, List.any_eq_true, inP, Bool.and_eq_true, beq_iff_eq, decide_eq_true_eq]
  constructor
  ·rintro ⟨u, ⟨h1, h2, h3, h4⟩, rfl⟩
   exact ⟨⟨u, h1, h2, rfl⟩, h3, by omega⟩
  ·rintro ⟨⟨u, h1, h2, rfl⟩, h3, h4⟩
   exact ⟨u, ⟨h1, h2, h3, by omega⟩, rfl⟩
 refine aRV (azE _) ?_ fun x => ?_
 ·rw [List.pairwise_append]
  refine ⟨azE _, by split <;> simp, fun a ha c hc => ?_⟩
  rw [aqe, hm] at ha
  split at hc
  ·rw [List.mem_singleton] at hc; omega
  ·cases hc
 ·rw [aqe, hm, List.mem_append, aqe, hm]
  by_cases hu : aLf b id t = true
  ·rw [if_pos hu, List.mem_singleton]
   constructor
   ·rintro ⟨h1, h2, h3⟩
    by_cases he : x = t
    ·exact .inr he
    ·exact .inl ⟨h1, h2, by omega⟩
   ·rintro (⟨h1, h2, h3⟩ | rfl)
    ·exact ⟨h1, h2, by omega⟩
    ·exact ⟨hu, hft, by omega⟩
  ·rw [if_neg hu]
   constructor
   ·rintro ⟨h1, h2, h3⟩
    refine .inl ⟨h1, h2, ?_⟩
    by_cases he : x = t
    ·rw [he] at h1; exact absurd h1 hu
    ·omega
   ·rintro (⟨h1, h2, h3⟩ | h)
    ·exact ⟨h1, h2, by omega⟩
    ·cases h
theorem aJ4 (h : adh b) (g : acT) {f t : Int} (hft : f ≤ t) : agv b g f (t + 1) = agv b g f t + aRl b g t := by
 unfold agv aRl
 rw [aEP g.1 hft h.apart, aId hft]
 show ac0 g.1 f t b.2.2.2.1 + (match aqX b g.1 t with | some l => l.2.2 | none => 0) + _ = _
 cases ha : aqX b g.1 t with
 | some l =>
   rw [h.notUsed ha]
   simp only [Bool.false_eq_true, if_false, List.append_nil]
   omega
 | none =>
   simp only
   cases aLf b g.1 t with
   | true => simp only [if_true, List.length_append, List.length_singleton, Int.natCast_add, Int.add_mul]; omega
   | false => simp only [Bool.false_eq_true, if_false, List.append_nil]; omega
theorem aJ5 (g : acT) {f t : Int} (hft : t ≤ f) : agv b g f t = 0 := by
 unfold agv
 have h1 : ∀ x : List ayi, ac0 g.1 f t x = 0 := by
  intro x
  induction x with
  | nil => rfl
  | cons l r ih =>
    simp only [ac0]
    rw [ih, if_neg (by unfold adj; omega)]
    rfl
 have h2 : ae5 b g.1 f t = [] := by
  unfold ae5
  rw [List.filter_eq_nil_iff.2 fun u hu hc => by
   simp only [inP, Bool.and_eq_true, beq_iff_eq, decide_eq_true_eq] at hc
   omega]
  rfl
 rw [h1, h2]
 have h3 : aH7 ([] : List Int) = [] := rfl
 rw [h3]
 simp
end
end Go.Proofs.ZzM
end
noncomputable section
namespace Go.Proofs.ZzM
open Go Go.Am
section
variable {b : acz}
theorem azj (h : adh b) (g : acT) {f t u : Int} (h1 : f ≤ t) (h2 : t ≤ u) : agv b g f u = agv b g f t + agv b g t u := by
 obtain ⟨n, rfl⟩ : ∃ n : Nat, u = t + n := ⟨(u - t).toNat, by omega⟩
 clear h2
 induction n with
 | zero => simp [aJ5]
 | succ n ih =>
   have e : t + ((n + 1 : Nat) : Int) = (t + n) + 1 := by omega
   rw [e, aJ4 h g (show f ≤ t + (n : Int) by omega), aJ4 h g (show t ≤ t + (n : Int) by omega), ih]
   omega
theorem asI (h : adh b) {g : acT} (hg : g ∈ b.2.1) {f t : Int} (hf : 0 ≤ f) : 0 ≤ agv b g f t := (anI h hg hf).1
def aeP (b : acz) (id d : Int) : Int := match ag0 (acd b) id d with | some j => (j : Int) + 1 | none => 0
theorem akK (h : adh b) {i : Nat} {g : acT} (hg : b.2.1[i]? = some g) {k : Nat} {d : Int} (hk : (acC b g)[k]? = some d) : aeP b g.1 d = (off b i : Int) + k + 1 := by
 unfold aeP
 rw [aLE h hg hk]
 simp only
 omega
structure akC (b : acz) (p : Int → Int) (g : acT) : Prop where
 hi : p (aeP b g.1 g.2.1) ≤ p 0 + (g.2.2.1 + g.2.2.2.1.2)
 lo : p 0 + (g.2.2.1 + g.2.2.2.1.1) ≤ p (aeP b g.1 g.2.1)
 down : ∀ d e, d ∈ acC b g → e ∈ acC b g → d ≤ e → p (aeP b g.1 e) ≤ p (aeP b g.1 d)
 loss : ∀ d e, d ∈ acC b g → e ∈ acC b g → d ≤ e → p (aeP b g.1 d) ≤ p (aeP b g.1 e) + agv b g d e
theorem ahM (h : adh b) {i : Nat} {g : acT} (hg : b.2.1[i]? = some g) {p : Int → Int} : (∀ l ∈ acR b g, p l.2.1 ≤ p l.1 + l.2.2) ↔ akC b p g := by
 have hgm := List.mem_of_getElem? hg
 obtain ⟨tl, htl⟩ := aKC h hgm
 have h0 : aeP b g.1 g.2.1 = (off b i : Int) + 1 := by
  have := akK h hg (k := 0) (d := g.2.1) (by rw [htl]; rfl)
  rw [this]
  omega
 constructor
 ·intro hl
  have e1 := hl _ ((adI h hg).2 (.inl rfl))
  have e2 := hl _ ((adI h hg).2 (.inr (.inl rfl)))
  simp only at e1 e2
  have step : ∀ (k : Nat) (d e : Int), (acC b g)[k]? = some d → (acC b g)[k + 1]? = some e → p (aeP b g.1 e) ≤ p (aeP b g.1 d) ∧ p (aeP b g.1 d) ≤ p (aeP b g.1 e) + agv b g d e := by
   intro k d e hd he
   have a1 := hl _ ((adI h hg).2 (.inr (.inr ⟨k, d, e, hd, he, .inl rfl⟩)))
   have a2 := hl _ ((adI h hg).2 (.inr (.inr ⟨k, d, e, hd, he, .inr rfl⟩)))
   simp only at a1 a2
   rw [akK h hg hd, akK h hg he]
   have e3 : (off b i : Int) + ((k + 1 : Nat) : Int) + 1 = (off b i : Int) + k + 2 := by omega
   rw [e3]
   exact ⟨by omega, a2⟩
  have pair : ∀ (n k : Nat) (d e : Int), (acC b g)[k]? = some d → (acC b g)[k + n]? = some e → p (aeP b g.1 e) ≤ p (aeP b g.1 d) ∧ p (aeP b g.1 d) ≤ p (aeP b g.1 e) + agv b g d e := by
   intro n
   induction n with
   | zero =>
     intro k d e hd he
     rw [Nat.add_zero, hd] at he
     cases he
     rw [aJ5 g (Int.le_refl _)]
     omega
   | succ n ih =>
     intro k d e hd he
     have hlt := (List.getElem?_eq_some_iff.1 he).1
     have hm : (acC b g)[k + n]? = some ((acC b g)[k + n]'(by omega)) := List.getElem?_eq_getElem (by omega)
     obtain ⟨a1, a2⟩ := ih k d _ hd hm
     obtain ⟨a3, a4⟩ := step (k + n) _ e hm he
     have o1 : d ≤ (acC b g)[k + n]'(by omega) := by
      obtain ⟨hkl, hkd⟩ := List.getElem?_eq_some_iff.1 hd
      rcases Nat.eq_zero_or_pos n with rfl | hn
      ·rw [← hkd]; exact Int.le_of_eq (by congr 1)
      ·have := (List.pairwise_iff_getElem.1 (ap1 b g)) k (k + n) hkl (by omega) (by omega)
       rw [hkd] at this; omega
     have o2 : (acC b g)[k + n]'(by omega) ≤ e := by
      obtain ⟨hel, hee⟩ := List.getElem?_eq_some_iff.1 he
      have := (List.pairwise_iff_getElem.1 (ap1 b g)) (k + n) (k + (n + 1)) (by omega) hel (by omega)
      rw [hee] at this; omega
     have := azj h g o1 o2
     omega
  have any : ∀ d e, d ∈ acC b g → e ∈ acC b g → d ≤ e → p (aeP b g.1 e) ≤ p (aeP b g.1 d) ∧ p (aeP b g.1 d) ≤ p (aeP b g.1 e) + agv b g d e := by
   intro d e hd he hde
   obtain ⟨k, hk, rfl⟩ := List.mem_iff_getElem.1 hd
   obtain ⟨m, hm, rfl⟩ := List.mem_iff_getElem.1 he
   have hkm : k ≤ m := by
    rcases Nat.lt_or_ge m k with hlt | hge
    ·have := (List.pairwise_iff_getElem.1 (ap1 b g)) m k hm hk hlt; omega
    ·exact hge
   exact pair (m - k) k _ _ (List.getElem?_eq_getElem hk) (by rw [show k + (m - k) = m by omega]; exact List.getElem?_eq_getElem hm)
  exact ⟨by rw [h0]; omega, by rw [h0]; omega, fun d e hd he hde => (any d e hd he hde).1, fun d e hd he hde => (any d e hd he hde).2⟩
 ·intro hf l hl
  rcases (adI h hg).1 hl with rfl | rfl | ⟨k, d, e, hd, he, rfl | rfl⟩
  ·have := hf.hi; rw [h0] at this; simp only; omega
  ·have := hf.lo; rw [h0] at this; simp only; omega
  ·have hde : d ≤ e := by
    obtain ⟨a1, a2⟩ := List.getElem?_eq_some_iff.1 hd
    obtain ⟨a3, a4⟩ := List.getElem?_eq_some_iff.1 he
    have := (List.pairwise_iff_getElem.1 (ap1 b g)) k (k + 1) a1 a3 (by omega)
    rw [a2, a4] at this; omega
   have := hf.down d e (List.mem_of_getElem? hd) (List.mem_of_getElem? he) hde
   rw [akK h hg hd, akK h hg he] at this
   have e3 : (off b i : Int) + ((k + 1 : Nat) : Int) + 1 = (off b i : Int) + k + 2 := by omega
   rw [e3] at this
   simp only
   omega
  ·have hde : d ≤ e := by
    obtain ⟨a1, a2⟩ := List.getElem?_eq_some_iff.1 hd
    obtain ⟨a3, a4⟩ := List.getElem?_eq_some_iff.1 he
    have := (List.pairwise_iff_getElem.1 (ap1 b g)) k (k + 1) a1 a3 (by omega)
    rw [a2, a4] at this; omega
   have := hf.loss d e (List.mem_of_getElem? hd) (List.mem_of_getElem? he) hde
   rw [akK h hg hd, akK h hg he] at this
   have e3 : (off b i : Int) + ((k + 1 : Nat) : Int) + 1 = (off b i : Int) + k + 2 := by omega
   rw [e3] at this
   simp only
   exact this
theorem aFI (h : adh b) {p : Int → Int} : Pot (acn b) p ↔ (∀ g ∈ b.2.1, akC b p g) ∧ ∀ c ∈ b.2.2.2.2.1, p (cx b c) ≤ p (cy b c) + (aeO b c).2 ∧ p (cy b c) + (aeO b c).1 ≤ p (cx b c) := by
 constructor
 ·intro hp
  refine ⟨fun g hg => ?_, fun c hc => ?_⟩
  ·obtain ⟨i, hi, rfl⟩ := List.mem_iff_getElem.1 hg
   exact (ahM h (List.getElem?_eq_getElem hi)).1 fun l hl => hp l.1 l.2.1 l.2.2 (ajS.2 (.inl ⟨i, _, List.getElem?_eq_getElem hi, hl⟩))
  ·have a1 := hp _ _ _ (ajS.2 (.inr ⟨c, hc, .inl rfl⟩))
   have a2 := hp _ _ _ (ajS.2 (.inr ⟨c, hc, .inr rfl⟩))
   omega
 ·rintro ⟨hg, hc⟩ u v m hl
  rcases ajS.1 hl with ⟨i, g, hig, hl⟩ | ⟨c, hcm, hl⟩
  ·exact (ahM h hig).2 (hg g (List.mem_of_getElem? hig)) (u, v, m) hl
  ·obtain ⟨a1, a2⟩ := hc c hcm
   rcases hl with hl | hl
   ·obtain ⟨rfl, rfl, rfl⟩ : u = cy b c ∧ v = cx b c ∧ m = (aeO b c).2 := by simpa using hl
    exact a1
   ·obtain ⟨rfl, rfl, rfl⟩ : u = cx b c ∧ v = cy b c ∧ m = -(aeO b c).1 := by simpa using hl
    omega
end
end Go.Proofs.ZzM
end
noncomputable section
namespace Go.Proofs.ZzM
open Go Go.Am
def aTV : List Int → Int
 | [] => 0
 | [a] => a
 | a :: b :: t => max a (aTV (b :: t))
theorem aI6 : ∀ {l : List Int}, l ≠ [] → (∀ a ∈ l, a ≤ aTV l) ∧ aTV l ∈ l
 | [], h => absurd rfl h
 | [a], _ => ⟨fun x hx => by rw [List.mem_singleton] at hx; rw [hx]; exact Int.le_refl _, by simp [aTV]⟩
 | a :: b :: t, _ => by
   obtain ⟨h1, h2⟩ := aI6 (l := b :: t) (by simp)
   have e : aTV (a :: b :: t) = max a (aTV (b :: t)) := rfl
   rw [e]
   constructor
   ·intro x hx
    rcases List.mem_cons.1 hx with rfl | hx
    ·omega
    ·have := h1 x hx; omega
   ·rcases Int.le_total a (aTV (b :: t)) with h | h
    ·rw [Int.max_eq_right h]; exact List.mem_cons_of_mem _ h2
    ·rw [Int.max_eq_left h]; exact List.mem_cons_self
section
variable {b : acz}
def azN (b : acz) (f : Int → Int → Int) (z : Int) (v : Int) : Int := if v = 0 then z else match (acd b)[(v - 1).toNat]? with | some n => f n.1 n.2 | none => 0
theorem aj2 (f : Int → Int → Int) (z : Int) : azN b f z 0 = z := by unfold azN; rw [if_pos rfl]
theorem as4 (h : adh b) (f : Int → Int → Int) (z : Int) {g : acT} (hg : g ∈ b.2.1) {d : Int} (hd : d ∈ acC b g) : azN b f z (aeP b g.1 d) = f g.1 d := by
 obtain ⟨i, hi, rfl⟩ := List.mem_iff_getElem.1 hg
 obtain ⟨k, hk, rfl⟩ := List.mem_iff_getElem.1 hd
 have hgi := List.getElem?_eq_getElem hi
 have hdk := List.getElem?_eq_getElem hk
 rw [akK h hgi hdk]
 unfold azN
 have e : ((off b i : Int) + k + 1 - 1).toNat = off b i + k := by omega
 rw [if_neg (by omega), e, aSG hgi hdk]
def ayX (b : acz) (l : List Int) (d : Int) : Int := match l with | [] => 0 | x :: _ => aeP b x d
theorem aN4 (l : List Int) (d : Int) : atP (acd b) l d = ayX b l d := by
 unfold atP ayX aeP
 cases l <;> rfl
theorem aw4 (c : Cmp) : cx b c = ayX b (adb c.2.2.1 c.2.2.2.1) c.2.1 := aN4 _ _
theorem aw3 (c : Cmp) : cy b c = ayX b (adb c.2.2.2.1 c.2.2.1) c.2.1 := aN4 _ _
theorem aiH (h : adh b) {c : Cmp} (hc : c ∈ b.2.2.2.2.1) {x : Int} (hx : x ∈ adb c.2.2.1 c.2.2.2.1 ∨ x ∈ adb c.2.2.2.1 c.2.2.1) : ∃ g ∈ b.2.1, g.1 = x ∧ c.2.1 ∈ acC b g := by
 have hx' : (x ∈ c.2.2.1 ∧ x ∉ c.2.2.2.1) ∨ (x ∈ c.2.2.2.1 ∧ x ∉ c.2.2.1) := by
  rcases hx with hx | hx
  ·exact .inl (agM.1 hx)
  ·exact .inr (agM.1 hx)
 have hm : x ∈ c.2.2.1 ++ c.2.2.2.1 := by rw [List.mem_append]; exact hx'.imp (·.1) (·.1)
 obtain ⟨⟨g, hg, _⟩, _⟩ := h.pile hc hm
 obtain ⟨hgm, hid⟩ := agf hg
 refine ⟨g, hgm, hid, agl.2 (.inr (.inl ⟨c, hc, ?_, rfl⟩))⟩
 rw [hid]
 intro he
 rw [Bool.eq_iff_iff, List.contains_iff_mem, List.contains_iff_mem] at he
 rcases hx' with ⟨a, e⟩ | ⟨a, e⟩
 ·exact e (he.1 a)
 ·exact e (he.2 a)
def fill (b : acz) (p : Int → Int) (g : acT) (d : Int) : Int := aTV ((acC b g).map fun e => if d ≤ e then p (aeP b g.1 e) else p (aeP b g.1 e) - agv b g e d)
theorem aBW {p : Int → Int} {g : acT} (d : Int) : (∀ e ∈ acC b g, (if d ≤ e then p (aeP b g.1 e) else p (aeP b g.1 e) - agv b g e d) ≤ fill b p g d) ∧ ∃ e ∈ acC b g, fill b p g d = if d ≤ e then p (aeP b g.1 e) else p (aeP b g.1 e) - agv b g e d := by
 have hne : ((acC b g).map fun e => if d ≤ e then p (aeP b g.1 e) else p (aeP b g.1 e) - agv b g e d) ≠ [] := by
  intro h
  have := List.map_eq_nil_iff.1 h
  have h2 := aiK (b := b) g
  rw [this] at h2
  cases h2
 obtain ⟨h1, h2⟩ := aI6 hne
 refine ⟨fun e he => h1 _ (List.mem_map.2 ⟨e, he, rfl⟩), ?_⟩
 obtain ⟨e, he, hx⟩ := List.mem_map.1 h2
 exact ⟨e, he, hx.symm⟩
theorem azm (h : adh b) {p : Int → Int} {g : acT} (hg : g ∈ b.2.1) (hf : akC b p g) {d : Int} (hd : d ∈ acC b g) : fill b p g d = p (aeP b g.1 d) := by
 obtain ⟨h1, e, he, h2⟩ := aBW (b := b) (p := p) (g := g) d
 have h3 := h1 d hd
 rw [if_pos (Int.le_refl _)] at h3
 have h4 : fill b p g d ≤ p (aeP b g.1 d) := by
  rw [h2]
  split
  ·rename_i hde
   exact hf.down d e hd he hde
  ·rename_i hde
   have := hf.loss e d he hd (by omega)
   omega
 omega
theorem avg (h : adh b) {p : Int → Int} {g : acT} (hg : g ∈ b.2.1) (hf : akC b p g) {d e : Int} (h0 : g.2.1 ≤ d) (hde : d ≤ e) : fill b p g e ≤ fill b p g d ∧ fill b p g d ≤ fill b p g e + agv b g d e := by
 obtain ⟨a1, x, hx, a2⟩ := aBW (b := b) (p := p) (g := g) d
 obtain ⟨b1, y, hy, b2⟩ := aBW (b := b) (p := p) (g := g) e
 have hm := (h.gaugeR hg).2.2.2.2.1
 have hl := asI h hg (f := d) (t := e) (by omega)
 have dx := h.day hg hx
 have dy := h.day hg hy
 constructor
 ·have q := a1 y hy
  rw [b2]
  by_cases c1 : e ≤ y
  ·rw [if_pos c1]
   rw [if_pos (by omega)] at q
   exact q
  ·rw [if_neg c1]
   by_cases c2 : d ≤ y
   ·rw [if_pos c2] at q
    have := asI h hg (f := y) (t := e) dy.2.1
    omega
   ·rw [if_neg c2] at q
    have := azj h g (f := y) (t := d) (u := e) (by omega) hde
    omega
 ·have q := b1 x hx
  rw [a2]
  by_cases c1 : d ≤ x
  ·rw [if_pos c1]
   by_cases c2 : e ≤ x
   ·rw [if_pos c2] at q
    omega
   ·rw [if_neg c2] at q
    have := azj h g (f := d) (t := x) (u := e) c1 (by omega)
    have := asI h hg (f := d) (t := x) (by omega)
    omega
  ·rw [if_neg c1]
   rw [if_neg (by omega)] at q
   have := azj h g (f := x) (t := d) (u := e) (by omega) hde
   omega
end
end Go.Proofs.ZzM
end
noncomputable section
namespace Go.Proofs.ZzM
open Go Go.Am
section
variable {b : acz} {c : Cmp}
theorem aMm : acP (acE b c) = (acE b c).2.1.flatMap (acR (acE b c)) ++ b.2.2.2.2.1.flatMap (acX (acE b c)) := by
 unfold acP
 have e : acn (acE b c) = ((acE b c).2.1.flatMap (acR (acE b c)) ++ b.2.2.2.2.1.flatMap (acX (acE b c))) ++ acX (acE b c) c := by
  unfold acn
  rw [show (acE b c).2.2.2.2.1 = b.2.2.2.2.1 ++ [c] from rfl, List.flatMap_append, List.append_assoc]
  simp
 rw [e, List.length_append, show (acX (acE b c) c).length = 2 from rfl, Nat.add_sub_cancel, List.take_left]
theorem azl (h' : adh (acE b c)) {p : Int → Int} : Pot (acP (acE b c)) p ↔ (∀ g ∈ b.2.1, akC (acE b c) p g) ∧ ∀ d ∈ b.2.2.2.2.1, p (cx (acE b c) d) ≤ p (cy (acE b c) d) + (aeO b d).2 ∧ p (cy (acE b c) d) + (aeO b d).1 ≤ p (cx (acE b c) d) := by
 rw [aMm]
 constructor
 ·intro hp
  refine ⟨fun g hg => ?_, fun d hd => ?_⟩
  ·obtain ⟨i, hi, rfl⟩ := List.mem_iff_getElem.1 hg
   exact (ahM h' (i := i) (List.getElem?_eq_getElem hi)).1 fun l hl => hp l.1 l.2.1 l.2.2 (List.mem_append.2 (.inl (List.mem_flatMap.2 ⟨_, List.getElem_mem hi, hl⟩)))
  ·have a1 := hp (cy (acE b c) d) (cx (acE b c) d) (aeO (acE b c) d).2 (List.mem_append.2 (.inr (List.mem_flatMap.2 ⟨d, hd, by simp [acX]⟩)))
   have a2 := hp (cx (acE b c) d) (cy (acE b c) d) (-(aeO (acE b c) d).1) (List.mem_append.2 (.inr (List.mem_flatMap.2 ⟨d, hd, by simp [acX]⟩)))
   have e : aeO (acE b c) d = aeO b d := rfl
   rw [e] at a1 a2
   omega
 ·rintro ⟨hg, hc⟩ u v m hl
  rcases List.mem_append.1 hl with hl | hl
  ·obtain ⟨g, hgm, hl⟩ := List.mem_flatMap.1 hl
   obtain ⟨i, hi, rfl⟩ := List.mem_iff_getElem.1 hgm
   exact (ahM h' (i := i) (List.getElem?_eq_getElem hi)).2 (hg _ hgm) (u, v, m) hl
  ·obtain ⟨d, hd, hl⟩ := List.mem_flatMap.1 hl
   obtain ⟨a1, a2⟩ := hc d hd
   have e : aeO (acE b c) d = aeO b d := rfl
   simp only [acX, List.mem_cons, List.not_mem_nil, or_false, e] at hl
   rcases hl with hl | hl
   ·obtain ⟨rfl, rfl, rfl⟩ : u = cy (acE b c) d ∧ v = cx (acE b c) d ∧ m = (aeO b d).2 := by simpa using hl
    exact a1
   ·obtain ⟨rfl, rfl, rfl⟩ : u = cx (acE b c) d ∧ v = cy (acE b c) d ∧ m = -(aeO b d).1 := by simpa using hl
    omega
theorem amK {g : acT} {d : Int} (hd : d ∈ acC b g) : d ∈ acC (acE b c) g := by
 rcases agl.1 hd with e | ⟨x, hx, h1, h2⟩ | hn
 ·exact agl.2 (.inl e)
 ·exact agl.2 (.inr (.inl ⟨x, List.mem_append.2 (.inl hx), h1, h2⟩))
 ·exact agl.2 (.inr (.inr hn))
theorem aQE (g : acT) (f t : Int) : agv (acE b c) g f t = agv b g f t := rfl
theorem axc {b' : acz} (h' : adh b') {l : List Int} {day : Int} (f : Int → Int → Int) (z : Int) (hl : ∀ x ∈ l, ∃ g ∈ b'.2.1, g.1 = x ∧ day ∈ acC b' g) : azN b' f z (ayX b' l day) = match l with | [] => z | x :: _ => f x day := by
 unfold ayX
 cases l with
 | nil => exact aj2 f z
 | cons x t =>
   obtain ⟨g, hg, rfl, hd⟩ := hl x (by simp)
   exact as4 h' f z hg hd
theorem aQg (h : adh b) (h' : adh (acE b c)) : (∃ p, Pot (acn b) p) ↔ ∃ p, Pot (acP (acE b c)) p := by
 constructor
 ·rintro ⟨p, hp⟩
  obtain ⟨hg, hc⟩ := (aFI h).1 hp
  let f : Int → Int → Int := fun id d => match afZ b id with | some g => fill b p g d | none => 0
  have hfv : ∀ g ∈ b.2.1, ∀ d, f g.1 d = fill b p g d := fun g hgm d => by
   show (match afZ b g.1 with | some g => fill b p g d | none => 0) = _
   rw [ae8 h.ids hgm]
  have hq : ∀ g ∈ b.2.1, ∀ d ∈ acC (acE b c) g, azN (acE b c) f (p 0) (aeP (acE b c) g.1 d) = fill b p g d := fun g hgm d hd => by
   rw [as4 h' f (p 0) hgm hd, hfv g hgm d]
  refine ⟨azN (acE b c) f (p 0), (azl h').2 ⟨fun g hgm => ?_, fun d hd => ?_⟩⟩
  ·have gf := hg g hgm
   have hmade : g.2.1 ∈ acC b g := aiK g
   have e0 := hq g hgm g.2.1 (aiK g)
   rw [azm h hgm gf hmade] at e0
   refine ⟨?_, ?_, fun x y hx hy hxy => ?_, fun x y hx hy hxy => ?_⟩
   ·rw [e0, aj2]; exact gf.hi
   ·rw [e0, aj2]; exact gf.lo
   ·rw [hq g hgm x hx, hq g hgm y hy]
    exact (avg h hgm gf (h'.day hgm hx).1 hxy).1
   ·rw [hq g hgm x hx, hq g hgm y hy, aQE]
    exact (avg h hgm gf (h'.day hgm hx).1 hxy).2
  ·have key : ∀ l : List Int, (∀ x ∈ l, ∃ g ∈ b.2.1, g.1 = x ∧ d.2.1 ∈ acC b g) → azN (acE b c) f (p 0) (ayX (acE b c) l d.2.1) = p (ayX b l d.2.1) := by
    intro l hl
    rw [axc h' f (p 0) (fun x hx => by obtain ⟨g, q1, q2, q3⟩ := hl x hx; exact ⟨g, q1, q2, amK q3⟩)]
    cases l with
    | nil => rfl
    | cons x t =>
      obtain ⟨g, q1, rfl, q3⟩ := hl x (by simp)
      show f g.1 d.2.1 = p (aeP b g.1 d.2.1)
      rw [hfv g q1, azm h q1 (hg g q1) q3]
   rw [aw4, aw3, key _ (fun x hx => aiH h hd (.inl hx)), key _ (fun x hx => aiH h hd (.inr hx)), ← aw4, ← aw3]
   exact hc d hd
 ·rintro ⟨p, hp⟩
  obtain ⟨hg, hc⟩ := (azl h').1 hp
  let f : Int → Int → Int := fun id d => p (aeP (acE b c) id d)
  have hq : ∀ g ∈ b.2.1, ∀ d ∈ acC b g, azN b f (p 0) (aeP b g.1 d) = p (aeP (acE b c) g.1 d) := fun g hgm d hd => as4 h f (p 0) hgm hd
  refine ⟨azN b f (p 0), (aFI h).2 ⟨fun g hgm => ?_, fun d hd => ?_⟩⟩
  ·have gf := hg g hgm
   have e0 := hq g hgm g.2.1 (aiK g)
   refine ⟨?_, ?_, fun x y hx hy hxy => ?_, fun x y hx hy hxy => ?_⟩
   ·rw [e0, aj2]; exact gf.hi
   ·rw [e0, aj2]; exact gf.lo
   ·rw [hq g hgm x hx, hq g hgm y hy]
    exact gf.down x y (amK hx) (amK hy) hxy
   ·rw [hq g hgm x hx, hq g hgm y hy]
    exact gf.loss x y (amK hx) (amK hy) hxy
  ·have key : ∀ l : List Int, (∀ x ∈ l, ∃ g ∈ b.2.1, g.1 = x ∧ d.2.1 ∈ acC b g) → azN b f (p 0) (ayX b l d.2.1) = p (ayX (acE b c) l d.2.1) := by
    intro l hl
    rw [axc h f (p 0) hl]
    cases l <;> rfl
   rw [aw4, aw3, key _ (fun x hx => aiH h hd (.inl hx)), key _ (fun x hx => aiH h hd (.inr hx)), ← aw4, ← aw3]
   exact hc d hd
end
end Go.Proofs.ZzM
end