/- lemmas -/
import Derived.Test.YthhhehllmdfhiaaGreatAmF
import Derived.Test.YthhhehllmdfhiaaGreatMdTA
set_option linter.all false
set_option linter.unusedSectionVars false
set_option linter.unusedVariables false
set_option linter.unusedSimpArgs false
noncomputable section
namespace Go.Am
section
variable {ρ : Type}
def aeQ {α β : Type} (e : Nat → α → Option β) : Nat → List α → Option β
 | _, [] => none
 | i, a :: t => match e i a with
   | some b => some b
   | none => aeQ e (i + 1) t
theorem amq {α β : Type} (l : List α) (e : Nat → α → Option β) (k0 : β → Option ρ) (k1 : Option ρ) {f : Int → (Int → Option ρ) → Option ρ}
 (h : ∀ (i : Nat) (a : α), i < l.length → l[i]? = some a → ∀ kn, f i kn = match e i a with | some b => k0 b | none => kn ((i : Int) + 1))
 (hn : ∀ kn, f l.length kn = k1) : acl f 0 = match aeQ e 0 l with | some b => k0 b | none => k1 := by
 refine aQO l (fun i t => match aeQ e i t with | some b => k0 b | none => k1) hn fun i a t hd hi ha kn hk => ?_
 rw [h i a hi ha kn, hk, aeQ]
 cases e i a <;> rfl
theorem adf {α σ : Type} (l : List α) (g : Nat → σ) (r : Option ρ) {f : Int × σ → (Int × σ → Option ρ) → Option ρ} {s0 : σ} (h0 : g 0 = s0)
 (h : ∀ (i : Nat) (a : α), i < l.length → l[i]? = some a → ∀ kn, f (i, g i) kn = kn ((i : Int) + 1, g (i + 1)))
 (hn : ∀ kn, f (l.length, g l.length) kn = r) : acl f (0, s0) = r := by
 subst h0
 have hs : ∀ s, (s = g 0) → acl f (0, s) = r := fun s e => azq l (fun _ _ _ => r) (fun i s => s = g i) (fun s hs kn => by rw [hs]; exact hn kn) (fun i a t s hd hi ha hI kn hk => by
  rw [hI, h i a hi ha kn]; exact hk _ rfl) e
 exact hs _ rfl
theorem acj {i n : Nat} (h : i < n) (hn : n ≤ 1000000000) (f : Int → Option ρ) : ck ((i : Int) + 1) f = f ((i : Int) + 1) := acr (by omega) (by omega) f
theorem ifb_lt {i n : Nat} (h : i < n) (x y : Option ρ) : ifb (ilt (i : Int) (aSk n)) x y = x := by simp [adH, aAj, h]
theorem acL (n : Nat) (x y : Option ρ) : ifb (ilt (n : Int) (aSk n)) x y = y := by simp [adH, aAj]
theorem acp {α : Type} {l : List α} {i : Nat} (h : i < l.length) (x y : Option ρ) : ifb (ilt (i : Int) (acs l)) x y = x := ifb_lt h x y
theorem aB7 {α : Type} (p : α → Bool) : ∀ (i : Nat) (l : List α), aeQ (fun i a => bif p a then some (i : Int) else none) i l = (l.findIdx? p).map fun j => ((i + j : Nat) : Int)
 | _, [] => rfl
 | i, a :: t => by
   simp only [aeQ, List.findIdx?_cons]
   cases hp : p a with
   | true => simp
   | false =>
     simp only [cond_false, Bool.false_eq_true, if_false]
     rw [aB7 p (i + 1) t]
     cases t.findIdx? p with
     | none => rfl
     | some j => simp only [Option.map_some]; congr 1; omega
theorem air {α β : Type} {e : Nat → α → Option β} : ∀ {i : Nat} {l : List α}, aeQ e i l = none ↔ ∀ j a, l[j]? = some a → e (i + j) a = none
 | _, [] => by simp [aeQ]
 | i, a :: t => by
   simp only [aeQ]
   constructor
   ·intro h j b hb
    cases he : e i a with
    | some c => rw [he] at h; cases h
    | none =>
      rw [he] at h
      cases j with
      | zero => simp at hb; subst hb; simpa using he
      | succ j => have := (air.1 h) j b (by simpa using hb); rw [← this]; congr 1; omega
   ·intro h
    have h0 := h 0 a (by simp)
    simp only [Nat.add_zero] at h0
    rw [h0]
    exact air.2 fun j b hb => by have := h (j + 1) b (by simpa using hb); rw [← this]; congr 1; omega
theorem take_succ {α : Type} {l : List α} {i : Nat} {a : α} (h : l[i]? = some a) : l.take (i + 1) = l.take i ++ [a] := by rw [List.take_succ, h]; rfl
end
end Go.Am
end
noncomputable section
namespace Go.Proofs.ZzM
open Go Go.Am
section
variable {ρ : Type}
theorem afs {τ : Type} {f : τ → (τ → Option ρ) → Option ρ} {r : Option ρ} (I : τ → Prop) (μ : τ → Nat)
 (h : ∀ x, I x → (∀ kn, f x kn = r) ∨ ∃ y, I y ∧ μ y < μ x ∧ ∀ kn, f x kn = kn y) {x : τ} (hx : I x) : acl f x = r :=
 amr (F := fun _ => r) I μ (fun x hx kn hk => by
  rcases h x hx with h1 | ⟨y, h1, h2, h3⟩
  ·exact h1 kn
  ·rw [h3, hk y h1 h2]) hx
theorem af1 {α : Type} (l : List α) (p : α → Bool) (k0 : Int → Option ρ) (k1 : Option ρ) {f : Int → (Int → Option ρ) → Option ρ}
 (h : ∀ (i : Nat) (a : α), i < l.length → l[i]? = some a → ∀ kn, f i kn = if p a then k0 i else kn ((i : Int) + 1))
 (hn : ∀ kn, f l.length kn = k1) : acl f 0 = match l.findIdx? p with | some j => k0 j | none => k1 := by
 rw [amq l (fun i a => bif p a then some (i : Int) else none) k0 k1 (fun i a hi ha kn => by rw [h i a hi ha kn]; cases p a <;> rfl) hn, aB7]
 cases l.findIdx? p with
 | none => rfl
 | some j => simp
theorem afS {α : Type} (l : List α) (p : α → Bool) (k0 : Int → Option ρ) (K k1 : Option ρ) {f : Int → (Int → Option ρ) → Option ρ} (hK : ∀ j : Nat, k0 j = K)
 (h : ∀ (i : Nat) (a : α), i < l.length → l[i]? = some a → ∀ kn, f i kn = if p a then k0 i else kn ((i : Int) + 1))
 (hn : ∀ kn, f l.length kn = k1) : acl f 0 = if l.any p then K else k1 := by
 rw [af1 l p k0 k1 h hn]
 cases hf : l.findIdx? p with
 | none =>
   have : l.any p = false := by
    rw [List.any_eq_false]
    intro x hx
    have := List.findIdx?_eq_none_iff.1 hf x hx
    simp [this]
   simp [this]
 | some j =>
   have : l.any p = true := by
    have := List.findIdx?_eq_some_iff_getElem.1 hf
    obtain ⟨hj, hp, _⟩ := this
    exact List.any_eq_true.2 ⟨_, List.getElem_mem hj, hp⟩
   simp [this, hK]
end
abbrev acS : Type := Int × Int × Int × (Int × Int) × ((Int × Int) × Int)
abbrev azD : Type := Int × ((Int × Int) × Int)
abbrev Cmp : Type := Int × Int × List Int × List Int × Int × (Int × (Int × Int))
abbrev acw : Type := (Int × Int) × List acS × List (Int × Int) × List azD × List Cmp × List (Int × Int)
abbrev Sys : Type := Int × List (Int × Int × Int)
abbrev Maker : Type := acw × List (Int × Int) × Sys × List (Int × Int)
section
variable {ρ : Type}
theorem aco {b : Bool} (h : b = true) (x y : Option ρ) : ifb b x y = x := by rw [h]; rfl
theorem acm {b : Bool} (h : b = false) (x y : Option ρ) : ifb b x y = y := by rw [h]; rfl
end
def I64 (n : Int) : Prop := -9223372036854775808 ≤ n ∧ n ≤ 9223372036854775807
def inP (n lo hi : Int) : Bool := decide (lo ≤ n) && decide (n ≤ hi)
def aMK (n : Int) : Bool := inP n 0 20000
def akC (s : Int × Int) (lo hi : Int) : Bool := decide (lo ≤ s.1) && (decide (s.1 ≤ s.2) && decide (s.2 ≤ hi))
theorem aeZ (n lo hi : Int) : ac8 n lo hi = some (inP n lo hi) := by
 unfold ac8 awu inP ile
 cases decide (lo ≤ n) <;> rfl
theorem aHI (n : Int) : ai4 n = some (aMK n) := by
 unfold ai4 aBG
 rw [aeZ]; rfl
theorem au7 (s : Int × Int) (lo hi : Int) : aeY s lo hi = some (akC s lo hi) := by
 unfold aeY awB akC ile
 cases decide (lo ≤ s.1) <;> cases decide (s.1 ≤ s.2) <;> rfl
theorem aFM {n : Int} (h : I64 n) : ali n = some (n.natAbs : Int) := by
 obtain ⟨h1, h2⟩ := h
 unfold ali aGY
 by_cases hn : n < 0
 ·have : ilt n 0 = true := by simpa using hn
  rw [aco this]
  congr 1
  simp only [IntKind.wrap, IntKind.bits, IntKind.signed]
  simp
  omega
 ·have : ilt n 0 = false := by simpa using hn
  rw [acm this]
  congr 1
  simp only [IntKind.wrap, IntKind.bits, IntKind.signed]
  simp
  omega
theorem aT6 (a b : Nat) : aCc a b = some ((Nat.gcd a b : Nat) : Int) := by
 unfold aCc aMe
 refine afs (fun x : Int × Int => ∃ c d : Nat, x = ((c : Int), (d : Int)) ∧ Nat.gcd c d = Nat.gcd a b) (fun x => x.2.toNat) ?_ ⟨a, b, rfl, rfl⟩
 rintro x ⟨c, d, rfl, hg⟩
 cases d with
 | zero =>
   refine .inl fun kn => ?_
   rw [Nat.gcd_zero_right] at hg
   unfold aqi
   simp [hg, ine]
 | succ d =>
   refine .inr ⟨(((d + 1 : Nat) : Int), ((c % (d + 1) : Nat) : Int)), ⟨d + 1, c % (d + 1), rfl, ?_⟩, ?_, fun kn => ?_⟩
   ·rw [← hg, Nat.gcd_comm c (d + 1), Nat.gcd_rec (d + 1) c, Nat.gcd_comm]
   ·have := Nat.mod_lt c (Nat.succ_pos d)
    simp only [Int.toNat_natCast]
    omega
   ·unfold aqi
    have h1 : ine ((d + 1 : Nat) : Int) 0 = true := by simp [ine]; omega
    have h2 : aeL ((d + 1 : Nat) : Int) 0 = false := by simp [aeL]; omega
    simp only [h1, aco acm h2]
    congr 1
def aCU (r : Int × Int) : Bool :=
 decide (1 ≤ r.2) && (decide (r.2 ≤ 2147483647) && (decide ((r.1.natAbs : Int) ≤ 2147483647) && decide (Nat.gcd r.1.natAbs r.2.natAbs = 1)))
theorem aIf {r : Int × Int} (h : I64 r.1) : amA r = some (aCU r) := by
 unfold amA aBn aCU
 by_cases h1 : 1 ≤ r.2
 ·by_cases h2 : r.2 ≤ 2147483647
  ·have h3 : I64 r.2 := ⟨by omega, by omega⟩
   have e1 : ige r.2 1 = true := by simp [ige, h1]
   have e2 : ile r.2 2147483647 = true := by simp [ile, h2]
   rw [aco e1, aco e2, aFM h, ab3]
   by_cases h4 : (r.1.natAbs : Int) ≤ 2147483647
   ·have e4 : ile (r.1.natAbs : Int) 2147483647 = true := by simp [ile, h4]
    rw [aco e4, ab3, aFM h3, ab3, aT6, ab3]
    congr 1
    rw [Bool.eq_iff_iff]
    simp only [ieq, beq_iff_eq, h1, h2, h4, decide_true, Bool.true_and, decide_eq_true_eq]
    omega
   ·have e4 : ile (r.1.natAbs : Int) 2147483647 = false := by simp [ile]; omega
    rw [acm e4]
    simp [h4]
  ·have e1 : ige r.2 1 = true := by simp [ige, h1]
   have e2 : ile r.2 2147483647 = false := by simp [ile]; omega
   rw [aco e1, acm e2]
   simp [h2]
 ·have e1 : ige r.2 1 = false := by simp [ige]; omega
  rw [acm e1]
  simp [h1]
def arC (g : acS) : Bool :=
 aCU g.2.2.2.2.1 && inP g.2.2.2.2.1.1 (-1000) 1000 && decide (g.2.2.2.2.1.2 ≤ 100) && inP g.1 1 1099511627776 && aMK g.2.1 && inP g.2.2.1 1 1125899906842624 && akC g.2.2.2.1 (-1073741824) 1073741824 && inP g.2.2.2.2.2 0 1048576
theorem aPa {g : acS} (h : I64 g.2.2.2.2.1.1) : anM g = some (arC g) := by
 unfold anM asy arC
 rw [aIf h, aeZ, aeZ, aHI, aeZ, au7, aeZ]
 generalize aCU g.2.2.2.2.1 = x1
 generalize inP g.2.2.2.2.1.1 (-1000) 1000 = x2
 generalize inP g.1 1 1099511627776 = x3
 generalize aMK g.2.1 = x4
 generalize inP g.2.2.1 1 1125899906842624 = x5
 generalize akC g.2.2.2.1 (-1073741824) 1073741824 = x6
 generalize inP g.2.2.2.2.2 0 1048576 = x7
 unfold ile
 generalize decide (g.2.2.2.2.1.2 ≤ 100) = x8
 cases x1 <;> cases x2 <;> cases x3 <;> cases x4 <;> cases x5 <;> cases x6 <;> cases x8 <;> rfl
end Go.Proofs.ZzM
end
noncomputable section
namespace Go.Proofs.ZzM
open Go Go.Am
section
variable {ρ : Type}
theorem aKy {α : Type} {l : List α} {i : Nat} {a : α} (h0 : 0 < i) (h : l[i - 1]? = some a) (f : α → Option ρ) : adv l ((i : Int) - 1) f = f a := by
 have : ((i : Int) - 1) = ((i - 1 : Nat) : Int) := by omega
 rw [this, aci h]
theorem aRE {i : Nat} (h : 0 < i) (hn : i ≤ 1000000000) (f : Int → Option ρ) : ck ((i : Int) - 1) f = f ((i : Int) - 1) := acr (by omega) (by omega) f
theorem af7 {i n : Nat} (h : i < n) (x : Option ρ) : acH ((ile 0 (i : Int)) && (ilt (i : Int) (n : Int))) x = x := by
 have : ((ile 0 (i : Int)) && (ilt (i : Int) (n : Int))) = true := by simp [ile, ilt, h]
 rw [this, Am.iff_true]
theorem aex {α : Type} {l : List α} {i : Nat} {a : α} (h : l[i]? = some a) (f : α → Option ρ) : ae6 l (Int.toNat (i : Int)) f = f a := by
 rw [Int.toNat_natCast]; exact ahw h f
end
def aCF {α : Type} (key : α → Int) (l : List α) (i : Nat) (a : α) : Bool :=
 decide (0 < i) && (l[i - 1]?).any fun q => decide (key a ≤ key q)
theorem aIQ {α : Type} {l : List α} {i : Nat} (hi : i < l.length) (h0 : 0 < i) : ∃ q, l[i - 1]? = some q :=
 ⟨l[i - 1], List.getElem?_eq_getElem (by omega)⟩
theorem aOk {α : Type} (key : α → Int) (l : List α) : (∀ i a, l[i]? = some a → aCF key l i a = false) ↔ l.Pairwise (fun a b => key a < key b) := by
 rw [List.pairwise_iff_getElem]
 constructor
 ·intro h
  have step : ∀ i (h1 : i + 1 < l.length), key l[i] < key l[i + 1] := by
   intro i h1
   have := h (i + 1) l[i + 1] (List.getElem?_eq_getElem h1)
   simp only [aCF, Nat.add_sub_cancel, Nat.succ_pos, decide_true, Bool.true_and, List.getElem?_eq_getElem (show i < l.length by omega), Option.any_some, decide_eq_false_iff_not] at this
   omega
  intro i j hi hj hij
  induction j with
  | zero => omega
  | succ j ih =>
    have := step j hj
    rcases Nat.lt_or_ge i j with hlt | hge
    ·have := ih (by omega) hlt; omega
    ·have : i = j := by omega
     subst this; assumption
 ·intro h i a ha
  obtain ⟨hi, rfl⟩ := List.getElem?_eq_some_iff.1 ha
  unfold aCF
  cases i with
  | zero => rfl
  | succ i =>
    have := h i (i + 1) (by omega) hi (by omega)
    simp only [Nat.add_sub_cancel, Nat.succ_pos, decide_true, Bool.true_and, List.getElem?_eq_getElem (show i < l.length by omega), Option.any_some, decide_eq_false_iff_not]
    omega
def apJ (l : List acS) (i : Nat) (g : acS) : Option Int :=
 if !arC g then some 1 else if aCF (fun g => g.1) l i g then some 6 else none
def ajh (b : acw) : Int := (aeQ (apJ b.2.1) 0 b.2.1).getD 0
theorem aEd {b : acw} (hr : ∀ g ∈ b.2.1, I64 g.2.2.2.2.1.1) (hn : b.2.1.length ≤ 1000) : aeH b = some (ajh b) := by
 unfold aeH akh
 refine Eq.trans (amq b.2.1 (apJ b.2.1) some (some 0) (fun i a hi ha kn => ?_) (fun kn => ?_)) ?_
 ·try dsimp only
  unfold agd
  rw [acp hi, aci ha, aPa (hr a (List.mem_of_getElem? ha)), ab3]
  unfold apJ
  cases hg : arC a with
  | false => simp
  | true =>
    simp only [Bool.not_true, acM, Bool.false_eq_true, if_false]
    rcases Nat.eq_zero_or_pos i with h0 | h0
    ·subst h0
     have : igt ((0 : Nat) : Int) 0 = false := by simp [igt]
     rw [acm this, acj hi (by omega)]
     simp [aCF]
    ·obtain ⟨q, hq⟩ := aIQ hi h0
     have h1 : igt (i : Int) 0 = true := by simp [igt]; omega
     rw [aco h1, aRE h0 (by omega), aKy h0 hq]
     simp only [aCF, h0, decide_true, Bool.true_and, hq, Option.any_some]
     unfold ile
     cases h2 : decide (a.1 ≤ q.1) with
     | true => simp
     | false =>
       rw [acM, acj hi (by omega)]
       simp
 ·try dsimp only
  unfold agd
  rw [acL]
 ·unfold ajh
  cases aeQ (apJ b.2.1) 0 b.2.1 <;> rfl
def aIE (l : List acS) : List (Int × acS) := l.foldl (fun m g => azk (k := tI) (v := ach) g.1 g m) []
def ajX (b : acw) : List (Int × acS) := aIE b.2.1
theorem aEs {b : acw} (hn : b.2.1.length ≤ 1000) : afd b = some (ajX b) := by
 unfold afd asv
 refine adf b.2.1 (fun i => aIE (b.2.1.take i)) _ rfl (fun i a hi ha kn => ?_) (fun kn => ?_)
 ·try dsimp only
  unfold aiA
  rw [acp hi, aci ha, acj hi (by omega), take_succ ha]
  simp only [aIE, List.foldl_append, List.foldl_cons, List.foldl_nil]
 ·try dsimp only
  unfold aiA
  rw [acL, List.take_length]
  rfl
theorem aJi (x y : Int) (g : acS) : ∀ m : List (Int × acS), alY (k := tI) (v := ach) x (azk (k := tI) (v := ach) y g m) = if x = y then some g else alY (k := tI) (v := ach) x m
 | [] => by
   unfold azk alY ag7 alY
   by_cases h : x = y <;> simp [h]
 | e :: m => by
   unfold azk
   by_cases h : y = e.1
   ·have : ag7 tI y e.1 = true := by simp [ag7, h]
    rw [this]
    try dsimp only
    unfold alY ag7
    by_cases h2 : x = y
    ·simp [h2]
    ·have : ¬ x = e.1 := fun h3 => h2 (h3.trans h.symm)
     simp [h2, this]
   ·have : ag7 tI y e.1 = false := by simp [ag7, h]
    rw [this]
    try dsimp only
    have ih := aJi x y g m
    unfold alY
    by_cases h2 : x = e.1
    ·have : ag7 tI x e.1 = true := by simp [ag7, h2]
     rw [this]
     have : ¬ x = y := fun h3 => h (h3.symm.trans h2)
     simp [this]
    ·have : ag7 tI x e.1 = false := by simp [ag7, h2]
     rw [this]
     exact ih
def ahM (b : acw) (id : Int) : Option acS := b.2.1.find? fun g => g.1 == id
theorem aLU (x : Int) (l : List acS) : alY (k := tI) (v := ach) x (aIE l) = l.reverse.find? fun g => g.1 == x := by
 unfold aIE
 rw [← List.foldr_reverse]
 induction l.reverse with
 | nil => rfl
 | cons g t ih =>
   rw [List.foldr_cons, aJi, ih, List.find?_cons]
   by_cases h : x = g.1
   ·simp [h]
   ·have : (g.1 == x) = false := by simp; exact fun h2 => h h2.symm
    simp [h, this]
theorem aKL {l : List acS} (h : l.Pairwise fun a b => a.1 < b.1) (x : Int) : l.reverse.find? (fun g => g.1 == x) = l.find? fun g => g.1 == x := by
 induction l with
 | nil => rfl
 | cons g t ih =>
   rw [List.pairwise_cons] at h
   rw [List.reverse_cons, List.find?_append, ih h.2, List.find?_cons]
   by_cases hx : g.1 = x
   ·have : t.find? (fun g => g.1 == x) = none := List.find?_eq_none.2 fun y hy => by have : g.1 < y.1 := h.1 y hy; simp; omega
    rw [this]; simp [hx]
   ·have : (g.1 == x) = false := by simp [hx]
    simp [this]
theorem aEL {b : acw} (h : b.2.1.Pairwise fun a b => a.1 < b.1) (x : Int) : alY (k := tI) (v := ach) x (ajX b) = ahM b x := by
 unfold ajX ahM
 rw [aLU, aKL h]
def alo (s : List (Int × acS)) (id day : Int) : Int :=
 match alY (k := tI) (v := ach) id s with
 | some g => if day < g.2.1 then 4 else 0
 | none => 5
theorem aLW (s : List (Int × acS)) (id day : Int) : af5 s id day = some (alo s id day) := by
 unfold af5 alF alo
 cases h : alY (k := tI) (v := ach) id s with
 | none => simp only [aIm, h]
 | some g =>
   simp only [aIm, h]
   rw [adH]
   by_cases h2 : day < g.2.1 <;> simp [h2]
def aSv (s : List (Int × acS)) (id day : Int) : Int := if !aMK day then 1 else alo s id day
theorem aIY (s : List (Int × acS)) (id day : Int) : adO id day s = some (aSv s id day) := by
 unfold adO asx aSv
 rw [aHI, ab3, aLW, ab3]
 cases aMK day <;> rfl
def aMx (b : acw) (s : List (Int × acS)) (i : Nat) (l : azD) : Int :=
 if !akC l.2.1 0 20000 then 1 else if !inP l.2.2 0 1048576 then 1 else if alo s l.1 l.2.1.1 != 0 then alo s l.1 l.2.1.1 else
 if (b.2.2.2.1.take i).any (fun x => x.1 == l.1 && (decide (x.2.1.1 ≤ l.2.1.2) && decide (l.2.1.1 ≤ x.2.1.2))) then 9 else
 if b.2.2.1.any (fun u => u.1 == l.1 && inP u.2 l.2.1.1 l.2.1.2) then 9 else 0
theorem aKV {b : acw} (hn : b.2.2.2.1.length ≤ 1000) (hu : b.2.2.1.length ≤ 1000) (s : List (Int × acS)) {i : Nat} {l : azD} (hl : b.2.2.2.1[i]? = some l) : ae2 b s i = some (aMx b s i l) := by
 unfold ae2 anx aMx
 have hi : i < b.2.2.2.1.length := (List.getElem?_eq_some_iff.1 hl).1
 rw [aci hl, au7, ab3, aeZ, ab3, aLW, ab3]
 cases akC l.2.1 0 20000 with
 | false => rfl
 | true =>
 cases inP l.2.2 0 1048576 with
 | false => rfl
 | true =>
 cases hm : (alo s l.1 l.2.1.1 != 0) with
 | true =>
   have : ine (alo s l.1 l.2.1.1) 0 = true := hm
   simp [this]
 | false =>
 have hm' : ine (alo s l.1 l.2.1.1) 0 = false := hm
 have hg : ((ile (0 : Int) (i : Int)) && (ile (i : Int) (adj b.2.2.2.1))) = true := by simp [ile, adj]; omega
 simp only [Bool.not_true, acM, hm', Bool.false_eq_true, if_false]
 rw [adx hg, Int.toNat_natCast]
 have inner : ∀ (k : Int → Option Int), acl (fun (v : Int) kk => aeX b.2.2.1 (acs b.2.2.1) l.1 l.2.1.1 l.2.1.2 v (fun u => kk u) (fun z => ifb (ige z 0) (k 9) (k 0)) (fun _ => k 0)) (0 : Int) = if b.2.2.1.any (fun u => u.1 == l.1 && inP u.2 l.2.1.1 l.2.1.2) then k 9 else k 0 := by
  intro k
  refine afS b.2.2.1 _ (fun z => ifb (ige z 0) (k 9) (k 0)) (k 9) (k 0) (fun j => ?_) (fun j a hj ha kn => ?_) (fun kn => ?_)
  ·have : ige (j : Int) 0 = true := by simp [ige]
   rw [aco this]
  ·try dsimp only
   unfold aeX
   rw [acp hj, aci ha, aeZ, ab3, acj hj (by omega)]
   cases h1 : (a.1 == l.1) with
   | false =>
     have : ieq a.1 l.1 = false := h1
     simp [this]
   | true =>
     have : ieq a.1 l.1 = true := h1
     rw [this]
     cases inP a.2 l.2.1.1 l.2.1.2 <;> simp
  ·try dsimp only
   unfold aeX
   rw [acL]
 rw [inner]
 refine Eq.trans (afS (b.2.2.2.1.take i) (fun x => x.1 == l.1 && (decide (x.2.1.1 ≤ l.2.1.2) && decide (l.2.1.1 ≤ x.2.1.2))) (fun z => ifb (ige z 0) (some 9) (if b.2.2.1.any (fun u => u.1 == l.1 && inP u.2 l.2.1.1 l.2.1.2) then some 9 else some 0)) (some 9) (if b.2.2.1.any (fun u => u.1 == l.1 && inP u.2 l.2.1.1 l.2.1.2) then some 9 else some 0) (fun j => ?_) (fun j a hj ha kn => ?_) (fun kn => ?_)) ?_
 ·have : ige (j : Int) 0 = true := by simp [ige]
  rw [aco this]
 ·try dsimp only
  unfold agT
  have hj' : j ≤ 1000 := by rw [List.length_take] at hj; omega
  rw [acp hj, aci ha, acj hj (by rw [List.length_take]; omega)]
  cases h1 : (a.1 == l.1) with
  | false =>
    have : ieq a.1 l.1 = false := h1
    simp [this]
  | true =>
    have : ieq a.1 l.1 = true := h1
    rw [this]
    cases h2 : decide (a.2.1.1 ≤ l.2.1.2) <;> cases h3 : decide (l.2.1.1 ≤ a.2.1.2) <;> simp [ile, h2, h3, adH] <;> simp_all
 ·try dsimp only
  unfold agT
  rw [acL]
 ·cases List.any (b.2.2.2.1.take i) _ <;> cases b.2.2.1.any _ <;> rfl
end Go.Proofs.ZzM
end
noncomputable section
namespace Go.Proofs.ZzM
open Go Go.Am
theorem aSe {l : List Int} (hn : l.length ≤ 1000000) (x : Int) : agw l x = some (match l.findIdx? (· == x) with | some j => (j : Int) | none => -1) := by
 unfold agw ah9
 refine Eq.trans (af1 l (· == x) some (some (-1)) (fun i a hi ha kn => ?_) (fun kn => ?_)) ?_
 ·try dsimp only
  unfold afp
  rw [acp hi, aci ha, acj hi (by omega), adH]
  by_cases h : x = a
  ·subst h; simp [ieq]
  ·have h2 : ¬ a = x := fun e => h e.symm
   simp [ieq, h, h2]
 ·try dsimp only
  unfold afp
  rw [acL]
 ·cases l.findIdx? (· == x) <;> rfl
theorem ahm {l : List Int} (hn : l.length ≤ 1000000) (x : Int) : ac9 l x = some (l.contains x) := by
 unfold ac9 agE
 rw [aSe hn, ab3]
 congr 1
 cases h : l.findIdx? (· == x) with
 | none =>
   have : l.contains x = false := by
    rw [Bool.eq_false_iff]
    intro hc
    have := List.findIdx?_eq_none_iff.1 h x (by simpa using hc)
    simp at this
   rw [this]; rfl
 | some j =>
   obtain ⟨hj, hp, _⟩ := List.findIdx?_eq_some_iff_getElem.1 h
   have : l.contains x = true := by
    have h2 : l[j] = x := by simpa using hp
    rw [← h2]; simp
   rw [this]
   simp [ige]
def ac6 (a b : List Int) : List Int := a.filter fun x => !b.contains x
theorem alI {a b : List Int} (ha : a.length ≤ 1000000) (hb : b.length ≤ 1000000) : aet a b = some (ac6 a b) := by
 unfold aet aHj
 rw [acq (by omega), Am.iff_true]
 have second : ∀ z : Nat, z < a.length → ac6 (a.take z) b = a.take z → b.contains (a[z]?.getD 0) = true →
  acl (fun (v13 : (Val (.pair tI (.pair tI (.slice tI))))) kk17 => ag5 b v13.1 v13.2.1 v13.2.2 (fun u14 u15 u16 => kk17 (u14, u15, u16)) (fun z12 => acH ((ile (0 : Int) z12.1) && (ile z12.1 (adj z12.2))) (acH ((ile (0 : Int) z12.1) && (ile z12.1 (adj (List.take (Int.toNat z12.1) z12.2 ++ List.replicate (List.length z12.2 - (Int.toNat z12.1)) (0 : Int) ++ List.drop ((Int.toNat z12.1) + (List.length z12.2 - (Int.toNat z12.1))) z12.2)))) (some (List.take (Int.toNat z12.1) (List.drop 0 (List.take (Int.toNat z12.1) z12.2 ++ List.replicate (List.length z12.2 - (Int.toNat z12.1)) (0 : Int) ++ List.drop ((Int.toNat z12.1) + (List.length z12.2 - (Int.toNat z12.1))) z12.2))))))) ((z : Int), ((z : Int) + 1), a) = some (ac6 a b) := by
  intro z hz hp hc
  refine afs (fun x : Int × Int × List Int => ∃ i j : Nat, x.1 = i ∧ x.2.1 = j ∧ i < j ∧ j ≤ a.length ∧ x.2.2.length = a.length ∧ x.2.2.take i = ac6 (a.take j) b ∧ x.2.2.drop j = a.drop j) (fun x => a.length - x.2.1.toNat) ?_
   ⟨z, z + 1, rfl, by simp, by omega, by omega, rfl, ?_, rfl⟩
  ·rintro ⟨x1, x2, s⟩ ⟨i, j, h1, h2, hij, hja, hl, ht, hd⟩
   simp only at h1 h2 hl ht hd
   subst h1 h2
   rcases Nat.lt_or_ge j a.length with hj | hj
   ·refine .inr ?_
    have hsj : s[j]? = some a[j] := by
     have h3 : (s.drop j)[0]? = (a.drop j)[0]? := by rw [hd]
     rw [List.getElem?_drop, List.getElem?_drop] at h3
     simpa [List.getElem?_eq_getElem hj] using h3
    have hjs : j < s.length := by omega
    have hta : ac6 (a.take (j + 1)) b = ac6 (a.take j) b ++ if b.contains a[j] then [] else [a[j]] := by
     rw [take_succ (List.getElem?_eq_getElem hj), ac6, ac6, List.filter_append]
     congr 1
     cases h : b.contains a[j] with
     | true => simp only [List.filter_cons, h, Bool.not_true, Bool.false_eq_true, if_false, List.filter_nil, if_true]
     | false => simp only [List.filter_cons, h, Bool.not_false, Bool.false_eq_true, if_false, List.filter_nil, if_true]
    cases h : b.contains a[j] with
    | true =>
      refine ⟨(i, (j : Int) + 1, s), ⟨i, j + 1, rfl, by simp, by omega, by omega, hl, ?_, ?_⟩, by simp; omega, fun kn => ?_⟩
      ·rw [hta, h]; simpa using ht
      ·have := congrArg (List.drop 1) hd
       simpa [List.drop_drop, Nat.add_comm] using this
      ·try dsimp only
       unfold ag5
       rw [acp hjs, af7 hjs, aex hsj, ahm hb, ab3, h]
       simp only [Bool.not_true, acM]
       rw [acj hjs (by omega)]
    | false =>
      have his : i < s.length := by omega
      refine ⟨((i : Int) + 1, (j : Int) + 1, s.set i a[j]), ⟨i + 1, j + 1, by simp, by simp, by omega, by omega, by simpa using hl, ?_, ?_⟩, by simp; omega, fun kn => ?_⟩
      ·show List.take (i + 1) (s.set i a[j]) = _
       rw [hta, h, List.take_succ, List.getElem?_set, List.take_set_of_le (Nat.le_refl i), ht]
       simp [his]
      ·show List.drop (j + 1) (s.set i a[j]) = _
       rw [List.drop_set_of_lt (by omega)]
       have := congrArg (List.drop 1) hd
       simpa [List.drop_drop, Nat.add_comm] using this
      ·try dsimp only
       unfold ag5
       rw [acp hjs, af7 hjs, aex hsj, ahm hb, ab3, h]
       simp only [Bool.not_false, ad6]
       rw [af7 his, aex (List.getElem?_eq_getElem his), acj his (by omega), acj hjs (by omega), Int.toNat_natCast]
   ·refine .inl fun kn => ?_
    have hje : j = s.length := by omega
    try dsimp only
    unfold ag5
    rw [hje, acL]
    dsimp only
    have g1 : ((ile (0 : Int) (i : Int)) && (ile (i : Int) (adj s))) = true := by simp [ile, adj]; omega
    rw [adx g1]
    have g2 : ((ile (0 : Int) (i : Int)) && (ile (i : Int) (adj (List.take (Int.toNat (i : Int)) s ++ List.replicate (List.length s - (Int.toNat (i : Int))) (0 : Int) ++ List.drop ((Int.toNat (i : Int)) + (List.length s - (Int.toNat (i : Int)))) s)))) = true := by
     simp [ile, adj]; omega
    rw [adx g2, Int.toNat_natCast, List.drop_zero, List.append_assoc, List.take_append_of_le_length (by simp; omega), List.take_take, Nat.min_self, ht]
    rw [List.take_of_length_le (by omega)]
  ·show List.take z a = ac6 (a.take (z + 1)) b
   have hz' : a[z]? = some a[z] := List.getElem?_eq_getElem hz
   rw [take_succ hz', ac6, List.filter_append]
   rw [hz'] at hc
   simp only [Option.getD_some] at hc
   have : List.filter (fun x => !b.contains x) [a[z]] = [] := by simp only [List.filter_cons, hc, Bool.not_true, Bool.false_eq_true, if_false, List.filter_nil]
   rw [this, List.append_nil]
   exact hp.symm
 refine Eq.trans (af1 a (fun x => b.contains x) (fun z4 => ifb (ieq z4 (-1 : Int)) (some a) (ck (z4 + (1 : Int)) fun n5 => acl (fun (v13 : (Val (.pair tI (.pair tI (.slice tI))))) kk17 => ag5 b v13.1 v13.2.1 v13.2.2 (fun u14 u15 u16 => kk17 (u14, u15, u16)) (fun z12 => acH ((ile (0 : Int) z12.1) && (ile z12.1 (adj z12.2))) (acH ((ile (0 : Int) z12.1) && (ile z12.1 (adj (List.take (Int.toNat z12.1) z12.2 ++ List.replicate (List.length z12.2 - (Int.toNat z12.1)) (0 : Int) ++ List.drop ((Int.toNat z12.1) + (List.length z12.2 - (Int.toNat z12.1))) z12.2)))) (some (List.take (Int.toNat z12.1) (List.drop 0 (List.take (Int.toNat z12.1) z12.2 ++ List.replicate (List.length z12.2 - (Int.toNat z12.1)) (0 : Int) ++ List.drop ((Int.toNat z12.1) + (List.length z12.2 - (Int.toNat z12.1))) z12.2))))))) (z4, n5, a))) (some a) (fun i x hi hx kn => ?_) (fun kn => ?_)) ?_
 ·try dsimp only
  unfold anu
  rw [acp hi, af7 hi, aex hx, ahm hb, ab3, acj hi (by omega), adH]
 ·try dsimp only
  unfold anu
  rw [acL]
 ·cases h : a.findIdx? (fun x => b.contains x) with
  | none =>
    have : ac6 a b = a := by
     rw [ac6, List.filter_eq_self]
     intro x hx
     have := List.findIdx?_eq_none_iff.1 h x hx
     simpa using this
    rw [this]
  | some z =>
    obtain ⟨hz, hc, hlt⟩ := List.findIdx?_eq_some_iff_getElem.1 h
    have h1 : ieq (z : Int) (-1) = false := by simp [ieq]
    try dsimp only
    rw [acm h1, acj hz (by omega)]
    refine second z hz ?_ ?_
    ·rw [ac6, List.filter_eq_self]
     intro x hx
     obtain ⟨j, hj, rfl⟩ := List.mem_iff_getElem.1 hx
     rw [List.length_take] at hj
     rw [List.getElem_take]
     have := hlt j (by omega)
     simpa using this
    ·rw [List.getElem?_eq_getElem hz]; exact hc
def ayt (l : List Int) (i : Nat) (a : Int) : Option Bool := if !inP a 1 1099511627776 then some false else if aCF (fun x => x) l i a then some false else none
def ajr (l : List Int) : Bool := match aeQ (ayt l) 0 l with | some _ => false | none => decide (l.length ≤ 6)
theorem au5 {l : List Int} (hn : l.length ≤ 1000000) : ais l = some (ajr l) := by
 unfold ais awA
 refine Eq.trans (amq l (ayt l) some (some (decide (l.length ≤ 6))) (fun i a hi ha kn => ?_) (fun kn => ?_)) ?_
 ·try dsimp only
  unfold aju
  rw [acp hi, aci ha, aeZ, ab3]
  unfold ayt
  cases inP a 1 1099511627776 with
  | false => rfl
  | true =>
    simp only [Bool.not_true, acM, Bool.false_eq_true, if_false]
    rcases Nat.eq_zero_or_pos i with h0 | h0
    ·subst h0
     have : igt ((0 : Nat) : Int) 0 = false := by simp [igt]
     rw [acm this, acj hi (by omega)]
     simp [aCF]
    ·obtain ⟨q, hq⟩ := aIQ hi h0
     have h1 : igt (i : Int) 0 = true := by simp [igt]; omega
     rw [aco h1, aRE h0 (by omega), aKy h0 hq]
     simp only [aCF, h0, decide_true, Bool.true_and, hq, Option.any_some]
     unfold ile
     cases h2 : decide (a ≤ q) with
     | true => rfl
     | false =>
       rw [acM, acj hi (by omega)]
       rfl
 ·try dsimp only
  unfold aju
  rw [acL, acA]
  simp [ile]
  omega
 ·have hb : ∀ x, aeQ (ayt l) 0 l = some x → x = false := by
   have : ∀ (m : List Int) (j : Nat) (x : Bool), aeQ (ayt l) j m = some x → x = false := by
    intro m
    induction m with
    | nil => intro j x h; cases h
    | cons a m ih =>
      intro j x h
      unfold aeQ at h
      cases hp : ayt l j a with
      | none => rw [hp] at h; exact ih _ _ h
      | some y =>
        rw [hp] at h
        cases h
        unfold ayt at hp
        split at hp
        ·cases hp; rfl
        ·split at hp
         ·cases hp; rfl
         ·cases hp
   exact this l 0
  unfold ajr
  cases h : aeQ (ayt l) 0 l with
  | none => rfl
  | some x => rw [hb x h]
theorem aIU (l : List Int) : ajr l = true ↔ (∀ x ∈ l, 1 ≤ x ∧ x ≤ 1099511627776) ∧ l.Pairwise (· < ·) ∧ l.length ≤ 6 := by
 have h0 : aeQ (ayt l) 0 l = none ↔ (∀ x ∈ l, 1 ≤ x ∧ x ≤ 1099511627776) ∧ l.Pairwise (· < ·) := by
  rw [air, ← aOk (fun x => x) l]
  constructor
  ·intro h
   have h1 : ∀ (j : Nat) (a : Int), l[j]? = some a → inP a 1 1099511627776 = true ∧ aCF (fun x => x) l j a = false := by
    intro j a ha
    have := h j a ha
    rw [Nat.zero_add] at this
    unfold ayt at this
    split at this
    ·cases this
    ·split at this
     ·cases this
     ·rename_i h1 h2
      exact ⟨by simpa using h1, by simpa using h2⟩
   refine ⟨fun x hx => ?_, fun i a ha => (h1 i a ha).2⟩
   obtain ⟨j, hj, rfl⟩ := List.mem_iff_getElem.1 hx
   have := (h1 j l[j] (List.getElem?_eq_getElem hj)).1
   simpa [inP] using this
  ·rintro ⟨h1, h2⟩ j a ha
   rw [Nat.zero_add]
   have h3 := h1 a (List.mem_of_getElem? ha)
   have : inP a 1 1099511627776 = true := by simpa [inP] using h3
   simp [ayt, this, h2 j a ha]
 unfold ajr
 cases h : aeQ (ayt l) 0 l with
 | none =>
   obtain ⟨h1, h2⟩ := h0.1 h
   simp only [decide_eq_true_eq]
   exact ⟨fun h3 => ⟨h1, h2, h3⟩, fun h3 => h3.2.2⟩
 | some x =>
   constructor
   ·intro h2; cases h2
   ·rintro ⟨h1, h2, h3⟩
    rw [h0.2 ⟨h1, h2⟩] at h; cases h
theorem aSh {a b : List Int} (ha : a.length ≤ 1000000) (hb : b.length ≤ 1000000) : acE [a, b] = some (a ++ b) := by
 have hk : ∀ n : Nat, n ≤ 4000000 → ∀ (f : Int → Option (List Int)), ck (n : Int) f = f n := fun n h f => acr (by omega) (by omega) f
 have second : acl (fun (v9 : (Val (.pair tI (.slice tI)))) kk12 => acI [a, b] (acs [a, b]) v9.1 v9.2 (fun u10 u11 => kk12 (u10, u11)) (fun z8 => some z8)) ((0 : Int), ([] : List Int)) = some (a ++ b) := by
  refine adf [a, b] (fun i => ([a, b].take i).flatten) (some (a ++ b)) (f := fun (v9 : (Val (.pair tI (.slice tI)))) kk12 => acI [a, b] (acs [a, b]) v9.1 v9.2 (fun u10 u11 => kk12 (u10, u11)) (fun z8 => some z8)) rfl (fun i x hi hx kn => ?_) (fun kn => ?_)
  ·try dsimp only
   unfold acI
   rw [acp hi, aci hx, acj hi (by simp), take_succ hx, List.flatten_append]
   have : acJ ((List.take i [a, b]).flatten.length + x.length) = true := by
    refine acq ?_
    have h1 : x.length ≤ 1000000 := by
     have := List.mem_of_getElem? hx
     simp at this
     rcases this with rfl | rfl <;> assumption
    have h2 : (List.take i [a, b]).flatten.length ≤ 2000000 := by
     have : i = 0 ∨ i = 1 := by simp at hi; omega
     rcases this with rfl | rfl <;> simp <;> omega
    omega
   rw [adx this]
   simp
  ·try dsimp only
   unfold acI
   rw [acL]
   simp
 unfold acE agb
 refine afs (fun x : Int × Int => ∃ i : Nat, i ≤ 2 ∧ x = ((([a, b].take i).flatten.length : Int), (i : Int))) (fun x => 2 - x.2.toNat) ?_ ⟨0, by omega, rfl⟩
 rintro x ⟨i, hi, rfl⟩
 rcases Nat.lt_or_ge i 2 with h2 | h2
 ·refine .inr ⟨((([a, b].take (i + 1)).flatten.length : Int), (i : Int) + 1), ⟨i + 1, h2, by simp⟩, by simp; omega, fun kn => ?_⟩
  have hi' : i < [a, b].length := h2
  obtain ⟨x, hx⟩ : ∃ x, [a, b][i]? = some x := ⟨_, List.getElem?_eq_getElem hi'⟩
  have hxl : x.length ≤ 1000000 := by
   have := List.mem_of_getElem? hx
   simp at this
   rcases this with rfl | rfl <;> assumption
  have h3 : (List.take i [a, b]).flatten.length ≤ 2000000 := by
   have : i = 0 ∨ i = 1 := by omega
   rcases this with rfl | rfl <;> simp <;> omega
  try dsimp only
  unfold adB
  rw [acp hi', aci hx, acA]
  have e1 : (((List.take i [a, b]).flatten.length : Int) + (x.length : Int)) = ((List.take i [a, b]).flatten.length + x.length : Nat) := by omega
  rw [e1, hk _ (by omega)]
  have : ilt ((((List.take i [a, b]).flatten.length + x.length : Nat)) : Int) 0 = false := by simp [ilt]; omega
  rw [acm this, acj hi' (by simp), take_succ hx]
  simp
 ·refine .inl fun kn => ?_
  obtain rfl : i = 2 := by omega
  try dsimp only
  unfold adB
  rw [show ((2 : Nat) : Int) = (([a, b].length : Nat) : Int) from rfl, acL]
  have e1 : ((List.take 2 [a, b]).flatten.length : Int) = ((a.length + b.length : Nat) : Int) := by simp
  have e2 : ilt (((a.length + b.length : Nat)) : Int) 0 = false := by simp [ilt]; omega
  rw [e1]
  dsimp only
  rw [acm e2, Int.sub_zero, hk _ (by omega)]
  rcases Nat.eq_zero_or_pos (a.length + b.length) with h0 | h0
  ·have : igt (((a.length + b.length : Nat)) : Int) 0 = false := by simp [igt]; omega
   rw [acm this]
   exact second
  ·have : igt (((a.length + b.length : Nat)) : Int) 0 = true := by simp [igt]; omega
   rw [aco this]
   have : ((ilt (0 : Int) (((a.length + b.length : Nat)) : Int)) && (acJ (Int.toNat (((a.length + b.length : Nat)) : Int)))) = true := by
    rw [Int.toNat_natCast, acq (by omega)]
    simp [ilt]; omega
   rw [adx this]
   have : ile 0 (adj (List.replicate (Int.toNat (((a.length + b.length : Nat)) : Int)) (0 : Int))) = true := by simp [ile]
   rw [adx this]
   exact second
def ay5 (b : acw) (id day : Int) : Option azD := b.2.2.2.1.find? fun l => l.1 == id && inP day l.2.1.1 l.2.1.2
theorem aN4 {α : Type} (p : α → Bool) : ∀ l : List α, l.find? p = (match l.findIdx? p with | some j => l[j]? | none => none)
 | [] => rfl
 | a :: l => by
   rw [List.find?_cons, List.findIdx?_cons]
   cases h : p a with
   | true => simp
   | false =>
     simp only [Bool.false_eq_true, if_false]
     rw [aN4 p l]
     cases l.findIdx? p <;> simp
theorem aVc {b : acw} (hn : b.2.2.2.1.length ≤ 1000) (id day : Int) : aqu b id day = some (match ay5 b id day with | some l => (l, true) | none => ((0, (0, 0), 0), false)) := by
 unfold aqu aHt
 refine Eq.trans (af1 b.2.2.2.1 (fun l => l.1 == id && inP day l.2.1.1 l.2.1.2) (fun z5 => ifb (ilt z5 (0 : Int)) (some (((0 : Int), ((0 : Int), (0 : Int)), (0 : Int)), false)) (adv b.2.2.2.1 z5 fun e6 => some (e6, true))) (some ((0, (0, 0), 0), false)) (fun i a hi ha kn => ?_) (fun kn => ?_)) ?_
 ·try dsimp only
  unfold anz
  rw [acp hi, aci ha, aeZ, ab3, acj hi (by omega)]
  cases h1 : (a.1 == id) with
  | false =>
    have : ieq a.1 id = false := h1
    simp [this]
  | true =>
    have : ieq a.1 id = true := h1
    rw [this]
    cases inP day a.2.1.1 a.2.1.2 <;> simp
 ·try dsimp only
  unfold anz
  rw [acL]
 ·unfold ay5
  rw [aN4]
  cases h : b.2.2.2.1.findIdx? (fun l => l.1 == id && inP day l.2.1.1 l.2.1.2) with
  | none => rfl
  | some j =>
    obtain ⟨hj, _, _⟩ := List.findIdx?_eq_some_iff_getElem.1 h
    have : ilt (j : Int) 0 = false := by simp [ilt]
    try dsimp only
    rw [acm this, aci (List.getElem?_eq_getElem hj), List.getElem?_eq_getElem hj]
end Go.Proofs.ZzM
end
noncomputable section
namespace Go.Proofs.ZzM
open Go Go.Am
def aUN (a : Int) : List Int → List Int
 | [] => [a]
 | b :: t => if a ≤ b then a :: b :: t else b :: aUN a t
def aFa : List Int → List Int
 | [] => []
 | a :: t => aUN a (aFa t)
def aoB (p : Option Int) : List Int → List Int
 | [] => []
 | a :: t => if p = some a then aoB (some a) t else a :: aoB (some a) t
def aLo (l : List Int) : List Int := aoB none (aFa l)
theorem aBV (a : Int) : ∀ l, (aUN a l).Perm (a :: l)
 | [] => List.Perm.refl _
 | b :: t => by
   unfold aUN
   split
   ·exact List.Perm.refl _
   ·exact ((aBV a t).cons b).trans (List.Perm.swap a b t)
theorem anE : ∀ l, (aFa l).Perm l
 | [] => List.Perm.refl _
 | a :: t => (aBV a _).trans ((anE t).cons a)
theorem aBU (a : Int) : ∀ {l : List Int}, l.Pairwise (· ≤ ·) → (aUN a l).Pairwise (· ≤ ·)
 | [], _ => by simp [aUN]
 | b :: t, h => by
   rw [List.pairwise_cons] at h
   unfold aUN
   split
   ·rename_i hab
    refine List.pairwise_cons.2 ⟨fun x hx => ?_, List.pairwise_cons.2 h⟩
    rcases List.mem_cons.1 hx with rfl | hx
    ·exact hab
    ·have := h.1 x hx; omega
   ·rename_i hab
    refine List.pairwise_cons.2 ⟨fun x hx => ?_, aBU a h.2⟩
    rcases List.mem_cons.1 ((aBV a t).mem_iff.1 hx) with rfl | hx
    ·omega
    ·exact h.1 x hx
theorem anD : ∀ l : List Int, (aFa l).Pairwise (· ≤ ·)
 | [] => List.Pairwise.nil
 | a :: t => aBU a (anD t)
theorem aSC (l : List Int) : asY l = aFa l := by
 have h1 : (asY l).Pairwise (· ≤ ·) := by
  have := List.pairwise_mergeSort (le := fun a b : Int => decide (a ≤ b)) (fun a b c h1 h2 => by simp at *; omega) (fun a b => by simp; omega) l
  exact this.imp fun h => by simpa using h
 exact List.Perm.eq_of_pairwise (le := (· ≤ ·)) (fun a b _ _ h1 h2 => by omega) h1 (anD l) ((List.mergeSort_perm l _).trans (anE l).symm)
theorem aEm (a : Int) : ∀ (l : List Int) (p : Option Int), aoB p (l ++ [a]) = aoB p l ++ (if (match l.getLast? with | some b => some b | none => p) = some a then [] else [a])
 | [], p => by simp only [List.nil_append, aoB, List.getLast?_nil]; rfl
 | b :: t, p => by
   have ih := aEm a t (some b)
   have e : (match (b :: t).getLast? with | some c => some c | none => p) = (match t.getLast? with | some c => some c | none => some b) := by
    cases t with
    | nil => rfl
    | cons c t =>
      rw [List.getLast?_cons_cons]
      cases h : (c :: t).getLast? with
      | none => simp at h
      | some x => rfl
   rw [e]
   simp only [List.cons_append, aoB, ih]
   split <;> simp
theorem arF (l : List Int) : ∀ m, m ≤ l.length → Lib.compactUpTo l.toArray m = aoB none (l.take m)
 | 0, _ => by simp [Lib.compactUpTo, aoB]
 | m + 1, h => by
   have hm : m < l.length := h
   rw [Lib.compactUpTo_succ, arF l m (by omega), take_succ (List.getElem?_eq_getElem hm), aEm]
   congr 1
   have e1 : l.toArray[m]! = l[m] := by simp [getElem!_pos, hm]
   rw [e1]
   unfold Lib.keeps
   rw [e1]
   cases m with
   | zero => simp
   | succ m =>
     have hm' : m < l.length := by omega
     have e2 : l.toArray[m + 1 - 1]! = l[m] := by simp [getElem!_pos, hm']
     rw [e2]
     have e3 : (l.take (m + 1)).getLast? = some l[m] := by rw [take_succ (List.getElem?_eq_getElem hm'), List.getLast?_append]; rfl
     rw [e3]
     by_cases hne : l[m + 1] = l[m]
     ·simp [hne]
     ·have : ¬ l[m] = l[m + 1] := fun h => hne h.symm
      simp [hne, this]
theorem aMO (l : List Int) : aqx l = aoB none l := by
 unfold aqx Lib.compact
 rw [arF l l.length (Nat.le_refl _), List.take_length]
theorem aP7 (l : List Int) : aqx (asY l) = aLo l := by rw [aSC, aMO]; rfl
theorem aIt : ∀ {l : List Int} {p : Option Int} {x : Int}, p ≠ some x → (x ∈ aoB p l ↔ x ∈ l)
 | [], _, _, _ => Iff.rfl
 | a :: t, p, x, hp => by
   unfold aoB
   by_cases hx : x = a
   ·subst hx
    rw [if_neg hp]; simp
   ·have ih := aIt (l := t) (p := some a) (x := x) (fun e => hx (by cases e; rfl))
    split <;> simp [ih, hx]
theorem aNl : ∀ {l : List Int} {p : Option Int}, l.Pairwise (· ≤ ·) → (∀ q, p = some q → ∀ x ∈ l, q ≤ x) → (aoB p l).Pairwise (· < ·) ∧ ∀ q, p = some q → ∀ x ∈ aoB p l, q < x
 | [], p, _, _ => ⟨List.Pairwise.nil, fun _ _ _ h => by cases h⟩
 | a :: t, p, h, hp => by
   rw [List.pairwise_cons] at h
   obtain ⟨i1, i2⟩ := aNl (l := t) (p := some a) h.2 (fun q hq x hx => by cases hq; exact h.1 x hx)
   unfold aoB
   split
   ·rename_i e
    exact ⟨i1, fun q hq x hx => by rw [e] at hq; cases hq; exact i2 _ rfl x hx⟩
   ·rename_i e
    refine ⟨List.pairwise_cons.2 ⟨fun x hx => i2 _ rfl x hx, i1⟩, fun q hq x hx => ?_⟩
    have := hp q hq a (by simp)
    have hne : q ≠ a := fun h => e (by rw [hq, h])
    rcases List.mem_cons.1 hx with rfl | hx
    ·omega
    ·have := i2 _ rfl x hx; omega
theorem ap9 {l : List Int} {x : Int} : x ∈ aLo l ↔ x ∈ l := by
 unfold aLo
 rw [aIt (by simp), (anE l).mem_iff]
theorem aLB (l : List Int) : (aLo l).Pairwise (· < ·) := (aNl (anD l) (fun q hq => by cases hq)).1
theorem aIu : ∀ (l : List Int) (p : Option Int), (aoB p l).length ≤ l.length
 | [], _ => Nat.le_refl _
 | a :: t, p => by
   have := aIu t (some a)
   unfold aoB
   split <;> simp <;> omega
theorem aze (l : List Int) : (aLo l).length ≤ l.length := by
 unfold aLo
 have := aIu (aFa l) none
 rwa [(anE l).length_eq] at this
theorem aVd {l m : List Int} (hl : l.Pairwise (· < ·)) (hm : m.Pairwise (· < ·)) (h : ∀ x, x ∈ l ↔ x ∈ m) : l = m := by
 induction l generalizing m with
 | nil =>
   cases m with
   | nil => rfl
   | cons a t => have := (h a).2 (by simp); cases this
 | cons a t ih =>
   rw [List.pairwise_cons] at hl
   cases m with
   | nil => have := (h a).1 (by simp); cases this
   | cons b u =>
     rw [List.pairwise_cons] at hm
     have hab : a = b := by
      rcases List.mem_cons.1 ((h a).1 (by simp)) with h1 | h1
      ·exact h1
      ·rcases List.mem_cons.1 ((h b).2 (by simp)) with h2 | h2
       ·exact h2.symm
       ·have := hm.1 a h1; have := hl.1 b h2; omega
     subst hab
     rw [ih hl.2 hm.2 fun x => ?_]
     constructor
     ·intro hx
      rcases List.mem_cons.1 ((h x).1 (by simp [hx])) with h1 | h1
      ·have := hl.1 x hx; omega
      ·exact h1
     ·intro hx
      rcases List.mem_cons.1 ((h x).2 (by simp [hx])) with h1 | h1
      ·have := hm.1 x hx; omega
      ·exact h1
end Go.Proofs.ZzM
end
noncomputable section
namespace Go.Proofs.ZzM
open Go Go.Am
def axp (b : acw) (s : List (Int × acS)) (c : Cmp) : Int :=
 if (c.2.2.1 ++ c.2.2.2.1).any (fun id => alo s id c.2.1 == 5) then 5 else
 if (c.2.2.1 ++ c.2.2.2.1).any (fun id => alo s id c.2.1 == 4) then 4 else
 if (c.2.2.1 ++ c.2.2.2.1).any (fun id => (ay5 b id c.2.1).isSome) then 9 else
 if 1 < (ac6 c.2.2.1 c.2.2.2.1).length then 1 else if 1 < (ac6 c.2.2.2.1 c.2.2.1).length then 1 else
 if (ac6 c.2.2.1 c.2.2.2.1).length + (ac6 c.2.2.2.1 c.2.2.1).length = 0 then 1 else 0
def aOS (c : Cmp) : Bool :=
 inP c.1 1 1099511627776 && (aMK c.2.1 && (inP c.2.2.2.2.1 (-1125899906842624) 1125899906842624 && (inP c.2.2.2.2.2.1 0 1073741824 && (akC c.2.2.2.2.2.2 (-10000) 10000 && (ajr c.2.2.1 && ajr c.2.2.2.1)))))
def aqw (b : acw) (s : List (Int × acS)) (i : Nat) (c : Cmp) : Int :=
 if !aOS c then 1 else if (b.2.2.2.2.1.take i).any (fun x => x.1 == c.1) then 6 else axp b s c
theorem aKq (a b : List Int) : (ac6 a b).length ≤ a.length := List.length_filter_le _ _
set_option maxHeartbeats 1000000 in
theorem aCp {b : acw} (hn : b.2.2.2.2.1.length ≤ 1000) (hl : b.2.2.2.1.length ≤ 1000) (s : List (Int × acS)) {i : Nat} {c : Cmp} (hA : c.2.2.1.length ≤ 1000) (hB : c.2.2.2.1.length ≤ 1000)
 (hc : b.2.2.2.2.1[i]? = some c) : adP b s i = some (aqw b s i c) := by
 have hi : i < b.2.2.2.2.1.length := (List.getElem?_eq_some_iff.1 hc).1
 unfold adP ajd aqw aOS
 rw [aci hc, aeZ, ab3]
 cases inP c.1 1 1099511627776 with
 | false => rfl
 | true =>
 rw [aHI, ab3]
 cases aMK c.2.1 with
 | false => rfl
 | true =>
 rw [aeZ, ab3]
 cases inP c.2.2.2.2.1 (-1125899906842624) 1125899906842624 with
 | false => rfl
 | true =>
 rw [aeZ, ab3]
 cases inP c.2.2.2.2.2.1 0 1073741824 with
 | false => rfl
 | true =>
 rw [au7, ab3]
 cases akC c.2.2.2.2.2.2 (-10000) 10000 with
 | false => rfl
 | true =>
 rw [au5 (by omega), ab3]
 cases ajr c.2.2.1 with
 | false => rfl
 | true =>
 rw [au5 (by omega), ab3]
 cases ajr c.2.2.2.1 with
 | false => rfl
 | true =>
 have hg : ((ile (0 : Int) (i : Int)) && (ile (i : Int) (adj b.2.2.2.2.1))) = true := by simp [ile, adj]; omega
 simp only [Bool.not_true, acM, Bool.and_self, Bool.false_eq_true, if_false]
 rw [adx hg, Int.toNat_natCast]
 -- what comes behind the IDs
 have rest : (ab6 (acE ([c.2.2.1, c.2.2.2.1])) fun r12 => acl (fun (v36 : Int) kk38 => ad0 s r12 (acs ([(5 : Int), (4 : Int)])) c.2.1 ([(5 : Int), (4 : Int)]) v36 (fun u37 => kk38 u37) (fun z23 => some z23) (fun _ => acl (fun (v33 : Int) kk35 => adZ r12 (acs r12) b.1.1 b.1.2 b.2.1 b.2.2.1 b.2.2.2.1 b.2.2.2.2.1 b.2.2.2.2.2 c.2.1 v33 (fun u34 => kk35 u34) (fun z28 => some z28) (fun _ => ab6 (aet c.2.2.1 c.2.2.2.1) fun r30 => ab6 (aet c.2.2.2.1 c.2.2.1) fun r31 => ifb (igt (acs r30) (1 : Int)) (some (1 : Int)) (ifb (igt (acs r31) (1 : Int)) (some (1 : Int)) (ck ((acs r30) + (acs r31)) fun n32 => ifb (ieq n32 (0 : Int)) (some (1 : Int)) (some (0 : Int)))))) (0 : Int))) (0 : Int)) = some (axp b s c) := by
  rw [aSh (by omega) (by omega), ab3]
  have hall : (c.2.2.1 ++ c.2.2.2.1).length ≤ 2000 := by simp; omega
  have last : (ab6 (aet c.2.2.1 c.2.2.2.1) fun r30 => ab6 (aet c.2.2.2.1 c.2.2.1) fun r31 => ifb (igt (acs r30) (1 : Int)) (some (1 : Int)) (ifb (igt (acs r31) (1 : Int)) (some (1 : Int)) (ck ((acs r30) + (acs r31)) fun n32 => ifb (ieq n32 (0 : Int)) (some (1 : Int)) (some (0 : Int))))) =
   some (if 1 < (ac6 c.2.2.1 c.2.2.2.1).length then 1 else if 1 < (ac6 c.2.2.2.1 c.2.2.1).length then 1 else if (ac6 c.2.2.1 c.2.2.2.1).length + (ac6 c.2.2.2.1 c.2.2.1).length = 0 then 1 else 0) := by
   rw [alI (by omega) (by omega), ab3, alI (by omega) (by omega), ab3]
   have l1 := aKq c.2.2.1 c.2.2.2.1
   have l2 := aKq c.2.2.2.1 c.2.2.1
   rw [acA, acA, acr (by omega) (by omega)]
   by_cases c1 : 1 < (ac6 c.2.2.1 c.2.2.2.1).length
   ·rw [aco (by simp [igt]; omega), if_pos c1]
   rw [acm (by simp [igt]; omega), if_neg c1]
   by_cases c2 : 1 < (ac6 c.2.2.2.1 c.2.2.1).length
   ·rw [aco (by simp [igt]; omega), if_pos c2]
   rw [acm (by simp [igt]; omega), if_neg c2]
   by_cases c3 : (ac6 c.2.2.1 c.2.2.2.1).length + (ac6 c.2.2.2.1 c.2.2.1).length = 0
   ·rw [aco (by simp [ieq]; omega), if_pos c3]
   rw [acm (by simp [ieq]; omega), if_neg c3]
  refine Eq.trans (amq [(5 : Int), 4] (fun _ want => if (c.2.2.1 ++ c.2.2.2.1).any (fun id => alo s id c.2.1 == want) then some want else none) some (some (if (c.2.2.1 ++ c.2.2.2.1).any (fun id => (ay5 b id c.2.1).isSome) then 9 else if 1 < (ac6 c.2.2.1 c.2.2.2.1).length then 1 else if 1 < (ac6 c.2.2.2.1 c.2.2.1).length then 1 else if (ac6 c.2.2.1 c.2.2.2.1).length + (ac6 c.2.2.2.1 c.2.2.1).length = 0 then 1 else 0)) (fun j want hj hw kn => ?_) (fun kn => ?_)) ?_
  ·try dsimp only
   unfold ad0
   rw [acp hj, af7 hj, aex hw]
   refine Eq.trans (afS (c.2.2.1 ++ c.2.2.2.1) (fun id => alo s id c.2.1 == want) (fun _ => some want) (some want) (kn ((j : Int) + 1)) (fun _ => rfl) (fun k a hk ha kn' => ?_) (fun kn' => ?_)) ?_
   ·try dsimp only
    unfold afP
    rw [acp hk, aci ha, aLW, ab3, acj hk (by omega), adH]
   ·try dsimp only
    unfold afP
    rw [acL, acj hj (by simp)]
   ·cases List.any (c.2.2.1 ++ c.2.2.2.1) (fun id => alo s id c.2.1 == want) <;> rfl
  ·try dsimp only
   unfold ad0
   rw [acL]
   refine Eq.trans (afS (c.2.2.1 ++ c.2.2.2.1) (fun id => (ay5 b id c.2.1).isSome) (fun _ => some 9) (some 9) (some (if 1 < (ac6 c.2.2.1 c.2.2.2.1).length then 1 else if 1 < (ac6 c.2.2.2.1 c.2.2.1).length then 1 else if (ac6 c.2.2.1 c.2.2.2.1).length + (ac6 c.2.2.2.1 c.2.2.1).length = 0 then 1 else 0)) (fun _ => rfl) (fun k a hk ha kn' => ?_) (fun kn' => ?_)) ?_
   ·try dsimp only
    unfold adZ
    have haw := aVc hl a c.2.1
    rw [acp hk, aci ha, acj hk (by omega)]
    rw [show aqu ((b.1.1, b.1.2), b.2.1, b.2.2.1, b.2.2.2.1, b.2.2.2.2.1, b.2.2.2.2.2) a c.2.1 = aqu b a c.2.1 from rfl, haw, ab3]
    cases ay5 b a c.2.1 <;> rfl
   ·try dsimp only
    unfold adZ
    rw [acL, last]
   ·cases List.any (c.2.2.1 ++ c.2.2.2.1) (fun id => (ay5 b id c.2.1).isSome) <;> rfl
  ·unfold axp aeQ aeQ aeQ
   try dsimp only
   cases List.any (c.2.2.1 ++ c.2.2.2.1) (fun id => alo s id c.2.1 == 5) with
   | true => rfl
   | false =>
   cases List.any (c.2.2.1 ++ c.2.2.2.1) (fun id => alo s id c.2.1 == 4) <;> rfl
 refine Eq.trans (afS (b.2.2.2.2.1.take i) (fun x => x.1 == c.1) (fun z11 => ifb (ige z11 (0 : Int)) (some 6) (some (axp b s c))) (some 6) (some (axp b s c)) (fun j => ?_) (fun j a hj ha kn => ?_) (fun kn => ?_)) ?_
 ·have : ige (j : Int) 0 = true := by simp [ige]
  rw [aco this]
 ·try dsimp only
  unfold afQ
  rw [rest, acp hj, aci ha, acj hj (by rw [List.length_take]; omega), adH]
 ·try dsimp only
  unfold afQ
  rw [acL, rest]
 ·cases List.any (b.2.2.2.2.1.take i) (fun x => x.1 == c.1) <;> rfl
def aHV (b : acw) (g : acS) : List Int :=
 [g.2.1] ++ (b.2.2.2.2.1.filter fun c => !(c.2.2.1.contains g.1 == c.2.2.2.1.contains g.1)).map (fun c => c.2.1) ++ (b.2.2.2.2.2.filter fun n => n.1 == g.1).map (fun n => n.2)
def acB (b : acw) (g : acS) : List Int := aLo (aHV b g)
structure ahl (b : acw) : Prop where
 gauges : b.2.1.length ≤ 1000
 uses : b.2.2.1.length ≤ 1000
 loans : b.2.2.2.1.length ≤ 1000
 compares : b.2.2.2.2.1.length ≤ 1000
 looks : b.2.2.2.2.2.length ≤ 1000
 piles : ∀ c ∈ b.2.2.2.2.1, c.2.2.1.length ≤ 1000 ∧ c.2.2.2.1.length ≤ 1000
theorem aIB (l : List Int) : (asY l).length = l.length := List.length_mergeSort l
theorem aKR {b : acw} (hs : ahl b) (g : acS) : (aHV b g).length ≤ 2001 := by
 have h1 := hs.compares
 have h2 := hs.looks
 have h3 := List.length_filter_le (fun c : Cmp => !(c.2.2.1.contains g.1 == c.2.2.2.1.contains g.1)) b.2.2.2.2.1
 have h4 := List.length_filter_le (fun n : Int × Int => n.1 == g.1) b.2.2.2.2.2
 simp only [aHV, List.length_append, List.length_map, List.length_singleton]
 omega
theorem aRv {b : acw} (hs : ahl b) (g : acS) : ajB b g = some (acB b g) := by
 unfold ajB aHr
 have hr := aKR hs g
 have hd : (acB b g).length ≤ 2001 := by
  unfold acB
  have := aze (aHV b g)
  omega
 have hcl := hs.compares
 have hll := hs.looks
 refine adf b.2.2.2.2.1 (fun i => [g.2.1] ++ ((b.2.2.2.2.1.take i).filter fun c => !(c.2.2.1.contains g.1 == c.2.2.2.1.contains g.1)).map (fun c => c.2.1)) _ rfl (fun i c hi hc kn => ?_) (fun kn => ?_)
 ·try dsimp only
  unfold anw
  obtain ⟨p1, p2⟩ := hs.piles c (List.mem_of_getElem? hc)
  rw [acp hi, aci hc, ahm (by omega), ab3, ahm (by omega), ab3, acj hi (by omega), acj hi (by omega), take_succ hc, List.filter_append, List.map_append]
  have hlen : ([g.2.1] ++ ((b.2.2.2.2.1.take i).filter fun c => !(c.2.2.1.contains g.1 == c.2.2.2.1.contains g.1)).map (fun c => c.2.1)).length ≤ 1001 := by
   have h3 := List.length_filter_le (fun c : Cmp => !(c.2.2.1.contains g.1 == c.2.2.2.1.contains g.1)) (b.2.2.2.2.1.take i)
   rw [List.length_take] at h3
   simp only [List.length_append, List.length_map, List.length_singleton]
   omega
  rw [acq (by simp only [List.length_singleton]; omega), Am.iff_true]
  cases h : (c.2.2.1.contains g.1 == c.2.2.2.1.contains g.1) with
  | true => simp only [Bool.not_true, acM, List.filter_cons, h, Bool.false_eq_true, if_false, List.filter_nil, List.map_nil, List.append_nil]
  | false => simp only [Bool.not_false, ad6, List.filter_cons, h, if_true, List.filter_nil, List.map_cons, List.map_nil, List.append_assoc]
 ·try dsimp only
  unfold anw
  rw [acL, List.take_length]
  refine adf b.2.2.2.2.2 (fun i => [g.2.1] ++ (b.2.2.2.2.1.filter fun c => !(c.2.2.1.contains g.1 == c.2.2.2.1.contains g.1)).map (fun c => c.2.1) ++ ((b.2.2.2.2.2.take i).filter fun n => n.1 == g.1).map (fun n => n.2)) _ (by simp) (fun i n hi hn kn => ?_) (fun kn => ?_)
  ·try dsimp only
   unfold anv
   rw [acp hi, aci hn, acj hi (by omega), acj hi (by omega), take_succ hn, List.filter_append, List.map_append]
   have hlen : ([g.2.1] ++ (b.2.2.2.2.1.filter fun c => !(c.2.2.1.contains g.1 == c.2.2.2.1.contains g.1)).map (fun c => c.2.1) ++ ((b.2.2.2.2.2.take i).filter fun n => n.1 == g.1).map (fun n => n.2)).length ≤ 2001 := by
    have h3 := List.length_filter_le (fun c : Cmp => !(c.2.2.1.contains g.1 == c.2.2.2.1.contains g.1)) b.2.2.2.2.1
    have h4 := List.length_filter_le (fun n : Int × Int => n.1 == g.1) (b.2.2.2.2.2.take i)
    rw [List.length_take] at h4
    simp only [List.length_append, List.length_map, List.length_singleton]
    omega
   rw [acq (by simp only [List.length_singleton]; omega), Am.iff_true]
   cases h : (n.1 == g.1) with
   | true =>
     have : ieq n.1 g.1 = true := h
     simp [h, this]
   | false =>
     have : ieq n.1 g.1 = false := h
     simp [h, this]
  ·try dsimp only
   unfold anv
   rw [acL, List.take_length]
   rw [show ([g.2.1] ++ (b.2.2.2.2.1.filter fun c => !(c.2.2.1.contains g.1 == c.2.2.2.1.contains g.1)).map (fun c => c.2.1) ++ (b.2.2.2.2.2.filter fun n => n.1 == g.1).map (fun n => n.2)) = aHV b g from rfl]
   dsimp only
   rw [acq (by omega), Am.iff_true, acq (by rw [aIB]; omega), Am.iff_true, aP7]
   rfl
def acd (b : acw) : List (Int × Int) := b.2.1.flatMap fun g => (acB b g).map fun d => ((g.1, d) : Int × Int)
theorem aCk {b : acw} (hs : ahl b) (g : acS) : (acB b g).length ≤ 2001 := by
 unfold acB
 have := aze (aHV b g)
 have := aKR hs g
 omega
theorem asN {α β : Type} (f : α → List β) (n : Nat) (h : ∀ a, (f a).length ≤ n) : ∀ l : List α, (l.flatMap f).length ≤ l.length * n
 | [] => by simp
 | a :: l => by
   have := asN f n h l
   have := h a
   simp only [List.flatMap_cons, List.length_append, List.length_cons, Nat.add_mul, Nat.one_mul]
   omega
theorem aF4 {b : acw} (hs : ahl b) : akt b = some (acd b) := by
 unfold akt aBB
 have hg := hs.gauges
 have hlen : ∀ l : List acS, (l.flatMap fun g => (acB b g).map fun d => ((g.1, d) : Int × Int)).length ≤ l.length * 2001 := fun l =>
  asN _ 2001 (fun g => by rw [List.length_map]; exact aCk hs g) l
 refine adf b.2.1 (fun i => (b.2.1.take i).flatMap fun g => (acB b g).map fun d => ((g.1, d) : Int × Int)) _ rfl (fun i g hi hg' kn => ?_) (fun kn => ?_)
 ·try dsimp only
  unfold ala
  rw [acp hi, aci hg']
  rw [show ajB ((b.1.1, b.1.2), b.2.1, b.2.2.1, b.2.2.2.1, b.2.2.2.2.1, b.2.2.2.2.2) g = ajB b g from rfl, aRv hs, ab3]
  have hd := aCk hs g
  have hi2 := hlen (b.2.1.take i)
  have htl : (b.2.1.take i).length ≤ 1000 := by rw [List.length_take]; omega
  refine adf (acB b g) (fun j => ((b.2.1.take i).flatMap fun g => (acB b g).map fun d => ((g.1, d) : Int × Int)) ++ ((acB b g).take j).map fun d => ((g.1, d) : Int × Int)) _ (by simp) (fun j d hj hd' kn' => ?_) (fun kn' => ?_)
  ·try dsimp only
   unfold ak9
   rw [acp hj, aci hd', acj hj (by omega), take_succ hd', List.map_append]
   rw [acq (by simp only [List.length_append, List.length_map, List.length_take, List.length_singleton]; omega), Am.iff_true]
   simp
  ·try dsimp only
   unfold ak9
   rw [acL, List.take_length]
   dsimp only
   rw [acj hi (by omega), take_succ hg', List.flatMap_append]
   simp
 ·try dsimp only
  unfold ala
  rw [acL, List.take_length]
  rfl
def axq (b : acw) (s : List (Int × acS)) : List Int :=
 b.2.2.1.map (fun u => aSv s u.1 u.2) ++ (b.2.2.2.1.mapIdx (fun i l => aMx b s i l) ++ (b.2.2.2.2.1.mapIdx (fun i c => aqw b s i c) ++ b.2.2.2.2.2.map (fun u => aSv s u.1 u.2)))
theorem aJo {α : Type} {f : Int → Option Int} {g : Nat → α → Int} (l : List α) (h : ∀ (i : Nat) (a : α), l[i]? = some a → f i = some (g i a)) : aAn f (aoA l.length) = some (l.mapIdx g) := by
 have h1 : ∀ i, i < l.length → f (i : Int) = some ((l.mapIdx g)[i]?.getD 0) := by
  intro i hi
  rw [h i l[i] (List.getElem?_eq_getElem hi)]
  simp [hi]
 have h2 : ∀ x ∈ aoA l.length, f x = some ((l.mapIdx g)[x.toNat]?.getD 0) := by
  intro x hx
  unfold aoA at hx
  obtain ⟨i, hi, rfl⟩ := List.mem_map.1 hx
  rw [h1 i (by simpa using hi)]
  rfl
 rw [ato h2]
 congr 1
 refine List.ext_getElem (by simp [aoA]) fun i h3 h4 => ?_
 have h5 : i < l.length := by simpa using h4
 simp [aoA, h5]
theorem aSN {b : acw} (hs : ahl b) (s : List (Int × acS)) : ai0 b s = some (axq b s) := by
 unfold ai0 axq
 rw [ato (fun u _ => aIY s u.1 u.2), ab3, aJo b.2.2.2.1 (fun i l hl => aKV hs.loans hs.uses s hl), ab3,
  aJo b.2.2.2.2.1 (fun i c hc => aCp hs.compares hs.loans s (hs.piles c (List.mem_of_getElem? hc)).1 (hs.piles c (List.mem_of_getElem? hc)).2 hc), ab3, ato (fun u _ => aIY s u.1 u.2), ab3]
def acz (b : acw) : Int :=
 if !akC b.1 0 1000000 then 1 else
 if 12 < b.2.1.length then 2 else if 40 < b.2.2.1.length then 2 else if 12 < b.2.2.2.1.length then 2 else if 40 < b.2.2.2.2.1.length then 2 else if 10 < b.2.2.2.2.2.length then 2 else
 if ajh b != 0 then ajh b else
 match (axq b (ajX b)).find? (fun e => e != 0) with
 | some e => e
 | none => if 59 < (acd b).length then 2 else if 300 < 2 * b.2.1.length + 2 * ((acd b).length - b.2.1.length : Int) + 2 * b.2.2.2.2.1.length then 2 else 0
theorem avP {b : acw} (hs : ahl b) : (acd b).length ≤ 2001000 := by
 have := asN (fun g : acS => (acB b g).map fun d => ((g.1, d) : Int × Int)) 2001 (fun g => by rw [List.length_map]; exact aCk hs g) b.2.1
 have h2 := hs.gauges
 unfold acd
 omega
theorem afX {b : acw} (hs : ahl b) (hr : ∀ g ∈ b.2.1, I64 g.2.2.2.2.1.1) : acP b = some (acz b) := by
 unfold acP aBM acz
 rw [au7, ab3]
 cases akC b.1 0 1000000 with
 | false => rfl
 | true =>
 have h1 := hs.gauges
 have h2 := hs.compares
 have h3 := avP hs
 rw [acm (show (!true) = false from rfl), if_neg (by simp)]
 simp only [acA]
 by_cases c0 : 12 < b.2.1.length
 ·rw [aco (by simp [igt]; omega), if_pos c0]
 rw [acm (by simp [igt]; omega), if_neg c0]
 by_cases c1 : 40 < b.2.2.1.length
 ·rw [aco (by simp [igt]; omega), if_pos c1]
 rw [acm (by simp [igt]; omega), if_neg c1]
 by_cases c2 : 12 < b.2.2.2.1.length
 ·rw [aco (by simp [igt]; omega), if_pos c2]
 rw [acm (by simp [igt]; omega), if_neg c2]
 by_cases c3 : 40 < b.2.2.2.2.1.length
 ·rw [aco (by simp [igt]; omega), if_pos c3]
 rw [acm (by simp [igt]; omega), if_neg c3]
 by_cases c4 : 10 < b.2.2.2.2.2.length
 ·rw [aco (by simp [igt]; omega), if_pos c4]
 rw [acm (by simp [igt]; omega), if_neg c4]
 rw [aEd hr h1, ab3]
 cases hm : (ajh b != 0) with
 | true =>
   have : ine (ajh b) 0 = true := hm
   rw [aco this, if_pos rfl]
 | false =>
 have : ine (ajh b) 0 = false := hm
 rw [acm this, if_neg (by simp)]
 rw [aEs h1, ab3]
 unfold aIO
 rw [aSN hs, ab3]
 cases (axq b (ajX b)).find? (fun e => e != 0) with
 | some e => rfl
 | none =>
 dsimp only
 rw [aF4 hs, ab3]
 by_cases c5 : 59 < (acd b).length
 ·rw [aco (by simp [igt]; omega), if_pos c5]
 rw [acm (by simp [igt]; omega), if_neg c5]
 rw [acr (by omega) (by omega), acr (by omega) (by omega), acr (by omega) (by omega), acr (by omega) (by omega), acr (by omega) (by omega), acr (by omega) (by omega)]
 by_cases c6 : 300 < 2 * b.2.1.length + 2 * ((acd b).length - b.2.1.length : Int) + 2 * b.2.2.2.2.1.length
 ·rw [aco (by simp [igt]; omega), if_pos c6]
 rw [acm (by simp [igt]; omega), if_neg c6]
end Go.Proofs.ZzM
end
noncomputable section
namespace Go.Proofs.ZzM
open Go Go.Am
theorem wrapU {n : Nat} (h : n < 18446744073709551616) : IntKind.wrap .u64 (n : Int) = n := by
 simp only [IntKind.wrap, IntKind.bits, IntKind.signed]
 simp
 omega
theorem wrapI {n : Nat} (h : n < 9223372036854775808) : IntKind.wrap .i64 (n : Int) = n := by
 simp only [IntKind.wrap, IntKind.bits, IntKind.signed]
 simp
 omega
def agD (l : List (Int × Int)) (x d : Int) : Option Nat := l.findIdx? fun n => decide (x = n.1) && decide (d = n.2)
theorem aLh {l : List (Int × Int)} (hn : l.length ≤ 100000000) (x d : Int) : acQ l (x, d) = some (match agD l x d with | some j => (j : Int) | none => -1) := by
 unfold acQ aeD
 refine Eq.trans (af1 l (fun n => decide (x = n.1) && decide (d = n.2)) some (some (-1)) (fun i a hi ha kn => ?_) (fun kn => ?_)) ?_
 ·try dsimp only
  unfold adw
  rw [acp hi, aci ha, acj hi (by omega), adH, Bool.and_true]
 ·try dsimp only
  unfold adw
  rw [acL]
 ·unfold agD
  cases List.findIdx? (fun n => decide (x = n.1) && decide (d = n.2)) l <;> rfl
def atP (l : List (Int × Int)) (p : List Int) (d : Int) : Int :=
 match p with
 | [] => 0
 | x :: _ => match agD l x d with | some j => (j : Int) + 1 | none => 0
theorem ahb {l : List (Int × Int)} {x d : Int} {j : Nat} (h : agD l x d = some j) : j < l.length ∧ l[j]? = some (x, d) := by
 unfold agD at h
 obtain ⟨hj, hp, _⟩ := List.findIdx?_eq_some_iff_getElem.1 h
 refine ⟨hj, ?_⟩
 rw [List.getElem?_eq_getElem hj]
 simp only [Bool.and_eq_true, decide_eq_true_eq] at hp
 congr 1
 exact Prod.ext hp.1.symm hp.2.symm
theorem aR1 (m : Maker) (p : List Int) (d : Int) (hn : m.2.1.length ≤ 100000000) : afJ m p d = some (atP m.2.1 p d) := by
 unfold afJ apu atP
 cases p with
 | nil => simp [acA, ieq]
 | cons x p =>
   have h : ieq (acs (x :: p)) 0 = false := by
    rw [acA]
    simp only [ieq, List.length_cons, beq_eq_false_iff_ne, ne_eq]
    omega
   rw [h, acM, show (0 : Int) = ((0 : Nat) : Int) from rfl, aci (a := x) rfl, aLh hn, ab3]
   cases hx : agD m.2.1 x d with
   | none => dsimp only; rw [acr (by omega) (by omega)]; simp only [hx]; rfl
   | some j =>
     have := (ahb hx).1
     dsimp only
     rw [acr (by omega) (by omega)]
     simp only [hx]
def ays (s : List (Int × acS)) (p : List Int) : Int × Int :=
 match p with
 | [] => (0, 1)
 | x :: _ => match alY (k := tI) (v := ach) x s with
   | some g => g.2.2.2.2.1
   | none => (0, 0)
theorem aIN (s : List (Int × acS)) (p : List Int) : af2 s p = some (ays s p) := by
 unfold af2 ajc ays
 cases p with
 | nil => simp [acA, ieq]
 | cons x p =>
   have h : ieq (acs (x :: p)) 0 = false := by
    rw [acA]
    simp only [ieq, List.length_cons, beq_eq_false_iff_ne, ne_eq]
    omega
   rw [h, acM, show (0 : Int) = ((0 : Nat) : Int) from rfl, aci (a := x) rfl]
   cases hx : alY (k := tI) (v := ach) x s with
   | none => simp only [aIm, hx]
   | some g => simp only [aIm, hx]
theorem aNi {l : List (Int × Int)} (hr : ∀ r ∈ l, I64 r.1) (hn : l.length ≤ 1000) : agP l = some (if l.any (fun r => !aCU r) then 1 else 0) := by
 unfold agP aBf
 refine Eq.trans (afS l (fun r => !aCU r) (fun _ => some 1) (some 1) (some 0) (fun _ => rfl) (fun i a hi ha kn => ?_) (fun kn => ?_)) ?_
 ·try dsimp only
  unfold ak5
  rw [acp hi, aci ha, aIf (hr a (List.mem_of_getElem? ha)), ab3, acj hi (by omega), adH]
 ·try dsimp only
  unfold ak5
  rw [acL]
 ·cases l.any (fun r => !aCU r) <;> rfl
def anY (n d : Int) : Int × Int := (n / (Nat.gcd n.natAbs d.natAbs : Nat), d / (Nat.gcd n.natAbs d.natAbs : Nat))
theorem ajq (r : Int × Int) : aCU r = true ↔ 1 ≤ r.2 ∧ r.2 ≤ 2147483647 ∧ (r.1.natAbs : Int) ≤ 2147483647 ∧ Nat.gcd r.1.natAbs r.2.natAbs = 1 := by
 simp [aCU]
theorem aFR {n d : Int} (hd : 0 < d) : ∃ g : Nat, 0 < g ∧ g = Nat.gcd n.natAbs d.natAbs ∧ n = (anY n d).1 * g ∧ d = (anY n d).2 * g := by
 have hg : 0 < Nat.gcd n.natAbs d.natAbs := Nat.gcd_pos_of_pos_right _ (by omega)
 refine ⟨_, hg, rfl, ?_, ?_⟩
 ·exact (Int.ediv_mul_cancel (Int.ofNat_dvd_left.2 (Nat.gcd_dvd_left _ _))).symm
 ·exact (Int.ediv_mul_cancel (Int.ofNat_dvd_left.2 (Nat.gcd_dvd_right _ _))).symm
theorem aLL {n d : Int} (hd : 0 < d) (hn : n.natAbs ≤ 2147483647) (hd2 : d ≤ 2147483647) : aCU (anY n d) = true := by
 obtain ⟨g, h0, hg, h1, h2⟩ := aFR (n := n) hd
 rw [ajq]
 have a1 : n.natAbs = (anY n d).1.natAbs * g := by conv => lhs; rw [h1]; rw [Int.natAbs_mul, Int.natAbs_natCast]
 have a2 : d.natAbs = (anY n d).2.natAbs * g := by conv => lhs; rw [h2]; rw [Int.natAbs_mul, Int.natAbs_natCast]
 have p2 : 0 < (anY n d).2 := by
  rcases Int.lt_trichotomy (anY n d).2 0 with h | h | h
  ·have := Int.mul_neg_of_neg_of_pos h (show (0 : Int) < g by omega); omega
  ·rw [h] at h2; simp at h2; omega
  ·exact h
 have b1 : (anY n d).1.natAbs ≤ n.natAbs := by rw [a1]; exact Nat.le_mul_of_pos_right _ h0
 have b2 : (anY n d).2.natAbs ≤ d.natAbs := by rw [a2]; exact Nat.le_mul_of_pos_right _ h0
 refine ⟨by omega, by omega, by omega, ?_⟩
 have := Nat.gcd_mul_right (anY n d).1.natAbs g (anY n d).2.natAbs
 rw [← a1, ← a2, ← hg] at this
 have h3 : (Nat.gcd (anY n d).1.natAbs (anY n d).2.natAbs) * g = 1 * g := by omega
 exact Nat.eq_of_mul_eq_mul_right h0 h3
theorem aEv {n d : Int} (hd : 0 < d) (hn : n.natAbs ≤ 2147483647) (hd2 : d ≤ 2147483647) : aks n d = some (anY n d, 0) := by
 obtain ⟨g, h0, hg, h1, h2⟩ := aFR (n := n) hd
 have hr := (ajq _).1 (aLL hd hn hd2)
 unfold aks ast
 rw [aFM ⟨by omega, by omega⟩, ab3, aFM ⟨by omega, by omega⟩, ab3, aT6, ab3, ← hg]
 have a1 : n.natAbs = (anY n d).1.natAbs * g := by conv => lhs; rw [h1]; rw [Int.natAbs_mul, Int.natAbs_natCast]
 have a2 : d.natAbs = (anY n d).2.natAbs * g := by conv => lhs; rw [h2]; rw [Int.natAbs_mul, Int.natAbs_natCast]
 have q1 : Int.tdiv (n.natAbs : Int) (g : Int) = ((anY n d).1.natAbs : Int) := by
  rw [a1, Int.natCast_mul]; exact Int.mul_tdiv_cancel _ (by omega)
 have q2 : Int.tdiv (d.natAbs : Int) (g : Int) = ((anY n d).2.natAbs : Int) := by
  rw [a2, Int.natCast_mul]; exact Int.mul_tdiv_cancel _ (by omega)
 have z : aeL (g : Int) 0 = false := by simp [aeL]; omega
 have g1 : igt ((anY n d).1.natAbs : Int) 2147483647 = false := by simp [igt]; omega
 have g2 : igt ((anY n d).2.natAbs : Int) 2147483647 = false := by simp [igt]; omega
 rw [acm z, acm z, q1, q2, wrapU (by omega), wrapU (by omega), wrapI (by omega), wrapI (by omega), acm g1, acm g2]
 have hd0 : ilt d 0 = false := by simp [ilt]; omega
 rw [hd0]
 have e2 : ((anY n d).2.natAbs : Int) = (anY n d).2 := by omega
 rw [e2]
 by_cases hneg : n < 0
 ·have hn0 : ilt n 0 = true := by simp [ilt, hneg]
  have : (anY n d).1 ≤ 0 := by
   rcases Int.lt_or_le 0 (anY n d).1 with h | h
   ·have := Int.mul_pos h (show (0 : Int) < g by omega); omega
   ·exact h
  rw [hn0]
  rw [show (!true == false) = true from rfl, ad6, acr (by omega) (by omega)]
  have : 0 - ((anY n d).1.natAbs : Int) = (anY n d).1 := by omega
  rw [this]
 ·have hn0 : ilt n 0 = false := by simp [ilt]; omega
  have : 0 ≤ (anY n d).1 := by
   rcases Int.lt_or_le (anY n d).1 0 with h | h
   ·have := Int.mul_neg_of_neg_of_pos h (show (0 : Int) < g by omega); omega
   ·exact h
  rw [hn0]
  rw [show (!false == false) = false from rfl, acM]
  have : ((anY n d).1.natAbs : Int) = (anY n d).1 := by omega
  rw [this]
structure amI (r : Int × Int) (n d : Int) : Prop where
 rat : aCU r = true
 num : -n ≤ r.1 ∧ r.1 ≤ n
 den : r.2 ≤ d
theorem amI.pos {r : Int × Int} {n d : Int} (h : amI r n d) : 1 ≤ r.2 := ((ajq r).1 h.rat).1
theorem amI.i64 {r : Int × Int} {n d : Int} (h : amI r n d) : I64 r.1 := by
 have := ((ajq r).1 h.rat).2.2.1
 exact ⟨by omega, by omega⟩
theorem aPV {x y : Int × Int} (hx : aCU x = true) (hy : aCU y = true) : agP [x, y] = some 0 := by
 rw [aNi]
 ·simp [hx, hy]
 ·intro r hr
  have : aCU r = true := by simp at hr; rcases hr with rfl | rfl <;> assumption
  have := ((ajq r).1 this).2.2.1
  exact ⟨by omega, by omega⟩
 ·simp
theorem akJ {a b m n : Int} (h1 : -m ≤ a ∧ a ≤ m) (h2 : -n ≤ b ∧ b ≤ n) : -(m * n) ≤ a * b ∧ a * b ≤ m * n := by
 have hm : 0 ≤ m := by omega
 have hn : 0 ≤ n := by omega
 have h3 : (a * b).natAbs ≤ (m * n).natAbs := by
  rw [Int.natAbs_mul, Int.natAbs_mul]
  exact Nat.mul_le_mul (by omega) (by omega)
 have h4 : 0 ≤ m * n := Int.mul_nonneg hm hn
 omega
def subP (x y : Int × Int) : Int × Int := anY (x.1 * y.2 - y.1 * x.2) (x.2 * y.2)
theorem aEo {x y : Int × Int} (hx : amI x 1000 100) (hy : amI y 1000 100) : (x.1 * y.2 - y.1 * x.2).natAbs ≤ 200000 ∧ 0 < x.2 * y.2 ∧ x.2 * y.2 ≤ 10000 := by
 have h1 := akJ hx.num (show -100 ≤ y.2 ∧ y.2 ≤ 100 from ⟨by have := hy.pos; omega, hy.den⟩)
 have h2 := akJ hy.num (show -100 ≤ x.2 ∧ x.2 ≤ 100 from ⟨by have := hx.pos; omega, hx.den⟩)
 have h3 := akJ (show -100 ≤ x.2 ∧ x.2 ≤ 100 from ⟨by have := hx.pos; omega, hx.den⟩) (show -100 ≤ y.2 ∧ y.2 ≤ 100 from ⟨by have := hy.pos; omega, hy.den⟩)
 have h4 := Int.mul_pos (show 0 < x.2 by have := hx.pos; omega) (show 0 < y.2 by have := hy.pos; omega)
 refine ⟨by omega, h4, by omega⟩
theorem Sub_ok {x y : Int × Int} (hx : amI x 1000 100) (hy : amI y 1000 100) : aHQ x y = some (subP x y, 0) := by
 obtain ⟨b1, b2, b3⟩ := aEo hx hy
 have h1 := akJ hx.num (show -100 ≤ y.2 ∧ y.2 ≤ 100 from ⟨by have := hy.pos; omega, hy.den⟩)
 have h2 := akJ hy.num (show -100 ≤ x.2 ∧ x.2 ≤ 100 from ⟨by have := hx.pos; omega, hx.den⟩)
 unfold aHQ aMi
 rw [aPV hx.rat hy.rat, ab3]
 rw [show ine (0 : Int) 0 = false from rfl, acM, acr (by omega) (by omega), acr (by omega) (by omega), acr (by omega) (by omega), acr (by omega) (by omega), aEv b2 (by omega) (by omega), ab3]
 rfl
theorem aQh {n d : Int} (hd : 0 < d) : (anY n d).1.natAbs ≤ n.natAbs ∧ (anY n d).2 ≤ d := by
 obtain ⟨g, h0, hg, h1, h2⟩ := aFR (n := n) hd
 have a1 : n.natAbs = (anY n d).1.natAbs * g := by conv => lhs; rw [h1]; rw [Int.natAbs_mul, Int.natAbs_natCast]
 have a2 : d.natAbs = (anY n d).2.natAbs * g := by conv => lhs; rw [h2]; rw [Int.natAbs_mul, Int.natAbs_natCast]
 have b1 : (anY n d).1.natAbs ≤ n.natAbs := by rw [a1]; exact Nat.le_mul_of_pos_right _ h0
 have b2 : (anY n d).2.natAbs ≤ d.natAbs := by rw [a2]; exact Nat.le_mul_of_pos_right _ h0
 exact ⟨b1, by omega⟩
theorem aFH {x y : Int × Int} (hx : amI x 1000 100) (hy : amI y 1000 100) : amI (subP x y) 200000 10000 := by
 obtain ⟨b1, b2, b3⟩ := aEo hx hy
 obtain ⟨c1, c2⟩ := aQh (n := x.1 * y.2 - y.1 * x.2) b2
 exact ⟨aLL b2 (by omega) (by omega), by unfold subP; omega, by unfold subP; omega⟩
def aPI (k : Int × Int) (n : Int) : Int × Int := anY (k.1 * n) k.2
theorem aEK {k : Int × Int} (hk : amI k 200000 10000) {n : Int} (hn : -10000 ≤ n ∧ n ≤ 10000) : (k.1 * n).natAbs ≤ 2000000000 := by
 have := akJ hk.num hn
 omega
theorem aMz {n : Int} (hn : -10000 ≤ n ∧ n ≤ 10000) : aCU (n, 1) = true := by
 rw [ajq]
 exact ⟨by simp, by simp, by simp; omega, by simp⟩
theorem aUj {k : Int × Int} (hk : amI k 200000 10000) {n : Int} (hn : -10000 ≤ n ∧ n ≤ 10000) : aCf k (n, 1) = some (aPI k n, 0) := by
 have b := aEK hk hn
 have p := hk.pos
 have q := hk.den
 unfold aCf aMk
 rw [aPV hk.rat (aMz hn), ab3]
 rw [show ine (0 : Int) 0 = false from rfl, acM, acr (by simp only; omega) (by simp only; omega), Int.mul_one, acr (by omega) (by omega), aEv (by omega) (by simp only; omega) (by omega), ab3]
 rfl
theorem aF8 {k : Int × Int} (hk : amI k 200000 10000) {n : Int} (hn : -10000 ≤ n ∧ n ≤ 10000) : amI (aPI k n) 2000000000 10000 := by
 have b := aEK hk hn
 have p := hk.pos
 have q := hk.den
 obtain ⟨c1, c2⟩ := aQh (n := k.1 * n) (show 0 < k.2 by omega)
 exact ⟨aLL (by omega) (by omega) (by omega), by unfold aPI; omega, by unfold aPI; omega⟩
def cmpP (x y : Int × Int) : Int := if x = y then 0 else if x.1 * y.2 < y.1 * x.2 then -1 else if y.1 * x.2 < x.1 * y.2 then 1 else 0
theorem aUb {x y : Int × Int} {m d : Int} (hx : amI x m d) (hy : amI y m d) (hm : m ≤ 2000000000) (hd : d ≤ 10000) : aCd x y = some (cmpP x y) := by
 have h1 := akJ hx.num (show -d ≤ y.2 ∧ y.2 ≤ d from ⟨by have := hy.pos; have := hy.den; omega, hy.den⟩)
 have h2 := akJ hy.num (show -d ≤ x.2 ∧ x.2 ≤ d from ⟨by have := hx.pos; have := hx.den; omega, hx.den⟩)
 have h0 : 0 ≤ m ∧ 0 ≤ d := ⟨by have := hx.num; omega, by have := hx.pos; have := hx.den; omega⟩
 have h3 : m * d ≤ 2000000000 * 10000 := Int.mul_le_mul hm hd h0.2 (by omega)
 unfold aCd aMg cmpP
 rw [acr (by omega) (by omega), acr (by omega) (by omega)]
 simp only [adH, Bool.and_true, Bool.and_eq_true, decide_eq_true_eq, aeL, ilt, igt, gt_iff_lt]
 have : (x.1 = y.1 ∧ x.2 = y.2) ↔ x = y := ⟨fun h => Prod.ext h.1 h.2, fun h => by rw [h]; exact ⟨rfl, rfl⟩⟩
 simp only [this]
 (repeat' split) <;> rfl
def aON (k : Int × Int) (heat : Int × Int) : (Int × Int) × (Int × Int) :=
 if 0 < cmpP (aPI k heat.1) (aPI k heat.2) then (aPI k heat.2, aPI k heat.1) else (aPI k heat.1, aPI k heat.2)
theorem aUD {k heat : Int × Int} (hk : amI k 200000 10000) (hh : akC heat (-10000) 10000 = true) : ajA k heat = some (aON k heat) := by
 simp only [akC, Bool.and_eq_true, decide_eq_true_eq] at hh
 obtain ⟨h1, h2, h3⟩ := hh
 have n1 : -10000 ≤ heat.1 ∧ heat.1 ≤ 10000 := ⟨by omega, by omega⟩
 have n2 : -10000 ≤ heat.2 ∧ heat.2 ≤ 10000 := ⟨by omega, by omega⟩
 have r1 : amI (heat.1, 1) 10000 10000 := ⟨aMz n1, n1, by simp⟩
 have r2 : amI (heat.2, 1) 10000 10000 := ⟨aMz n2, n2, by simp⟩
 unfold ajA ank aCe aBp alL alE
 rw [aPV r1.rat r2.rat, ab3]
 have : ieq 0 0 = true := rfl
 rw [aco this, aUb r1 r2 (by omega) (by omega), ab3]
 have hc : ile (cmpP (heat.1, 1) (heat.2, 1)) 0 = true := by
  unfold cmpP
  simp only [ile, decide_eq_true_eq, Int.mul_one]
  split
  ·omega
  ·split
   ·omega
   ·rw [if_neg (by omega)]; omega
 rw [hc, ab3]
 simp only [Bool.not_true, acM]
 rw [aIf hk.i64, hk.rat, ab3]
 simp only [Bool.not_true, acM]
 rw [aUj hk n1, ab3, aUj hk n2, ab3]
 simp only [show ine (0 : Int) 0 = false from rfl, acM]
 rw [aUb (aF8 hk n1) (aF8 hk n2) (by omega) (by omega), ab3]
 unfold aON
 rw [adH]
 by_cases h : 0 < cmpP (aPI k heat.1) (aPI k heat.2)
 ·rw [if_pos h, if_pos (by simpa [igt] using h)]; rfl
 ·rw [if_neg h, if_neg (by simpa [igt] using h)]; rfl
def rateK (s : List (Int × acS)) (c : Cmp) : Int × Int := subP (ays s (ac6 c.2.2.1 c.2.2.2.1)) (ays s (ac6 c.2.2.2.1 c.2.2.1))
def adT (b : acw) (c : Cmp) : (Int × Int) × (Int × Int) := aON (rateK (ajX b) c) c.2.2.2.2.2.2
theorem aKD {b : acw} (hs : ahl b) {c : Cmp} (hA : c.2.2.1.length ≤ 1000) (hB : c.2.2.2.1.length ≤ 1000)
 (h1 : amI (ays (ajX b) (ac6 c.2.2.1 c.2.2.2.1)) 1000 100) (h2 : amI (ays (ajX b) (ac6 c.2.2.2.1 c.2.2.1)) 1000 100) (hh : akC c.2.2.2.2.2.2 (-10000) 10000 = true) : ajR b c = some (adT b c) := by
 unfold ajR awC
 rw [aEs hs.gauges, ab3, alI (by omega) (by omega), ab3, aIN, ab3, alI (by omega) (by omega), ab3, aIN, ab3]
 unfold anL anl
 rw [Sub_ok h1 h2, ab3, ab3]
 try dsimp only
 rw [aUD (aFH h1 h2) hh, ab3]
 rfl
def ahg (b : acw) (c : Cmp) : Int × Int :=
 (((c.2.2.1.length - 1 : Nat) : Int) * b.1.1 - ((c.2.2.2.1.length - 1 : Nat) : Int) * b.1.2, ((c.2.2.1.length - 1 : Nat) : Int) * b.1.2 - ((c.2.2.2.1.length - 1 : Nat) : Int) * b.1.1)
theorem aN5 {b : acw} {c : Cmp} (hA : c.2.2.1.length ≤ 1000) (hB : c.2.2.2.1.length ≤ 1000) (h1 : 0 ≤ b.1.1) (h2 : b.1.1 ≤ 1000000) (h3 : 0 ≤ b.1.2) (h4 : b.1.2 ≤ 1000000) : amC b c = some (ahg b c) := by
 unfold amC aBI ahg
 have e : ∀ n : Nat, aFe 0 ((n : Int) - 1) = ((n - 1 : Nat) : Int) := by
  intro n
  unfold aFe
  split <;> omega
 have bd : ∀ (n : Nat) (x : Int), n ≤ 1000 → 0 ≤ x → x ≤ 1000000 → 0 ≤ ((n - 1 : Nat) : Int) * x ∧ ((n - 1 : Nat) : Int) * x ≤ 1000000000 := by
  intro n x hn h0 hx
  refine ⟨Int.mul_nonneg (by omega) h0, ?_⟩
  have := Int.mul_le_mul (show ((n - 1 : Nat) : Int) ≤ 1000 by omega) hx h0 (by omega)
  omega
 have b1 := bd _ _ hA h1 h2
 have b2 := bd _ _ hA h3 h4
 have b3 := bd _ _ hB h1 h2
 have b4 := bd _ _ hB h3 h4
 simp only [acA]
 rw [acr (by omega) (by omega), acr (by omega) (by omega)]
 simp only [e]
 rw [acr (by omega) (by omega), acr (by omega) (by omega), acr (by omega) (by omega), acr (by omega) (by omega), acr (by omega) (by omega), acr (by omega) (by omega)]
theorem aN3 {n d : Int} (hd : 1 ≤ d) (hn : -4000000000 ≤ n ∧ n ≤ 4000000000) : apR n d = some (n / d) := by
 unfold apR aBk
 have z : aeL d 0 = false := by simp [aeL]; omega
 rw [acm z]
 have t := Int.mul_tdiv_add_tmod n d
 have b1 : -4000000000 ≤ Int.tdiv n d ∧ Int.tdiv n d ≤ 4000000000 := by
  have := Int.natAbs_tdiv_le_natAbs n d
  omega
 rw [acr (by omega) (by omega), acm z, adH]
 by_cases h : Int.tmod n d < 0
 ·rw [if_pos (by simpa [ilt] using h), acr (by omega) (by omega)]
  congr 1
  have h5 : -d < Int.tmod n d := by
   have h6 := Int.natAbs_tmod n d
   have h7 := Nat.mod_lt n.natAbs (show 0 < d.natAbs by omega)
   omega
  refine (Int.ediv_eq_iff_of_pos (by omega)).2 ⟨?_, ?_⟩ |>.symm
  ·rw [Int.sub_mul, Int.mul_comm]; omega
  ·rw [Int.sub_mul, Int.mul_comm (Int.tdiv n d)]; omega
 ·rw [if_neg (by simpa [ilt] using h)]
  congr 1
  have h5 : Int.tmod n d < d := by
   have h6 := Int.natAbs_tmod n d
   have h7 := Nat.mod_lt n.natAbs (show 0 < d.natAbs by omega)
   omega
  refine (Int.ediv_eq_iff_of_pos (by omega)).2 ⟨?_, ?_⟩ |>.symm
  ·rw [Int.mul_comm]; omega
  ·rw [Int.mul_comm (Int.tdiv n d)]; omega
theorem aTY {x : Int × Int} (hx : aCU x = true) : agP [x] = some 0 := by
 rw [aNi]
 ·simp [hx]
 ·intro r hr
  have : aCU r = true := by simp at hr; subst hr; assumption
  have := ((ajq r).1 this).2.2.1
  exact ⟨by omega, by omega⟩
 ·simp
def aCt (r : Int × Int) : Int := -(-r.1 / r.2)
theorem aOw {r : Int × Int} (h : aCU r = true) : apS r = some (r.1 / r.2, 0) := by
 unfold apS aBs
 have := (ajq r).1 h
 rw [aTY h, ab3]
 rw [show ine (0 : Int) 0 = false from rfl, acM, aN3 (by omega) (by omega), ab3]
theorem aw0 {n d : Int} (hd : 1 ≤ d) : (n / d).natAbs ≤ n.natAbs := by
 exact Int.natAbs_ediv_le_natAbs n d
theorem aSi {r : Int × Int} (h : aCU r = true) : avk r = some (aCt r, 0) := by
 unfold avk aG4 aCt
 have := (ajq r).1 h
 rw [aTY h, ab3]
 rw [show ine (0 : Int) 0 = false from rfl, acM, acr (by omega) (by omega), aN3 (by omega) (by omega), ab3]
 have hb := aw0 (n := 0 - r.1) (show 1 ≤ r.2 by omega)
 rw [acr (by omega) (by omega), Int.zero_sub, Int.zero_sub]
def afn (b : acw) (c : Cmp) : Int × Int :=
 (c.2.2.2.2.1 - c.2.2.2.2.2.1 - (ahg b c).2 - (adT b c).2.1 / (adT b c).2.2, c.2.2.2.2.1 + c.2.2.2.2.2.1 - (ahg b c).1 - aCt (adT b c).1)
end Go.Proofs.ZzM
end
noncomputable section
namespace Go.Proofs.ZzM
open Go Go.Am
structure ads (b : acw) : Prop where
 film : 0 ≤ b.1.1 ∧ b.1.1 ≤ b.1.2 ∧ b.1.2 ≤ 1000000
 nG : b.2.1.length ≤ 12
 nU : b.2.2.1.length ≤ 40
 nL : b.2.2.2.1.length ≤ 12
 nC : b.2.2.2.2.1.length ≤ 40
 nK : b.2.2.2.2.2.length ≤ 10
 gauge : ∀ g ∈ b.2.1, arC g = true
 ids : b.2.1.Pairwise fun a b => a.1 < b.1
 uses : ∀ u ∈ b.2.2.1, aSv (ajX b) u.1 u.2 = 0
 loans : ∀ i l, b.2.2.2.1[i]? = some l → aMx b (ajX b) i l = 0
 compares : ∀ i c, b.2.2.2.2.1[i]? = some c → aqw b (ajX b) i c = 0
 looks : ∀ u ∈ b.2.2.2.2.2, aSv (ajX b) u.1 u.2 = 0
 nodes : (acd b).length ≤ 59
 links : 2 * (acd b).length + 2 * b.2.2.2.2.1.length ≤ 300
theorem aBZ (b : acw) : ajh b = 0 ↔ (∀ g ∈ b.2.1, arC g = true) ∧ b.2.1.Pairwise fun a b => a.1 < b.1 := by
 have h0 : aeQ (apJ b.2.1) 0 b.2.1 = none ↔ (∀ g ∈ b.2.1, arC g = true) ∧ b.2.1.Pairwise fun a b => a.1 < b.1 := by
  rw [air, ← aOk (fun g : acS => g.1) b.2.1]
  constructor
  ·intro h
   have h1 : ∀ (j : Nat) (a : acS), b.2.1[j]? = some a → arC a = true ∧ aCF (fun g : acS => g.1) b.2.1 j a = false := by
    intro j a ha
    have := h j a ha
    rw [Nat.zero_add] at this
    unfold apJ at this
    split at this
    ·cases this
    ·split at this
     ·cases this
     ·rename_i h1 h2
      exact ⟨by simpa using h1, by simpa using h2⟩
   refine ⟨fun x hx => ?_, fun i a ha => (h1 i a ha).2⟩
   obtain ⟨j, hj, rfl⟩ := List.mem_iff_getElem.1 hx
   exact (h1 j _ (List.getElem?_eq_getElem hj)).1
  ·rintro ⟨h1, h2⟩ j a ha
   rw [Nat.zero_add]
   simp [apJ, h1 a (List.mem_of_getElem? ha), h2 j a ha]
 rw [← h0]
 unfold ajh
 cases h : aeQ (apJ b.2.1) 0 b.2.1 with
 | none => simp
 | some e =>
   have : ∀ (m : List acS) (j : Nat) (x : Int), aeQ (apJ b.2.1) j m = some x → x ≠ 0 := by
    intro m
    induction m with
    | nil => intro j x h; cases h
    | cons a m ih =>
      intro j x h
      unfold aeQ at h
      cases hp : apJ b.2.1 j a with
      | none => rw [hp] at h; exact ih _ _ h
      | some y =>
        rw [hp] at h
        cases h
        unfold apJ at hp
        split at hp
        ·cases hp; omega
        ·split at hp
         ·cases hp; omega
         ·cases hp
   simp [this _ _ _ h]
theorem acv (b : acw) : acz b = 0 ↔ ads b := by
 unfold acz
 constructor
 ·intro h
  split at h
  ·omega
  rename_i h1
  (repeat' split at h) <;> try omega
  ·rename_i hg
   have hg' : ajh b ≠ 0 := by simpa using hg
   exact (hg' h).elim
  ·rename_i hf
   have := List.find?_some hf
   rename_i e
   simp at this
   exact (this h).elim
  ·rename_i hn1 hn2 hn3 hn4 hn5 hg e hf hn6 hn7
   have hg0 : ajh b = 0 := by simpa using hg
   obtain ⟨g1, g2⟩ := (aBZ b).1 hg0
   have hall : ∀ x ∈ axq b (ajX b), x = 0 := fun x hx => by
    have := List.find?_eq_none.1 hf x hx
    simpa using this
   simp only [axq, List.mem_append] at hall
   have hs : akC b.1 0 1000000 = true := by simpa using h1
   simp only [akC, Bool.and_eq_true, decide_eq_true_eq] at hs
   refine ⟨⟨hs.1, hs.2.1, hs.2.2⟩, by omega, by omega, by omega, by omega, by omega, g1, g2, fun u hu => hall _ (.inl (List.mem_map.2 ⟨u, hu, rfl⟩)), fun i l hl => ?_, fun i c hc => ?_, fun u hu => hall _ (.inr (.inr (.inr (List.mem_map.2 ⟨u, hu, rfl⟩)))), by omega, by omega⟩
   ·obtain ⟨hi, rfl⟩ := List.getElem?_eq_some_iff.1 hl
    exact hall _ (.inr (.inl (List.mem_mapIdx.2 ⟨i, hi, rfl⟩)))
   ·obtain ⟨hi, rfl⟩ := List.getElem?_eq_some_iff.1 hc
    exact hall _ (.inr (.inr (.inl (List.mem_mapIdx.2 ⟨i, hi, rfl⟩))))
 ·intro h
  have hs : akC b.1 0 1000000 = true := by simp [akC, h.film.1, h.film.2.1, h.film.2.2]
  have hg : ajh b = 0 := (aBZ b).2 ⟨h.gauge, h.ids⟩
  have hall : (axq b (ajX b)).find? (fun e => e != 0) = none := by
   rw [List.find?_eq_none]
   intro x hx
   simp only [axq, List.mem_append, List.mem_map, List.mem_mapIdx] at hx
   have : x = 0 := by
    rcases hx with ⟨u, hu, rfl⟩ | ⟨i, hi, rfl⟩ | ⟨i, hi, rfl⟩ | ⟨u, hu, rfl⟩
    ·exact h.uses u hu
    ·exact h.loans i _ (List.getElem?_eq_getElem hi)
    ·exact h.compares i _ (List.getElem?_eq_getElem hi)
    ·exact h.looks u hu
   simp [this]
  have := h.nG; have := h.nU; have := h.nL; have := h.nC; have := h.nK; have := h.nodes; have := h.links
  rw [hs, hg, hall]
  simp only [Bool.not_true, Bool.false_eq_true, if_false, bne_self_eq_false]
  rw [if_neg (by omega), if_neg (by omega), if_neg (by omega), if_neg (by omega), if_neg (by omega), if_neg (by omega), if_neg (by omega)]
section
variable {b : acw}
theorem ae0 {l : List Int} (h : ajr l = true) : l.length ≤ 6 := ((aIU l).1 h).2.2
theorem ads.nums (h : ads b) {c : Cmp} (hc : c ∈ b.2.2.2.2.1) : aOS c = true := by
 obtain ⟨i, hi, rfl⟩ := List.mem_iff_getElem.1 hc
 have := h.compares i _ (List.getElem?_eq_getElem hi)
 unfold aqw at this
 split at this
 ·omega
 ·rename_i h; simpa using h
theorem ads.pilesOf (h : ads b) {c : Cmp} (hc : c ∈ b.2.2.2.2.1) : axp b (ajX b) c = 0 := by
 obtain ⟨i, hi, rfl⟩ := List.mem_iff_getElem.1 hc
 have := h.compares i _ (List.getElem?_eq_getElem hi)
 unfold aqw at this
 split at this
 ·omega
 ·split at this
  ·omega
  ·exact this
theorem ahv (c : Cmp) : aOS c = true ↔ (1 ≤ c.1 ∧ c.1 ≤ 1099511627776) ∧ (0 ≤ c.2.1 ∧ c.2.1 ≤ 20000) ∧ (-1125899906842624 ≤ c.2.2.2.2.1 ∧ c.2.2.2.2.1 ≤ 1125899906842624) ∧ (0 ≤ c.2.2.2.2.2.1 ∧ c.2.2.2.2.2.1 ≤ 1073741824) ∧ akC c.2.2.2.2.2.2 (-10000) 10000 = true ∧ ajr c.2.2.1 = true ∧ ajr c.2.2.2.1 = true := by
 simp [aOS, inP, aMK, and_assoc]
theorem ads.size (h : ads b) : ahl b := by
 have h1 := h.nG; have h2 := h.nU; have h3 := h.nL; have h4 := h.nC; have h5 := h.nK
 refine ⟨by omega, by omega, by omega, by omega, by omega, fun c hc => ?_⟩
 have := (ahv c).1 (h.nums hc)
 have a := ae0 this.2.2.2.2.2.1
 have b := ae0 this.2.2.2.2.2.2
 omega
theorem aFi (g : acS) : arC g = true ↔ aCU g.2.2.2.2.1 = true ∧ (-1000 ≤ g.2.2.2.2.1.1 ∧ g.2.2.2.2.1.1 ≤ 1000) ∧ g.2.2.2.2.1.2 ≤ 100 ∧ (1 ≤ g.1 ∧ g.1 ≤ 1099511627776) ∧ (0 ≤ g.2.1 ∧ g.2.1 ≤ 20000) ∧ (1 ≤ g.2.2.1 ∧ g.2.2.1 ≤ 1125899906842624) ∧ (-1073741824 ≤ g.2.2.2.1.1 ∧ g.2.2.2.1.1 ≤ g.2.2.2.1.2 ∧ g.2.2.2.1.2 ≤ 1073741824) ∧ (0 ≤ g.2.2.2.2.2 ∧ g.2.2.2.2.2 ≤ 1048576) := by
 simp [arC, inP, aMK, akC, and_assoc]
theorem alg {id : Int} {g : acS} (h : ahM b id = some g) : g ∈ b.2.1 ∧ g.1 = id := by
 unfold ahM at h
 exact ⟨List.mem_of_find?_eq_some h, by simpa using List.find?_some h⟩
theorem asI (hi : b.2.1.Pairwise fun a b => a.1 < b.1) {g : acS} (hg : g ∈ b.2.1) : ahM b g.1 = some g := by
 unfold ahM
 induction hl : b.2.1 generalizing b with
 | nil => rw [hl] at hg; cases hg
 | cons a t ih =>
   rw [hl] at hg hi
   rw [List.pairwise_cons] at hi
   rw [List.find?_cons]
   rcases List.mem_cons.1 hg with rfl | hg
   ·simp
   ·have h1 := hi.1 g hg
    have : (a.1 == g.1) = false := by simp; omega
    rw [this]
    have := ih (b := (b.1, t, b.2.2)) hi.2 hg rfl
    exact this
theorem avQ (h : ads b) {id day : Int} (hm : alo (ajX b) id day = 0) : ∃ g, ahM b id = some g ∧ g.2.1 ≤ day := by
 unfold alo at hm
 rw [aEL h.ids] at hm
 split at hm
 ·rename_i g hg
  split at hm
  ·omega
  ·exact ⟨g, hg, by omega⟩
 ·omega
theorem aLX (s : List (Int × acS)) (id day : Int) : alo s id day = 0 ∨ alo s id day = 4 ∨ alo s id day = 5 := by
 unfold alo
 split
 ·split <;> simp
 ·simp
theorem ads.pile (h : ads b) {c : Cmp} (hc : c ∈ b.2.2.2.2.1) {x : Int} (hx : x ∈ c.2.2.1 ++ c.2.2.2.1) : (∃ g, ahM b x = some g ∧ g.2.1 ≤ c.2.1) ∧ ay5 b x c.2.1 = none := by
 have hp := h.pilesOf hc
 unfold axp at hp
 split at hp
 ·omega
 rename_i h5
 split at hp
 ·omega
 rename_i h4
 split at hp
 ·omega
 rename_i h9
 have a5 := (List.any_eq_false.1 (Bool.eq_false_iff.2 h5)) x hx
 have a4 := (List.any_eq_false.1 (Bool.eq_false_iff.2 h4)) x hx
 have a9 := (List.any_eq_false.1 (Bool.eq_false_iff.2 h9)) x hx
 simp at a5 a4 a9
 refine ⟨avQ h ?_, a9⟩
 rcases aLX (ajX b) x c.2.1 with h0 | h0 | h0
 ·exact h0
 ·exact (a4 h0).elim
 ·exact (a5 h0).elim
theorem ads.lefts (h : ads b) {c : Cmp} (hc : c ∈ b.2.2.2.2.1) : (ac6 c.2.2.1 c.2.2.2.1).length ≤ 1 ∧ (ac6 c.2.2.2.1 c.2.2.1).length ≤ 1 ∧ (ac6 c.2.2.1 c.2.2.2.1).length + (ac6 c.2.2.2.1 c.2.2.1).length ≠ 0 := by
 have hp := h.pilesOf hc
 unfold axp at hp
 (repeat' split at hp) <;> first | omega | exact ⟨by omega, by omega, by omega⟩
theorem aiZ {a c : List Int} {x : Int} : x ∈ ac6 a c ↔ x ∈ a ∧ x ∉ c := by
 simp [ac6]
theorem ads.rate (h : ads b) {p : List Int} (hp : ∀ x ∈ p, ∃ g, ahM b x = some g) : amI (ays (ajX b) p) 1000 100 := by
 unfold ays
 cases p with
 | nil =>
   have : amI (0, 1) 1000 100 := ⟨by decide, by decide, by decide⟩
   exact this
 | cons x t =>
   obtain ⟨g, hg⟩ := hp x (by simp)
   try dsimp only
   rw [aEL h.ids, hg]
   have := (aFi g).1 (h.gauge g (alg hg).1)
   exact ⟨this.1, this.2.1, this.2.2.1⟩
theorem ads.rates (h : ads b) {c : Cmp} (hc : c ∈ b.2.2.2.2.1) : amI (ays (ajX b) (ac6 c.2.2.1 c.2.2.2.1)) 1000 100 ∧ amI (ays (ajX b) (ac6 c.2.2.2.1 c.2.2.1)) 1000 100 := by
 constructor
 ·exact h.rate fun x hx => by
   obtain ⟨⟨g, hg, _⟩, _⟩ := h.pile hc (List.mem_append_left _ (aiZ.1 hx).1)
   exact ⟨g, hg⟩
 ·exact h.rate fun x hx => by
   obtain ⟨⟨g, hg, _⟩, _⟩ := h.pile hc (List.mem_append_right _ (aiZ.1 hx).1)
   exact ⟨g, hg⟩
theorem ads.growth (h : ads b) {c : Cmp} (hc : c ∈ b.2.2.2.2.1) : ajR b c = some (adT b c) := by
 obtain ⟨r1, r2⟩ := h.rates hc
 have hn := (ahv c).1 (h.nums hc)
 have a := ae0 hn.2.2.2.2.2.1
 have b := ae0 hn.2.2.2.2.2.2
 exact aKD h.size (by omega) (by omega) r1 r2 hn.2.2.2.2.1
theorem ads.films (h : ads b) {c : Cmp} (hA : c.2.2.1.length ≤ 1000) (hB : c.2.2.2.1.length ≤ 1000) : amC b c = some (ahg b c) := by
 have := h.film
 exact aN5 hA hB (by omega) (by omega) (by omega) (by omega)
theorem aF2 {k heat : Int × Int} (hk : amI k 200000 10000) (hh : akC heat (-10000) 10000 = true) : amI (aON k heat).1 2000000000 10000 ∧ amI (aON k heat).2 2000000000 10000 := by
 simp only [akC, Bool.and_eq_true, decide_eq_true_eq] at hh
 have r1 := aF8 hk (n := heat.1) ⟨by omega, by omega⟩
 have r2 := aF8 hk (n := heat.2) ⟨by omega, by omega⟩
 unfold aON
 split
 ·exact ⟨r2, r1⟩
 ·exact ⟨r1, r2⟩
theorem asO {c : Cmp} (hA : c.2.2.1.length ≤ 1000) (hB : c.2.2.2.1.length ≤ 1000) (h1 : 0 ≤ b.1.1) (h2 : b.1.1 ≤ 1000000) (h3 : 0 ≤ b.1.2) (h4 : b.1.2 ≤ 1000000) :
 (-1000000000 ≤ (ahg b c).1 ∧ (ahg b c).1 ≤ 1000000000) ∧ (-1000000000 ≤ (ahg b c).2 ∧ (ahg b c).2 ≤ 1000000000) := by
 have bd : ∀ (n : Nat) (x : Int), n ≤ 1000 → 0 ≤ x → x ≤ 1000000 → 0 ≤ ((n - 1 : Nat) : Int) * x ∧ ((n - 1 : Nat) : Int) * x ≤ 1000000000 := by
  intro n x hn h0 hx
  refine ⟨Int.mul_nonneg (by omega) h0, ?_⟩
  have := Int.mul_le_mul (show ((n - 1 : Nat) : Int) ≤ 1000 by omega) hx h0 (by omega)
  omega
 have b1 := bd _ _ hA h1 h2
 have b2 := bd _ _ hA h3 h4
 have b3 := bd _ _ hB h1 h2
 have b4 := bd _ _ hB h3 h4
 unfold ahg
 try dsimp only
 omega
theorem asL {r : Int × Int} (h : amI r 2000000000 10000) : -2000000000 ≤ r.1 / r.2 ∧ r.1 / r.2 ≤ 2000000000 := by
 have := aw0 (n := r.1) h.pos
 have := h.num
 omega
theorem aw6 {r : Int × Int} (h : amI r 2000000000 10000) : -2000000000 ≤ aCt r ∧ aCt r ≤ 2000000000 := by
 have := aw0 (n := -r.1) h.pos
 have := h.num
 unfold aCt
 omega
theorem ads.says (h : ads b) {c : Cmp} (hc : c ∈ b.2.2.2.2.1) : anK b c = some (afn b c) := by
 obtain ⟨r1, r2⟩ := h.rates hc
 have hn := (ahv c).1 (h.nums hc)
 have ha := ae0 hn.2.2.2.2.2.1
 have hb := ae0 hn.2.2.2.2.2.2
 have hf := h.film
 obtain ⟨g1, g2⟩ := aF2 (aFH r1 r2) hn.2.2.2.2.1
 have fb := asO (b := b) (c := c) (by omega) (by omega) (by omega) (by omega) (by omega) (by omega)
 have q1 : amI (adT b c).1 2000000000 10000 := g1
 have q2 : amI (adT b c).2 2000000000 10000 := g2
 have c1 := aw6 q1
 have c2 := asL q2
 unfold anK aG8 afn
 rw [h.growth hc, ab3, h.films (by omega) (by omega), ab3, aOw q2.rat, ab3, aSi q1.rat, ab3]
 try dsimp only
 have n3 := hn.2.2.1
 have n4 := hn.2.2.2.1
 rw [acr (by omega) (by omega), acr (by omega) (by omega), acr (by omega) (by omega), acr (by omega) (by omega), acr (by omega) (by omega), acr (by omega) (by omega)]
end
def adg (l : azD) (f t : Int) : Int := min l.2.1.2 (t - 1) - max l.2.1.1 f + 1
def adF (id f t : Int) : List azD → Int
 | [] => 0
 | l :: r => (if l.1 = id ∧ 0 < adg l f t then adg l f t * l.2.2 else 0) + adF id f t r
theorem apE (id f t : Int) : ∀ (x y : List azD), adF id f t (x ++ y) = adF id f t x + adF id f t y
 | [], y => by simp [adF]
 | l :: r, y => by
   simp only [List.cons_append, adF, apE id f t r y]
   omega
def af6 (b : acw) (id f t : Int) : List Int := (b.2.2.1.filter fun u => u.1 == id && inP u.2 f (t - 1)).map fun u => u.2
def ag6 (b : acw) (g : acS) (f t : Int) : Int := adF g.1 f t b.2.2.2.1 + (aLo (af6 b g.1 f t)).length * g.2.2.2.2.2
theorem awR (a c : Int) : aKx a c = min a c := by unfold aKx; split <;> omega
theorem aHK (a c : Int) : aFe a c = max a c := by unfold aFe; split <;> omega
theorem awJ {b : acw} (h : ads b) {l : azD} (hl : l ∈ b.2.2.2.1) : (0 ≤ l.2.1.1 ∧ l.2.1.1 ≤ l.2.1.2 ∧ l.2.1.2 ≤ 20000) ∧ (0 ≤ l.2.2 ∧ l.2.2 ≤ 1048576) := by
 obtain ⟨i, hi, rfl⟩ := List.mem_iff_getElem.1 hl
 have := h.loans i _ (List.getElem?_eq_getElem hi)
 unfold aMx at this
 split at this
 ·omega
 rename_i h1
 split at this
 ·omega
 rename_i h2
 simp only [Bool.not_eq_true', Bool.not_eq_false, akC, inP, Bool.and_eq_true, decide_eq_true_eq] at h1 h2
 exact ⟨h1, h2⟩
theorem aE2 {l : azD} (h : (0 ≤ l.2.1.1 ∧ l.2.1.1 ≤ l.2.1.2 ∧ l.2.1.2 ≤ 20000) ∧ (0 ≤ l.2.2 ∧ l.2.2 ≤ 1048576)) {f t : Int} (hf : 0 ≤ f) (hd : 0 < adg l f t) : 0 ≤ adg l f t * l.2.2 ∧ adg l f t * l.2.2 ≤ 20001 * 1048576 := by
 refine ⟨Int.mul_nonneg (by omega) h.2.1, Int.mul_le_mul ?_ h.2.2 h.2.1 (by omega)⟩
 unfold adg
 omega
theorem alH {id f t : Int} (hf : 0 ≤ f) : ∀ {x : List azD}, (∀ l ∈ x, (0 ≤ l.2.1.1 ∧ l.2.1.1 ≤ l.2.1.2 ∧ l.2.1.2 ≤ 20000) ∧ (0 ≤ l.2.2 ∧ l.2.2 ≤ 1048576)) → 0 ≤ adF id f t x ∧ adF id f t x ≤ x.length * (20001 * 1048576)
 | [], _ => by simp [adF]
 | l :: r, h => by
   have ih := alH (id := id) (t := t) hf (x := r) fun l hl => h l (by simp [hl])
   simp only [adF, List.length_cons, Int.natCast_succ, Int.add_mul, Int.one_mul]
   split
   ·rename_i hc
    have := aE2 (h l (by simp)) hf hc.2
    omega
   ·omega
theorem aUL {b : acw} (h : ads b) {g : acS} (hg : 0 ≤ g.2.2.2.2.2 ∧ g.2.2.2.2.2 ≤ 1048576) {f t : Int} (hf : 0 ≤ f ∧ f ≤ 100000) (ht : 0 ≤ t ∧ t ≤ 100000) : aqt b g f t = some (ag6 b g f t) := by
 have hL := h.nL
 have hU := h.nU
 have hlb : ∀ i, 0 ≤ adF g.1 f t (b.2.2.2.1.take i) ∧ adF g.1 f t (b.2.2.2.1.take i) ≤ 12 * (20001 * 1048576) := by
  intro i
  have h1 := alH (id := g.1) (t := t) hf.1 (x := b.2.2.2.1.take i) fun l hl => awJ h (List.mem_of_mem_take hl)
  have h2 : ((b.2.2.2.1.take i).length : Int) * (20001 * 1048576) ≤ 12 * (20001 * 1048576) := Int.mul_le_mul_of_nonneg_right (by rw [List.length_take]; omega) (by omega)
  omega
 unfold aqt aHg
 refine afs (fun x : Int × Int => ∃ i : Nat, i ≤ b.2.2.2.1.length ∧ x = (adF g.1 f t (b.2.2.2.1.take i), (i : Int))) (fun x => b.2.2.2.1.length - x.2.toNat) ?_ ⟨0, by omega, rfl⟩
 rintro x ⟨i, hi, rfl⟩
 rcases Nat.lt_or_ge i b.2.2.2.1.length with hlt | hge
 ·have hl : b.2.2.2.1[i]? = some b.2.2.2.1[i] := List.getElem?_eq_getElem hlt
  have hz := awJ h (List.mem_of_getElem? hl)
  refine .inr ⟨(adF g.1 f t (b.2.2.2.1.take (i + 1)), (i : Int) + 1), ⟨i + 1, hlt, by simp⟩, by simp; omega, fun kn => ?_⟩
  try dsimp only
  unfold ant
  have b1 := hlb i
  have b2 := hlb (i + 1)
  have e1 : adF g.1 f t (b.2.2.2.1.take (i + 1)) = adF g.1 f t (b.2.2.2.1.take i) + (if b.2.2.2.1[i].1 = g.1 ∧ 0 < adg b.2.2.2.1[i] f t then adg b.2.2.2.1[i] f t * b.2.2.2.1[i].2.2 else 0) := by
   rw [take_succ hl, apE]; simp [adF]
  rw [acp hlt, aci hl, acr (by omega) (by omega), awR, aHK, acr (by omega) (by omega), acr (by omega) (by omega)]
  rw [show min b.2.2.2.1[i].2.1.2 (t - 1) - max b.2.2.2.1[i].2.1.1 f + 1 = adg b.2.2.2.1[i] f t from rfl, adH]
  by_cases hid : b.2.2.2.1[i].1 = g.1
  ·rw [if_pos (by simpa [ieq] using hid), adH]
   by_cases hd : 0 < adg b.2.2.2.1[i] f t
   ·have lb := aE2 hz hf.1 hd
    rw [if_pos ⟨hid, hd⟩] at e1
    rw [if_pos (by simpa [igt] using hd), acr (by omega) (by omega), acr (by omega) (by omega), acj hlt (by omega), e1]
   ·rw [if_neg (fun hc => hd hc.2)] at e1
    rw [if_neg (by simpa [igt] using hd), acj hlt (by omega), e1, Int.add_zero]
  ·rw [if_neg (fun hc => hid hc.1)] at e1
   rw [if_neg (by simpa [ieq] using hid), acj hlt (by omega), e1, Int.add_zero]
 ·refine .inl fun kn => ?_
  have : i = b.2.2.2.1.length := by omega
  subst this
  try dsimp only
  unfold ant
  rw [acL, List.take_length]
  have hud : ∀ x : List (Int × Int), x.length ≤ 40 → ((x.filter fun u => u.1 == g.1 && inP u.2 f (t - 1)).map fun u => u.2).length ≤ 40 := by
   intro x hx
   rw [List.length_map]
   exact Nat.le_trans (List.length_filter_le _ _) hx
  refine adf b.2.2.1 (fun i => ((b.2.2.1.take i).filter fun u => u.1 == g.1 && inP u.2 f (t - 1)).map fun u => u.2) _ rfl (fun i u hi hu kn' => ?_) (fun kn' => ?_)
  ·try dsimp only
   unfold anr
   have hx := hud (b.2.2.1.take i) (by rw [List.length_take]; omega)
   rw [acp hi, aci hu, acr (by omega) (by omega), aeZ, ab3, acq (by simp only [List.length_singleton]; omega), Am.iff_true, acj hi (by omega), acj hi (by omega), take_succ hu, List.filter_append, List.map_append]
   cases h1 : (u.1 == g.1) with
   | false =>
     have : ieq u.1 g.1 = false := h1
     simp only [this, acM, List.filter_cons, h1, Bool.false_and, Bool.false_eq_true, if_false, List.filter_nil, List.map_nil, List.append_nil]
   | true =>
     have : ieq u.1 g.1 = true := h1
     rw [this]
     cases h2 : inP u.2 f (t - 1) with
     | false => simp only [ad6, acM, List.filter_cons, h1, h2, Bool.true_and, Bool.false_eq_true, if_false, List.filter_nil, List.map_nil, List.append_nil]
     | true => simp only [ad6, List.filter_cons, h1, h2, Bool.true_and, if_true, List.filter_nil, List.map_nil, List.map_cons]
  ·try dsimp only
   unfold anr
   rw [acL, List.take_length]
   rw [show ((b.2.2.1.filter fun u => u.1 == g.1 && inP u.2 f (t - 1)).map fun u => u.2) = af6 b g.1 f t from rfl]
   have h40 : (af6 b g.1 f t).length ≤ 40 := hud _ hU
   have hc40 : (aLo (af6 b g.1 f t)).length ≤ 40 := by
    have := aze (af6 b g.1 f t)
    omega
   have hm : 0 ≤ ((aLo (af6 b g.1 f t)).length : Int) * g.2.2.2.2.2 ∧ ((aLo (af6 b g.1 f t)).length : Int) * g.2.2.2.2.2 ≤ 40 * 1048576 :=
    ⟨Int.mul_nonneg (by omega) hg.1, Int.mul_le_mul (by omega) hg.2 hg.1 (by omega)⟩
   have b1 := hlb b.2.2.2.1.length
   rw [List.take_length] at b1
   dsimp only
   rw [acq (by omega), Am.iff_true, acq (by rw [aIB]; omega), Am.iff_true, aP7, acA, acr (by omega) (by omega), acr (by omega) (by omega)]
   rfl
end Go.Proofs.ZzM
end
noncomputable section
namespace Go.Proofs.ZzM
open Go Go.Am
abbrev Lk : Type := Int × Int × Int
inductive Wl (L : List Lk) (S : Int → Prop) : List Int → Int → Int → Prop
 | nil {v : Int} : S v → Wl L S [] v 0
 | step {vs : List Int} {u v m d : Int} : Wl L S vs u d → (u, v, m) ∈ L → Wl L S (u :: vs) v (d + m)
def Pot (L : List Lk) (p : Int → Int) : Prop := ∀ u v m, (u, v, m) ∈ L → p v ≤ p u + m
def InR (L : List Lk) (N : Nat) : Prop := ∀ l ∈ L, (0 ≤ l.1 ∧ l.1 < N) ∧ (0 ≤ l.2.1 ∧ l.2.1 < N)
section
variable {L : List Lk} {S : Int → Prop} {N : Nat} {p : Int → Int}
theorem Wl.cut (hp : Pot L p) {vs : List Int} {v d : Int} (h : Wl L S vs v d) : ∀ x ∈ vs, ∃ vs1 d1, Wl L S vs1 x d1 ∧ (x :: vs1) <:+ vs ∧ d1 + (p v - p x) ≤ d := by
 induction h with
 | nil h => intro x hx; cases hx
 | @step vs u v m d hw hl ih =>
   intro x hx
   have h1 := hp u v m hl
   rcases List.mem_cons.1 hx with rfl | hx
   ·exact ⟨vs, d, hw, List.suffix_refl _, by omega⟩
   ·obtain ⟨vs1, d1, g1, g2, g3⟩ := ih x hx
    exact ⟨vs1, d1, g1, g2.trans (List.suffix_cons _ _), by omega⟩
theorem Wl.simple (hp : Pot L p) {vs : List Int} {v d : Int} (h : Wl L S vs v d) : ∃ vs' d', Wl L S vs' v d' ∧ d' ≤ d ∧ (v :: vs').Nodup := by
 induction h with
 | nil h => exact ⟨[], 0, .nil h, Int.le_refl _, by simp⟩
 | @step vs u v m d hw hl ih =>
   obtain ⟨vs1, d1, g1, g2, g3⟩ := ih
   have hw1 := Wl.step g1 hl
   by_cases hv : v ∈ u :: vs1
   ·obtain ⟨vs2, d2, k1, k2, k3⟩ := hw1.cut hp v hv
    exact ⟨vs2, d2, k1, by omega, g3.sublist k2.sublist⟩
   ·exact ⟨u :: vs1, d1 + m, hw1, by omega, List.nodup_cons.2 ⟨hv, g3⟩⟩
theorem Wl.range (hL : InR L N) (hS : ∀ v, S v → 0 ≤ v ∧ v < N) {vs : List Int} {v d : Int} (h : Wl L S vs v d) : (0 ≤ v ∧ v < N) ∧ ∀ u ∈ vs, 0 ≤ u ∧ u < N := by
 induction h with
 | nil h => exact ⟨hS _ h, fun u hu => by cases hu⟩
 | @step vs u v m d hw hl ih =>
   refine ⟨(hL _ hl).2, fun w hw' => ?_⟩
   rcases List.mem_cons.1 hw' with rfl | h
   ·exact ih.1
   ·exact ih.2 w h
theorem aNA : ∀ (N : Nat) (l : List Int), l.Nodup → (∀ x ∈ l, 0 ≤ x ∧ x < N) → l.length ≤ N
 | 0, l, _, h => by
   cases l with
   | nil => simp
   | cons a l => have := h a (by simp); omega
 | N + 1, l, hn, h => by
   have h1 : (l.erase (N : Int)).length ≤ N := aNA N _ (hn.erase _) fun x hx => by
    have h2 := (hn.mem_erase_iff).1 hx
    have := h x h2.2
    have := h2.1
    omega
   have := List.length_erase (a := (N : Int)) (l := l)
   split at this <;> omega
theorem Wl.short (hL : InR L N) (hS : ∀ v, S v → 0 ≤ v ∧ v < N) {vs : List Int} {v d : Int} (h : Wl L S vs v d) (hn : (v :: vs).Nodup) : vs.length + 1 ≤ N := by
 have := h.range hL hS
 exact aNA N (v :: vs) hn fun x hx => by
  rcases List.mem_cons.1 hx with rfl | hx
  ·exact this.1
  ·exact this.2 x hx
def ayw (f : Lk → Bool) : List Lk → Int
 | [] => 0
 | l :: t => (if f l then min l.2.2 0 else 0) + ayw f t
theorem aQA (f : Lk → Bool) : ∀ L : List Lk, ayw (fun _ => true) L ≤ ayw f L
 | [] => Int.le_refl _
 | l :: t => by
   have := aQA f t
   simp only [ayw, if_true]
   split <;> omega
theorem amO (f : Lk → Bool) : ∀ L : List Lk, ayw f L ≤ 0
 | [] => Int.le_refl _
 | l :: t => by
   have := amO f t
   simp only [ayw]
   split <;> omega
theorem aNM {f : Lk → Bool} {l : Lk} (hf : f l = true) : ∀ {L : List Lk}, l ∈ L → ayw f L ≤ l.2.2
 | a :: t, h => by
   simp only [ayw]
   rcases List.mem_cons.1 h with rfl | h
   ·have := amO f t
    rw [if_pos hf]; omega
   ·have := aNM hf h
    split <;> omega
theorem aQz {f g : Lk → Bool} (h : ∀ l, f l = true → g l = false) : ∀ L : List Lk, ayw (fun l => f l || g l) L = ayw f L + ayw g L
 | [] => rfl
 | l :: t => by
   have ih := aQz h t
   simp only [ayw, ih]
   by_cases hf : f l = true
   ·simp [hf, h l hf]; omega
   ·have hf' : f l = false := by simpa using hf
    by_cases hg : g l = true
    ·simp [hf', hg]; omega
    ·simp [hf', hg]
theorem Wl.low {vs : List Int} {v d : Int} (h : Wl L S vs v d) : vs.Nodup → ayw (fun l => vs.contains l.1) L ≤ d := by
 induction h with
 | nil h => intro _; exact amO _ _
 | @step vs u v m d hw hl ih =>
   intro hn
   rw [List.nodup_cons] at hn
   have h1 := ih hn.2
   have h2 : ayw (fun l => l.1 == u) L ≤ m := aNM (f := fun l => l.1 == u) (l := (u, v, m)) (by simp) hl
   have h3 := aQz (f := fun l : Lk => l.1 == u) (g := fun l => vs.contains l.1) (fun l hf => by
    simp only [beq_iff_eq] at hf
    rw [hf]
    simpa using hn.1) L
   have h4 : (fun l : Lk => (u :: vs).contains l.1) = fun l => (l.1 == u) || vs.contains l.1 := by funext l; rw [List.contains_cons]
   rw [h4, h3]
   omega
def azi (L : List Lk) : Int := ayw (fun _ => true) L
theorem Wl.low' (hp : Pot L p) {vs : List Int} {v d : Int} (h : Wl L S vs v d) : azi L ≤ d := by
 obtain ⟨vs', d', h1, h2, h3⟩ := h.simple hp
 have := h1.low (List.nodup_cons.1 h3).2
 have := aQA (fun l => vs'.contains l.1) L
 unfold azi
 omega
theorem Wl.high {M : Int} (hM : ∀ l ∈ L, l.2.2 ≤ M) {vs : List Int} {v d : Int} (h : Wl L S vs v d) : d ≤ vs.length * M := by
 induction h with
 | nil h => simp
 | @step vs u v m d hw hl ih =>
   have := hM _ hl
   simp only [List.length_cons, Int.natCast_succ, Int.add_mul, Int.one_mul]
   simp only at this
   omega
theorem Wl.mono {S' : Int → Prop} (hS : ∀ v, S v → S' v) {vs : List Int} {v d : Int} (h : Wl L S vs v d) : Wl L S' vs v d := by
 induction h with
 | nil h => exact .nil (hS _ h)
 | step hw hl ih => exact .step ih hl
theorem Wl.pot (hp : Pot L p) {vs : List Int} {v d : Int} (h : Wl L S vs v d) : ∃ s, S s ∧ p v - p s ≤ d := by
 induction h with
 | @nil v h => exact ⟨v, h, by omega⟩
 | @step vs u v m d hw hl ih =>
   obtain ⟨s, h1, h2⟩ := ih
   have := hp u v m hl
   exact ⟨s, h1, by omega⟩
end
abbrev aff : Int := 1152921504606846976
structure aPM (L : List Lk) (S : Int → Prop) (N : Nat) (x : Int → Int) : Prop where
 att : ∀ v : Int, 0 ≤ v → v < N → x v ≠ aff → ∃ vs, Wl L S vs v (x v)
 low : ∀ v vs d, Wl L S vs v d → x v ≤ d
 bd : ∀ v : Int, 0 ≤ v → v < N → x v ≤ aff
theorem aPM.uniq {L : List Lk} {S : Int → Prop} {N : Nat} {x y : Int → Int} (hx : aPM L S N x) (hy : aPM L S N y) {v : Int} (h0 : 0 ≤ v) (h1 : v < N) : x v = y v := by
 have key : ∀ {x y : Int → Int}, aPM L S N x → aPM L S N y → x v ≤ y v := by
  intro x y hx hy
  by_cases h : y v = aff
  ·rw [h]; exact hx.bd v h0 h1
  ·obtain ⟨vs, hw⟩ := hy.att v h0 h1 h
   exact hx.low v vs _ hw
 exact Int.le_antisymm (key hx hy) (key hy hx)
def gv (x : List Int) (v : Int) : Int := x[v.toNat]?.getD 0
theorem aKB {x : List Int} {v : Int} (h : v.toNat < x.length) : x[v.toNat]? = some (gv x v) := by
 unfold gv; rw [List.getElem?_eq_getElem h]; rfl
theorem apI {x : List Int} {u v : Int} (hu : 0 ≤ u) (hv : 0 ≤ v) (h : u.toNat < x.length) (y : Int) : gv (x.set u.toNat y) v = if v = u then y else gv x v := by
 unfold gv
 rw [List.getElem?_set]
 by_cases hvu : v = u
 ·subst hvu; simp [h]
 ·have : ¬ u.toNat = v.toNat := by omega
  simp [hvu, this]
theorem aNY {x y : List Int} (hl : x.length = y.length) (h : ∀ v : Int, 0 ≤ v → v < x.length → gv x v = gv y v) : x = y := by
 refine List.ext_getElem hl fun i h1 h2 => ?_
 have := h i (by omega) (by omega)
 unfold gv at this
 simpa [h1, h2] using this
def ahZ (x : List Int) (l : Lk) : List Int := if gv x l.1 < aff ∧ gv x l.1 + l.2.2 < gv x l.2.1 then x.set l.2.1.toNat (gv x l.1 + l.2.2) else x
def ayu (L : List Lk) (x : List Int) : List Int := L.foldl ahZ x
def ahu (L : List Lk) : Nat → List Int → List Int
 | 0, x => x
 | n + 1, x => ahu L n (ayu L x)
theorem ajp (x : List Int) (l : Lk) : (ahZ x l).length = x.length := by unfold ahZ; split <;> simp
theorem aoH (L : List Lk) : ∀ x : List Int, (ayu L x).length = x.length := by
 induction L with
 | nil => intro x; rfl
 | cons l t ih => intro x; show (ayu t (ahZ x l)).length = _; rw [ih, ajp]
theorem ad4 (L : List Lk) : ∀ (n : Nat) (x : List Int), (ahu L n x).length = x.length
 | 0, x => rfl
 | n + 1, x => by rw [ahu, ad4 L n, aoH]
theorem arT (L : List Lk) : ∀ (n : Nat) (x : List Int), ahu L (n + 1) x = ayu L (ahu L n x)
 | 0, x => rfl
 | n + 1, x => by rw [ahu, arT L n]; rfl
section
variable {L0 : List Lk} {S : Int → Prop} {N : Nat}
theorem aIM {x : List Int} {l : Lk} (hl : (0 ≤ l.1 ∧ l.1 < N) ∧ (0 ≤ l.2.1 ∧ l.2.1 < N)) (hx : x.length = N) (v : Int) (hv : 0 ≤ v) : gv (ahZ x l) v ≤ gv x v := by
 unfold ahZ
 split
 ·rename_i h
  rw [apI hl.2.1 hv (by omega)]
  split
  ·rename_i h2; subst h2; omega
  ·exact Int.le_refl _
 ·exact Int.le_refl _
theorem as4 : ∀ {L : List Lk}, InR L N → ∀ {x : List Int}, x.length = N → ∀ v, 0 ≤ v → gv (ayu L x) v ≤ gv x v
 | [], _, x, _, v, _ => Int.le_refl _
 | l :: t, hL, x, hx, v, hv => by
   have h1 := aIM (hL l (by simp)) hx v hv
   have h2 := as4 (L := t) (fun l hl => hL l (by simp [hl])) (x := ahZ x l) (by rw [ajp, hx]) v hv
   show gv (ayu t (ahZ x l)) v ≤ _
   omega
theorem avJ : ∀ {L : List Lk}, InR L N → ∀ {x : List Int}, x.length = N → ∀ u v m, (u, v, m) ∈ L → gv x u < aff → gv (ayu L x) v ≤ gv x u + m
 | l :: t, hL, x, hx, u, v, m, hm, hf => by
   have ht : InR t N := fun l hl => hL l (by simp [hl])
   have hx' : (ahZ x l).length = N := by rw [ajp, hx]
   show gv (ayu t (ahZ x l)) v ≤ _
   rcases List.mem_cons.1 hm with rfl | hm
   ·have hl := hL (u, v, m) (by simp)
    have h2 := as4 ht hx' v hl.2.1
    have h3 : gv (ahZ x (u, v, m)) v ≤ gv x u + m := by
     unfold ahZ
     split
     ·rw [apI hl.2.1 hl.2.1 (by simp only at hl; simp only; omega), if_pos rfl]; exact Int.le_refl _
     ·rename_i h; simp only [not_and, Int.not_lt] at h; exact h hf
    omega
   ·have hl := hL (u, v, m) (by simp [hm])
    have h1 := aIM (hL l (by simp)) hx u hl.1.1
    have := avJ ht hx' u v m hm (by omega)
    omega
def Att (L0 : List Lk) (S : Int → Prop) (N : Nat) (x : List Int) : Prop := ∀ v : Int, 0 ≤ v → v < N → gv x v < aff → ∃ vs, Wl L0 S vs v (gv x v)
theorem aOL {x : List Int} {l : Lk} (hl : (0 ≤ l.1 ∧ l.1 < N) ∧ (0 ≤ l.2.1 ∧ l.2.1 < N)) (hm : l ∈ L0) (hx : x.length = N) (h : Att L0 S N x) : Att L0 S N (ahZ x l) := by
 unfold ahZ
 split
 ·rename_i hc
  intro v h0 h1 hf
  rw [apI hl.2.1 h0 (by omega)] at hf ⊢
  split
  ·rename_i h2
   obtain ⟨vs, hw⟩ := h l.1 hl.1.1 hl.1.2 hc.1
   exact ⟨_, h2 ▸ Wl.step hw hm⟩
  ·rename_i h2
   rw [if_neg h2] at hf
   exact h v h0 h1 hf
 ·exact h
theorem aIX : ∀ {L : List Lk}, InR L N → (∀ l ∈ L, l ∈ L0) → ∀ {x : List Int}, x.length = N → Att L0 S N x → Att L0 S N (ayu L x)
 | [], _, _, _, _, h => h
 | l :: t, hL, hsub, x, hx, h => aIX (L := t) (fun l hl => hL l (by simp [hl])) (fun l hl => hsub l (by simp [hl])) (x := ahZ x l) (by rw [ajp, hx]) (aOL (hL l (by simp)) (hsub l (by simp)) hx h)
theorem aEz (hL : InR L0 N) : ∀ (n : Nat) {x : List Int}, x.length = N → Att L0 S N x → Att L0 S N (ahu L0 n x)
 | 0, _, _, h => h
 | n + 1, x, hx, h => aEz hL n (by rw [aoH, hx]) (aIX hL (fun _ h => h) hx h)
theorem as3 (hL : InR L0 N) : ∀ (n : Nat) {x : List Int}, x.length = N → ∀ v, 0 ≤ v → gv (ahu L0 n x) v ≤ gv x v
 | 0, _, _, _, _ => Int.le_refl _
 | n + 1, x, hx, v, hv => Int.le_trans (as3 hL n (by rw [aoH, hx]) v hv) (as4 hL hx v hv)
def amK (S : Int → Bool) (N : Nat) : List Int := (List.range N).map fun (i : Nat) => if S i then 0 else aff
theorem af8 (S : Int → Bool) {N : Nat} {v : Int} (h0 : 0 ≤ v) (h1 : v < N) : gv (amK S N) v = if S v then 0 else aff := by
 unfold gv amK
 have : v.toNat < N := by omega
 rw [List.getElem?_map, List.getElem?_range this]
 simp only [Option.map_some, Option.getD_some]
 rw [Int.toNat_of_nonneg h0]
theorem acX (S : Int → Bool) (N : Nat) : (amK S N).length = N := by simp [amK]
end
theorem avI {L : List Lk} {S : Int → Bool} {N : Nat} {M : Int} (hL : InR L N) (hS : ∀ v, S v = true → 0 ≤ v ∧ v < N) (hM : ∀ l ∈ L, l.2.2 ≤ M) : ∀ (n : Nat), n * M < aff → 0 ≤ M → ∀ vs v d, Wl L (fun v => S v = true) vs v d → vs.length ≤ n → gv (ahu L n (amK S N)) v ≤ d
 | 0, _, _, vs, v, d, hw, hl => by
   cases hw with
   | nil h =>
     have := hS v h
     rw [ahu, af8 S this.1 this.2, if_pos h]; exact Int.le_refl _
   | step => simp at hl
 | n + 1, hn, hM0, vs, v, d, hw, hl => by
   have hn' : n * M < aff := by rw [Int.natCast_succ, Int.add_mul, Int.one_mul] at hn; omega
   have hlen : (ahu L n (amK S N)).length = N := by rw [ad4, acX]
   rw [arT]
   cases hw with
   | nil h =>
     have h1 := as4 hL hlen v (hS v h).1
     have h2 := avI hL hS hM n hn' hM0 [] v 0 (.nil h) (by simp)
     omega
   | @step vs u _ m d hw hlk =>
     have h2 := avI hL hS hM n hn' hM0 vs u d hw (by simpa using hl)
     have h3 := hw.high hM
     have h4 : (vs.length : Int) * M ≤ n * M := Int.mul_le_mul_of_nonneg_right (by simp at hl; omega) hM0
     have := avJ hL hlen u v m hlk (by omega)
     omega
theorem az2 {L : List Lk} {S : Int → Bool} {N : Nat} {M : Int} {p : Int → Int} (hp : Pot L p) (hL : InR L N) (hS : ∀ v, S v = true → 0 ≤ v ∧ v < N) (hM : ∀ l ∈ L, l.2.2 ≤ M) (hM0 : 0 ≤ M) (hN : N * M < aff) (n : Nat) (hn : N ≤ n + 1) : aPM L (fun v => S v = true) N (gv (ahu L n (amK S N))) := by
 have hatt : Att L (fun v => S v = true) N (amK S N) := fun v h0 h1 hf => by
  rw [af8 S h0 h1] at hf ⊢
  split
  ·rename_i h; exact ⟨[], .nil h⟩
  ·rename_i h; rw [if_neg h] at hf; omega
 have hbd : ∀ v : Int, 0 ≤ v → v < N → gv (ahu L n (amK S N)) v ≤ aff := fun v h0 h1 => by
  have := as3 hL n (acX S N) v h0
  rw [af8 S h0 h1] at this
  have hF : (0 : Int) ≤ aff := by decide
  split at this <;> omega
 have hlow : ∀ (n : Nat), N ≤ n + 1 → ∀ v vs d, Wl L (fun v => S v = true) vs v d → gv (ahu L n (amK S N)) v ≤ d := by
  intro n hn v vs d hw
  obtain ⟨vs', d', h1, h2, h3⟩ := hw.simple hp
  have h4 := h1.short hL hS h3
  have hpos : 0 < N := by omega
  obtain ⟨k, rfl⟩ : ∃ k, N = k + 1 := ⟨N - 1, by omega⟩
  have hk : (k : Int) * M < aff := by rw [Int.natCast_succ, Int.add_mul, Int.one_mul] at hN; omega
  have h5 := avI hL hS hM k hk hM0 vs' v d' h1 (by omega)
  obtain ⟨j, rfl⟩ : ∃ j, n = k + j := ⟨n - k, by omega⟩
  have h6 : ∀ (j : Nat), gv (ahu L (k + j) (amK S (k + 1))) v ≤ gv (ahu L k (amK S (k + 1))) v := by
   intro j
   induction j with
   | zero => exact Int.le_refl _
   | succ j ih =>
     rw [← Nat.add_assoc, arT]
     have := as4 hL (x := ahu L (k + j) (amK S (k + 1))) (by rw [ad4, acX]) v (h1.range hL hS).1.1
     omega
  have := h6 j
  omega
 exact ⟨fun v h0 h1 hne => aEz hL n (acX S N) hatt v h0 h1 (by have := hbd v h0 h1; omega), hlow n hn, hbd⟩
theorem aPM.pot {L : List Lk} {S : Int → Prop} {N : Nat} {x : Int → Int} (h : aPM L S N x) (hL : InR L N) {u v m : Int} (hl : (u, v, m) ∈ L) (hf : x u ≠ aff) : x v ≤ x u + m := by
 obtain ⟨vs, hw⟩ := h.att u (hL _ hl).1.1 (hL _ hl).1.2 hf
 exact h.low v _ _ (.step hw hl)
end Go.Proofs.ZzM
end
noncomputable section
namespace Go.Proofs.ZzM
open Go Go.Am
def adt (b : acw) (g : acS) : List Lk :=
 [(0, atP (acd b) [g.1] g.2.1, g.2.2.1 + g.2.2.2.1.2), (atP (acd b) [g.1] g.2.1, 0, -(g.2.2.1 + g.2.2.2.1.1))] ++
 (List.range ((acB b g).length - 1)).flatMap fun (k : Nat) => [(atP (acd b) [g.1] g.2.1 + k, atP (acd b) [g.1] g.2.1 + k + 1, 0), (atP (acd b) [g.1] g.2.1 + k + 1, atP (acd b) [g.1] g.2.1 + k, ag6 b g ((acB b g)[k]?.getD 0) ((acB b g)[k + 1]?.getD 0))]
def cx (b : acw) (c : Cmp) : Int := atP (acd b) (ac6 c.2.2.1 c.2.2.2.1) c.2.1
def cy (b : acw) (c : Cmp) : Int := atP (acd b) (ac6 c.2.2.2.1 c.2.2.1) c.2.1
def ac3 (b : acw) (c : Cmp) : List Lk := [(cy b c, cx b c, (afn b c).2), (cx b c, cy b c, -(afn b c).1)]
def acn (b : acw) : List Lk := b.2.1.flatMap (adt b) ++ b.2.2.2.2.1.flatMap (ac3 b)
def adC (b : acw) (i : Nat) (g : acS) : List (Int × Int) := [(1, (i : Int)), (1, (i : Int))] ++ (List.range ((acB b g).length - 1)).flatMap fun _ => [(2, (i : Int)), (2, (i : Int))]
def aeq (b : acw) : List (Int × Int) := (b.2.1.mapIdx (adC b)).flatten ++ (b.2.2.2.2.1.mapIdx fun i _ => [(3, (i : Int)), (3, (i : Int))]).flatten
section
variable {b : acw}
theorem aPW (h : ads b) {id day : Int} (hu : aSv (ajX b) id day = 0) : (0 ≤ day ∧ day ≤ 20000) ∧ ∃ g, ahM b id = some g ∧ g.2.1 ≤ day := by
 unfold aSv at hu
 split at hu
 ·omega
 ·rename_i hd
  simp only [Bool.not_eq_true', Bool.not_eq_false, aMK, inP, Bool.and_eq_true, decide_eq_true_eq] at hd
  exact ⟨hd, avQ h hu⟩
theorem ai5 {g : acS} {d : Int} : d ∈ acB b g ↔ d = g.2.1 ∨ (∃ c ∈ b.2.2.2.2.1, (c.2.2.1.contains g.1) ≠ (c.2.2.2.1.contains g.1) ∧ c.2.1 = d) ∨ (∃ n ∈ b.2.2.2.2.2, n.1 = g.1 ∧ n.2 = d) := by
 unfold acB
 rw [ap9, aHV]
 simp only [List.mem_append, List.mem_singleton, List.mem_map, List.mem_filter]
 constructor
 ·rintro ((h | ⟨c, ⟨h1, h2⟩, h3⟩) | ⟨n, ⟨h1, h2⟩, h3⟩)
  ·exact .inl h
  ·exact .inr (.inl ⟨c, h1, by simpa using h2, h3⟩)
  ·exact .inr (.inr ⟨n, h1, by simpa using h2, h3⟩)
 ·rintro (h | ⟨c, h1, h2, h3⟩ | ⟨n, h1, h2, h3⟩)
  ·exact .inl (.inl h)
  ·exact .inl (.inr ⟨c, ⟨h1, by simpa using h2⟩, h3⟩)
  ·exact .inr ⟨n, ⟨h1, by simpa using h2⟩, h3⟩
theorem ads.gaugeR (h : ads b) {g : acS} (hg : g ∈ b.2.1) : aCU g.2.2.2.2.1 = true ∧ (-1000 ≤ g.2.2.2.2.1.1 ∧ g.2.2.2.2.1.1 ≤ 1000) ∧ g.2.2.2.2.1.2 ≤ 100 ∧ (1 ≤ g.1 ∧ g.1 ≤ 1099511627776) ∧ (0 ≤ g.2.1 ∧ g.2.1 ≤ 20000) ∧ (1 ≤ g.2.2.1 ∧ g.2.2.1 ≤ 1125899906842624) ∧ (-1073741824 ≤ g.2.2.2.1.1 ∧ g.2.2.2.1.1 ≤ g.2.2.2.1.2 ∧ g.2.2.2.1.2 ≤ 1073741824) ∧ (0 ≤ g.2.2.2.2.2 ∧ g.2.2.2.2.2 ≤ 1048576) := (aFi g).1 (h.gauge g hg)
theorem ads.day (h : ads b) {g : acS} (hg : g ∈ b.2.1) {d : Int} (hd : d ∈ acB b g) : g.2.1 ≤ d ∧ 0 ≤ d ∧ d ≤ 20000 := by
 have hr := h.gaugeR hg
 have hgo := asI h.ids hg
 rcases ai5.1 hd with rfl | ⟨c, hc, h1, rfl⟩ | ⟨n, hn, h1, rfl⟩
 ·have := hr.2.2.2.2.1; omega
 ·have hn := (ahv c).1 (h.nums hc)
  have hx : g.1 ∈ c.2.2.1 ++ c.2.2.2.1 := by
   rw [List.mem_append]
   by_cases h2 : g.1 ∈ c.2.2.1
   ·exact .inl h2
   ·refine .inr ?_
    have e1 : c.2.2.1.contains g.1 = false := by simpa using h2
    rw [e1] at h1
    have : c.2.2.2.1.contains g.1 = true := by cases hh : c.2.2.2.1.contains g.1 <;> simp_all
    simpa using this
  obtain ⟨⟨g', h3, h4⟩, _⟩ := h.pile hc hx
  rw [hgo] at h3; cases h3
  have := hn.2.1
  omega
 ·obtain ⟨h2, g', h3, h4⟩ := aPW h (h.looks n hn)
  rw [h1, hgo] at h3; cases h3
  omega
theorem aiE (g : acS) : g.2.1 ∈ acB b g := ai5.2 (.inl rfl)
theorem aHU (h : ads b) {g : acS} (hg : g ∈ b.2.1) : (acB b g).length ≤ 59 := by
 have h1 : ∀ l : List acS, g ∈ l → (acB b g).length ≤ (l.flatMap fun g => (acB b g).map fun d => ((g.1, d) : Int × Int)).length := by
  intro l
  induction l with
  | nil => intro hg; cases hg
  | cons a t ih =>
    intro hg
    rw [List.flatMap_cons, List.length_append, List.length_map]
    rcases List.mem_cons.1 hg with rfl | hg
    ·omega
    ·have := ih hg; omega
 have := h1 b.2.1 hg
 have := h.nodes
 unfold acd at this
 omega
theorem aR2 {p : List Int} {d : Int} : 0 ≤ atP (acd b) p d ∧ atP (acd b) p d ≤ (acd b).length := by
 unfold atP
 cases p with
 | nil => simp
 | cons x t =>
   try dsimp only
   cases h : agD (acd b) x d with
   | none => simp
   | some j => have := (ahb h).1; dsimp only; omega
theorem azU (h : ads b) {c : Cmp} (hc : c ∈ b.2.2.2.2.1) : (-1125904000000000 ≤ (afn b c).1 ∧ (afn b c).1 ≤ 1125904000000000) ∧ (-1125904000000000 ≤ (afn b c).2 ∧ (afn b c).2 ≤ 1125904000000000) := by
 obtain ⟨r1, r2⟩ := h.rates hc
 have hn := (ahv c).1 (h.nums hc)
 have ha := ae0 hn.2.2.2.2.2.1
 have hb := ae0 hn.2.2.2.2.2.2
 have hf := h.film
 obtain ⟨g1, g2⟩ := aF2 (aFH r1 r2) hn.2.2.2.2.1
 have fb := asO (b := b) (c := c) (by omega) (by omega) (by omega) (by omega) (by omega) (by omega)
 have q1 : amI (adT b c).1 2000000000 10000 := g1
 have q2 : amI (adT b c).2 2000000000 10000 := g2
 have c1 := aw6 q1
 have c2 := asL q2
 have n3 := hn.2.2.1
 have n4 := hn.2.2.2.1
 unfold afn
 try dsimp only
 omega
theorem anC (h : ads b) {g : acS} (hg : g ∈ b.2.1) {f t : Int} (hf : 0 ≤ f) : 0 ≤ ag6 b g f t ∧ ag6 b g f t ≤ 12 * (20001 * 1048576) + 40 * 1048576 := by
 have hr := (h.gaugeR hg).2.2.2.2.2.2.2
 have h1 := alH (id := g.1) (t := t) hf (x := b.2.2.2.1) fun l hl => awJ h hl
 have h2 : (b.2.2.2.1.length : Int) * (20001 * 1048576) ≤ 12 * (20001 * 1048576) := Int.mul_le_mul_of_nonneg_right (by have := h.nL; omega) (by omega)
 have h3 : (af6 b g.1 f t).length ≤ 40 := by
  unfold af6
  rw [List.length_map]
  exact Nat.le_trans (List.length_filter_le _ _) h.nU
 have h4 := aze (af6 b g.1 f t)
 have hm : 0 ≤ ((aLo (af6 b g.1 f t)).length : Int) * g.2.2.2.2.2 ∧ ((aLo (af6 b g.1 f t)).length : Int) * g.2.2.2.2.2 ≤ 40 * 1048576 :=
  ⟨Int.mul_nonneg (by omega) hr.1, Int.mul_le_mul (by omega) hr.2 hr.1 (by omega)⟩
 unfold ag6
 omega
end
theorem ah8 {α β : Type} (f : Nat → α → β) {l : List α} {i : Nat} {a : α} (h : l[i]? = some a) : (l.take (i + 1)).mapIdx f = (l.take i).mapIdx f ++ [f i a] := by
 have hi : i < l.length := (List.getElem?_eq_some_iff.1 h).1
 have : (l.take i).length = i := by rw [List.length_take]; omega
 rw [take_succ h, List.mapIdx_append]
 simp [this]
theorem avG {α : Type} (f : Nat → List α) (j : Nat) : (List.range (j + 1)).flatMap f = (List.range j).flatMap f ++ f j := by
 rw [List.range_succ, List.flatMap_append]; simp
theorem agU {α : Type} (f : Nat → List α) (n : Nat) (h : ∀ k, (f k).length = 2) : ((List.range n).flatMap f).length = 2 * n := by
 induction n with
 | zero => rfl
 | succ n ih => rw [avG, List.length_append, ih, h]; omega
set_option maxHeartbeats 2000000 in
theorem aGb {b : acw} (h : ads b) : aqs b = some (b, acd b, (((acd b).length : Int) + 1, acn b), aeq b) := by
 unfold aqs aHd
 have hN := h.nodes
 have hG := h.nG
 have hC := h.nC
 rw [aF4 h.size, ab3, acA, acr (by omega) (by omega)]
 -- lengths of what comes
 have gl : ∀ g ∈ b.2.1, (adt b g).length ≤ 120 ∧ ∀ i, (adC b i g).length ≤ 120 := by
  intro g hg
  have := aHU h hg
  constructor
  ·unfold adt
   rw [List.length_append, agU _ _ (fun _ => rfl)]
   simp only [List.length_cons, List.length_nil]; omega
  ·intro i
   unfold adC
   rw [List.length_append, agU _ _ (fun _ => rfl)]
   simp only [List.length_cons, List.length_nil]; omega
 have gls : ∀ i, ((b.2.1.take i).flatMap (adt b)).length ≤ 1440 ∧ (((b.2.1.take i).mapIdx (adC b)).flatten).length ≤ 1440 := by
  intro i
  induction i with
  | zero => simp
  | succ i ih =>
    have key : ∀ i, i ≤ b.2.1.length → ((b.2.1.take i).flatMap (adt b)).length ≤ i * 120 ∧ (((b.2.1.take i).mapIdx (adC b)).flatten).length ≤ i * 120 := by
     intro i
     induction i with
     | zero => intro _; simp
     | succ i ih =>
       intro hi
       have ih := ih (by omega)
       have hg : b.2.1[i]? = some b.2.1[i] := List.getElem?_eq_getElem hi
       have h2 := gl _ (List.mem_of_getElem? hg)
       have h3 := h2.2 i
       rw [ah8 _ hg, take_succ hg, List.flatMap_append, List.flatten_append, List.length_append, List.length_append]
       simp only [List.flatMap_cons, List.flatMap_nil, List.append_nil, List.flatten_cons, List.flatten_nil]
       omega
    rcases Nat.lt_or_ge b.2.1.length (i + 1) with h1 | h1
    ·rw [List.take_of_length_le (by omega)]
     have := key b.2.1.length (Nat.le_refl _)
     rw [List.take_length] at this
     omega
    ·have := key (i + 1) h1
     omega
 refine adf b.2.1 (fun i => ((b.2.1.take i).flatMap (adt b), ((b.2.1.take i).mapIdx (adC b)).flatten)) _ rfl (fun i g hi hg kn => ?_) (fun kn => ?_)
 ·try dsimp only
  unfold anq
  have hgm := List.mem_of_getElem? hg
  have hr := h.gaugeR hgm
  have hd := aHU h hgm
  have hls := gls i
  have hat := aR2 (b := b) (p := [g.1]) (d := g.2.1)
  rw [acp hi, aci hg]
  rw [show ajB ((b.1.1, b.1.2), b.2.1, b.2.2.1, b.2.2.2.1, b.2.2.2.2.1, b.2.2.2.2.2) g = ajB b g from rfl, aRv h.size, ab3]
  rw [aR1 _ _ _ (by dsimp only; omega), ab3]
  try dsimp only
  have r1 := hr.2.2.2.2.2.1
  have r2 := hr.2.2.2.2.2.2.1
  rw [acr (by omega) (by omega), acr (by omega) (by omega), acr (by omega) (by omega), acq (by simp only [List.length_cons, List.length_nil]; omega), Am.iff_true, acq (by simp only [List.length_cons, List.length_nil]; omega), Am.iff_true]
  refine afs (fun x : Int × List Lk × List (Int × Int) => ∃ j : Nat, j + 1 ≤ (acB b g).length ∧ x.1 = (j : Int) + 1 ∧
   x.2.1 = (b.2.1.take i).flatMap (adt b) ++ ([(0, atP (acd b) [g.1] g.2.1, g.2.2.1 + g.2.2.2.1.2), (atP (acd b) [g.1] g.2.1, 0, -(g.2.2.1 + g.2.2.2.1.1))] ++
    (List.range j).flatMap fun (k : Nat) => [(atP (acd b) [g.1] g.2.1 + k, atP (acd b) [g.1] g.2.1 + k + 1, 0), (atP (acd b) [g.1] g.2.1 + k + 1, atP (acd b) [g.1] g.2.1 + k, ag6 b g ((acB b g)[k]?.getD 0) ((acB b g)[k + 1]?.getD 0))]) ∧
   x.2.2 = ((b.2.1.take i).mapIdx (adC b)).flatten ++ ([(1, (i : Int)), (1, (i : Int))] ++ (List.range j).flatMap fun _ => [(2, (i : Int)), (2, (i : Int))])) (fun x => (acB b g).length - x.1.toNat) ?_
   ⟨0, List.length_pos_of_mem (aiE g), rfl, by simp, by simp⟩
  rintro ⟨x1, ls, ss⟩ ⟨j, hj, e1, e2, e3⟩
  dsimp only at e1 e2 e3 ⊢
  subst e1
  have hlls : ls.length ≤ 1562 := by
   rw [e2, List.length_append, List.length_append, agU _ _ (fun _ => rfl)]
   simp only [List.length_cons, List.length_nil]; omega
  have hlss : ss.length ≤ 1562 := by
   rw [e3, List.length_append, List.length_append, agU _ _ (fun _ => rfl)]
   simp only [List.length_cons, List.length_nil]; omega
  rcases Nat.lt_or_ge (j + 1) (acB b g).length with hlt | hge
  ·refine .inr ⟨((j : Int) + 1 + 1, _, _), ⟨j + 1, hlt, by push_cast; rfl, rfl, rfl⟩, by dsimp only; omega, fun kn' => ?_⟩
   try dsimp only
   unfold anp
   have g1 : (acB b g)[j]? = some ((acB b g)[j]?.getD 0) := by rw [List.getElem?_eq_getElem (by omega)]; rfl
   have g2 : (acB b g)[j + 1]? = some ((acB b g)[j + 1]?.getD 0) := by rw [List.getElem?_eq_getElem hlt]; rfl
   have d1 := h.day hgm (List.mem_of_getElem? g1)
   have d2 := h.day hgm (List.mem_of_getElem? g2)
   have lb := anC h hgm (t := (acB b g)[j + 1]?.getD 0) d1.2.1
   have ec : ((j : Int) + 1) = ((j + 1 : Nat) : Int) := by push_cast; rfl
   rw [ec, acp hlt, acr (by omega) (by omega), acr (by omega) (by omega), acr (by omega) (by omega), acr (by omega) (by omega)]
   rw [show (((j + 1 : Nat) : Int) - 1) = ((j : Nat) : Int) by omega, aci g1, aci g2]
   rw [show aqt ((b.1.1, b.1.2), b.2.1, b.2.2.1, b.2.2.2.1, b.2.2.2.2.1, b.2.2.2.2.2) (g.1, g.2.1, g.2.2.1, (g.2.2.2.1.1, g.2.2.2.1.2), (g.2.2.2.2.1.1, g.2.2.2.2.1.2), g.2.2.2.2.2) ((acB b g)[j]?.getD 0) ((acB b g)[j + 1]?.getD 0) = aqt b g ((acB b g)[j]?.getD 0) ((acB b g)[j + 1]?.getD 0) from rfl]
   rw [aUL h hr.2.2.2.2.2.2.2 ⟨by omega, by omega⟩ ⟨by omega, by omega⟩, ab3, acr (by omega) (by omega), acr (by omega) (by omega), acq (by simp only [List.length_cons, List.length_nil]; omega), Am.iff_true, acq (by simp only [List.length_cons, List.length_nil]; omega), Am.iff_true, acj hlt (by omega)]
   rw [avG, avG, e2, e3]
   have a1 : atP (acd b) [g.1] g.2.1 + ((j + 1 : Nat) : Int) - 1 = atP (acd b) [g.1] g.2.1 + (j : Int) := by push_cast; omega
   have a2 : atP (acd b) [g.1] g.2.1 + ((j + 1 : Nat) : Int) = atP (acd b) [g.1] g.2.1 + (j : Int) + 1 := by push_cast; omega
   have a3 : 0 - (0 - ag6 b g ((acB b g)[j]?.getD 0) ((acB b g)[j + 1]?.getD 0)) = ag6 b g ((acB b g)[j]?.getD 0) ((acB b g)[j + 1]?.getD 0) := by omega
   rw [a1, a2, a3]
   simp only [List.append_assoc]
  ·refine .inl fun kn' => ?_
   have hje : j + 1 = (acB b g).length := by omega
   unfold anp
   rw [show ((j : Int) + 1) = (((acB b g).length : Nat) : Int) by rw [← hje]; push_cast; rfl, acL]
   dsimp only
   rw [acj hi (by omega)]
   rw [ah8 _ hg, take_succ hg, List.flatMap_append, List.flatten_append, e2, e3, show j = (acB b g).length - 1 by omega]
   simp only [List.flatMap_cons, List.flatMap_nil, List.append_nil, List.flatten_cons, List.flatten_nil]
   rfl
 ·try dsimp only
  unfold anq
  rw [acL, List.take_length]
  have hls := gls b.2.1.length
  rw [List.take_length] at hls
  have cl : ∀ i, i ≤ b.2.2.2.2.1.length → ((b.2.2.2.2.1.take i).flatMap (ac3 b)).length = 2 * i ∧ (((b.2.2.2.2.1.take i).mapIdx fun i _ => [((3 : Int), (i : Int)), ((3 : Int), (i : Int))]).flatten).length = 2 * i := by
   intro i
   induction i with
   | zero => intro _; simp
   | succ i ih =>
     intro hi
     have ih := ih (by omega)
     have hg : b.2.2.2.2.1[i]? = some b.2.2.2.2.1[i] := List.getElem?_eq_getElem hi
     rw [ah8 _ hg, take_succ hg, List.flatMap_append, List.flatten_append, List.length_append, List.length_append]
     simp only [List.flatMap_cons, List.flatMap_nil, List.append_nil, List.flatten_cons, List.flatten_nil, ac3, List.length_cons, List.length_nil]
     omega
  refine adf b.2.2.2.2.1 (fun i => (b.2.1.flatMap (adt b) ++ (b.2.2.2.2.1.take i).flatMap (ac3 b), (b.2.1.mapIdx (adC b)).flatten ++ ((b.2.2.2.2.1.take i).mapIdx fun i _ => [((3 : Int), (i : Int)), ((3 : Int), (i : Int))]).flatten)) _ (by simp) (fun i c hi hc kn' => ?_) (fun kn' => ?_)
  ·try dsimp only
   unfold ano
   have hcm := List.mem_of_getElem? hc
   have hn := (ahv c).1 (h.nums hcm)
   have ha := ae0 hn.2.2.2.2.2.1
   have hb := ae0 hn.2.2.2.2.2.2
   have sb := azU h hcm
   have c1 := cl i (by omega)
   rw [acp hi, aci hc, alI (by omega) (by omega), ab3, aR1 _ _ _ (by dsimp only; omega), ab3, alI (by omega) (by omega), ab3, aR1 _ _ _ (by dsimp only; omega), ab3]
   rw [show anK ((b.1.1, b.1.2), b.2.1, b.2.2.1, b.2.2.2.1, b.2.2.2.2.1, b.2.2.2.2.2) c = anK b c from rfl, h.says hcm, ab3]
   rw [acr (by omega) (by omega), acq (by simp only [List.length_append, List.length_cons, List.length_nil]; omega), Am.iff_true, acq (by simp only [List.length_append, List.length_cons, List.length_nil]; omega), Am.iff_true, acj hi (by omega), ah8 _ hc, take_succ hc, List.flatMap_append, List.flatten_append]
   simp only [List.flatMap_cons, List.flatMap_nil, List.append_nil, List.flatten_cons, List.flatten_nil, List.append_assoc, Int.zero_sub]
   rfl
  ·try dsimp only
   unfold ano
   rw [acL, List.take_length]
   rfl
end Go.Proofs.ZzM
end
noncomputable section
namespace Go.Proofs.ZzM
open Go Go.Am
section
variable {ρ : Type}
def wv (w : List Bool) (v : Int) : Bool := w[v.toNat]?.getD false
theorem aNc {w : List Bool} {u v : Int} (hu : 0 ≤ u) (hv : 0 ≤ v) (h : u.toNat < w.length) (y : Bool) : wv (w.set u.toNat y) v = if v = u then y else wv w v := by
 unfold wv
 rw [List.getElem?_set]
 by_cases hvu : v = u
 ·subst hvu; simp [h]
 ·have : ¬ u.toNat = v.toNat := by omega
  simp [hvu, this]
theorem agW {x : List Int} {v : Int} (h : v.toNat < x.length) (f : Int → Option ρ) : ae6 x v.toNat f = f (gv x v) := ahw (aKB h) f
theorem aF6 {w : List Bool} {v : Int} (h : v.toNat < w.length) (f : Bool → Option ρ) : ae6 w v.toNat f = f (wv w v) := by
 refine ahw ?_ f
 unfold wv; rw [List.getElem?_eq_getElem h]; rfl
theorem ae9 {v : Int} {n : Nat} (h0 : 0 ≤ v) (h1 : v < n) (x : Option ρ) : acH ((ile 0 v) && (ilt v (n : Int))) x = x := by
 have : ((ile 0 v) && (ilt v (n : Int))) = true := by simp [ile, ilt, h0, h1]
 rw [this, Am.iff_true]
end
def aki (n least : Int) : List Lk → List Int → List Bool → List Int → Bool × List Int × List Bool × List Int
 | [], x, w, q => (true, x, w, q)
 | l :: t, x, w, q =>
   if l.1 ≠ n then aki n least t x w q else
   if gv x l.2.1 ≤ gv x n + l.2.2 then aki n least t x w q else
   if gv x n + l.2.2 < least then (false, x.set l.2.1.toNat (gv x n + l.2.2), w, q) else
   if wv w l.2.1 then aki n least t (x.set l.2.1.toNat (gv x n + l.2.2)) w q else aki n least t (x.set l.2.1.toNat (gv x n + l.2.2)) (w.set l.2.1.toNat true) (q ++ [l.2.1])
structure afW (L : List Lk) (N : Nat) (M : Int) : Prop where
 inr : InR L N
 noloop : ∀ l ∈ L, l.1 ≠ l.2.1
 most : ∀ l ∈ L, -M ≤ l.2.2 ∧ l.2.2 ≤ M
 len : L.length ≤ 400
 nodes : N ≤ 1000
 m0 : 0 ≤ M
 m1 : M ≤ 4503599627370496
set_option maxHeartbeats 1000000 in
theorem aS8 {ρ : Type} {L : List Lk} {N : Nat} {M : Int} (hL : afW L N M) {n least : Int} (hn : 0 ≤ n ∧ n < N) {x : List Int} {w : List Bool} {q : List Int} (hx : x.length = N) (hw : w.length = N) (hq : q.length ≤ 1000000)
 (hb : -2305843009213693952 ≤ gv x n ∧ gv x n ≤ 2305843009213693952) (K0 : (Val (.pair .bool (.pair (.slice tI) (.pair (.slice .bool) (.slice tI))))) → Option ρ) (K1 : (Val (.pair (.slice tI) (.pair (.slice .bool) (.slice tI)))) → Option ρ) :
 acl (fun (v47 : (Val (.pair tI (.pair (.slice tI) (.pair (.slice .bool) (.slice tI)))))) kk52 => agj [] least n L (acs L) v47.1 v47.2.1 v47.2.2.1 v47.2.2.2 (fun u48 u49 u50 u51 => kk52 (u48, u49, u50, u51)) K0 K1) ((0 : Int), x, w, q) =
  match aki n least L x w q with
  | (true, r) => K1 r
  | (false, r) => K0 (false, r) := by
 have hlen := hL.len
 refine azq L (fun i (s : List Int × List Bool × List Int) t => match aki n least t s.1 s.2.1 s.2.2 with | (true, r) => K1 r | (false, r) => K0 (false, r))
  (fun i s => s.1.length = N ∧ s.2.1.length = N ∧ gv s.1 n = gv x n ∧ s.2.2.length ≤ 1000000 + i) (fun s hs kn => ?_) (fun i l t s hd hi hl hI kn hk => ?_) (s := (x, w, q)) ⟨hx, hw, rfl, by simpa using hq⟩
 ·try dsimp only
  unfold agj
  rw [acL]
  rfl
 ·obtain ⟨y, u, p⟩ := s
  obtain ⟨h1, h2, h3, h4⟩ := hI
  dsimp only at h1 h2 h3 h4 hk ⊢
  have hmem : l ∈ L := List.mem_of_getElem? hl
  have hr := hL.inr l hmem
  have hm := hL.most l hmem
  have hm1 := hL.m1
  have hnl := hL.noloop l hmem
  unfold agj
  rw [acp hi, aci hl]
  unfold aki
  by_cases hln : l.1 = n
  ·have e0 : ine l.1 n = false := by simp [ine, hln]
   rw [acm e0]
   have e1 : ∀ (f : Bool → Option ρ) (g : Option ρ), aIm (k := tI) (v := .bool) (i : Int) [] f g = g := fun f g => rfl
   rw [e1, if_neg (by simp [hln])]
   have tn : n.toNat < y.length := by omega
   have tt : l.2.1.toNat < y.length := by omega
   have tu : l.2.1.toNat < u.length := by omega
   rw [ae9 hn.1 (by omega), agW tn, acr (by omega) (by omega), ae9 hr.2.1 (by omega), agW tt, adH]
   by_cases hge : gv y l.2.1 ≤ gv y n + l.2.2
   ·rw [if_pos (by simpa [ige] using hge), if_pos hge, acj hi (by omega)]
    exact hk (y, u, p) ⟨h1, h2, h3, by dsimp only; omega⟩
   ·rw [if_neg (by simpa [ige] using hge), if_neg hge]
    have hset : gv (y.set l.2.1.toNat (gv y n + l.2.2)) n = gv x n := by
     rw [apI hr.2.1 hn.1 tt, if_neg (fun h => hnl (hln.trans h)), h3]
    have hself : gv (y.set l.2.1.toNat (gv y n + l.2.2)) l.2.1 = gv y n + l.2.2 := by
     rw [apI hr.2.1 hr.2.1 tt, if_pos rfl]
    rw [ae9 hn.1 (by omega), agW tn, acr (by omega) (by omega), ae9 hr.2.1 (by omega), agW tt]
    rw [show (adj (List.set y l.2.1.toNat (gv y n + l.2.2))) = ((y.length : Nat) : Int) by simp [adj]]
    rw [ae9 hr.2.1 (by omega), agW (by simpa using tt), hself, adH]
    by_cases hlt : gv y n + l.2.2 < least
    ·rw [if_pos (by simpa [ilt] using hlt), if_pos hlt]
    ·rw [if_neg (by simpa [ilt] using hlt), if_neg hlt, ae9 hr.2.1 (by omega), aF6 tu, adH]
     cases hwv : wv u l.2.1 with
     | true =>
       rw [if_neg (by simp), if_pos rfl, acj hi (by omega)]
       exact hk (y.set l.2.1.toNat (gv y n + l.2.2), u, p) ⟨by simpa using h1, h2, hset, by dsimp only; omega⟩
     | false =>
       rw [if_pos (by simp), if_neg (by simp), acq (by simp only [List.length_singleton]; omega), Am.iff_true, ae9 hr.2.1 (by omega), aF6 tu, acj hi (by omega)]
       exact hk (y.set l.2.1.toNat (gv y n + l.2.2), u.set l.2.1.toNat true, p ++ [l.2.1]) ⟨by simpa using h1, by simpa using h2, hset, by simp only [List.length_append, List.length_singleton]; omega⟩
  ·have e0 : ine l.1 n = true := by simp [ine, hln]
   rw [aco e0, if_pos hln, acj hi (by omega)]
   exact hk (y, u, p) ⟨h1, h2, h3, by dsimp only; omega⟩
structure aTX (N : Nat) (n least : Int) (L : List Lk) (x : List Int) (q : List Int) (x' : List Int) (w' : List Bool) (q' : List Int) : Prop where
 lx : x'.length = N
 lw : w'.length = N
 same : gv x' n = gv x n
 le : ∀ v : Int, 0 ≤ v → v < N → gv x' v ≤ gv x v
 link : ∀ v m, (n, v, m) ∈ L → gv x' v ≤ gv x n + m
 chg : ∀ v : Int, 0 ≤ v → v < N → gv x' v = gv x v ∨ (v ∈ q' ∧ gv x' v < gv x v ∧ ∃ m, (n, v, m) ∈ L ∧ gv x' v = gv x n + m ∧ least ≤ gv x' v)
 new : ∃ l, q' = q ++ l ∧ ∀ v ∈ l, (0 ≤ v ∧ v < N) ∧ gv x' v < gv x v
 nodup : q'.Nodup
 waits : ∀ v : Int, 0 ≤ v → v < N → (wv w' v = true ↔ v ∈ q')
theorem ahf {N : Nat} {n least : Int} (hn : 0 ≤ n ∧ n < N) : ∀ {L : List Lk}, InR L N → (∀ l ∈ L, l.1 ≠ l.2.1) → ∀ {x : List Int} {w : List Bool} {q : List Int}, x.length = N → w.length = N → q.Nodup → (∀ v : Int, 0 ≤ v → v < N → (wv w v = true ↔ v ∈ q)) →
 ∀ {x' : List Int} {w' : List Bool} {q' : List Int}, aki n least L x w q = (true, x', w', q') → aTX N n least L x q x' w' q'
 | [], _, _, x, w, q, hx, hw, hq, hwq, x', w', q', h => by
   cases h
   exact ⟨hx, hw, rfl, fun _ _ _ => Int.le_refl _, fun _ _ h => (by cases h), fun _ _ _ => .inl rfl, ⟨[], by simp, fun _ h => by cases h⟩, hq, hwq⟩
 | l :: t, hL, hnl, x, w, q, hx, hw, hq, hwq, x', w', q', h => by
   have hLt : InR t N := fun l hl => hL l (by simp [hl])
   have hnt : ∀ l ∈ t, l.1 ≠ l.2.1 := fun l hl => hnl l (by simp [hl])
   have hr := hL l (by simp)
   have hl0 := hnl l (by simp)
   unfold aki at h
   split at h
   ·rename_i hne
    have a := ahf hn hLt hnt hx hw hq hwq h
    exact ⟨a.lx, a.lw, a.same, a.le, fun v m hm => by
     rcases List.mem_cons.1 hm with rfl | hm
     ·exact (hne rfl).elim
     ·exact a.link v m hm, fun v h0 h1 => (a.chg v h0 h1).imp id fun ⟨g1, g2, m, g3, g4⟩ => ⟨g1, g2, m, by simp [g3], g4⟩, a.new, a.nodup, a.waits⟩
   ·rename_i hne
    have hln : l.1 = n := by simpa using hne
    split at h
    ·rename_i hle
     have a := ahf hn hLt hnt hx hw hq hwq h
     exact ⟨a.lx, a.lw, a.same, a.le, fun v m hm => by
      rcases List.mem_cons.1 hm with rfl | hm
      ·have := a.le v hr.2.1 hr.2.2; simp only at hle; omega
      ·exact a.link v m hm, fun v h0 h1 => (a.chg v h0 h1).imp id fun ⟨g1, g2, m, g3, g4⟩ => ⟨g1, g2, m, by simp [g3], g4⟩, a.new, a.nodup, a.waits⟩
    ·rename_i hgt
     split at h
     ·cases h
     ·rename_i hls
      have tt : l.2.1.toNat < x.length := by omega
      have tw : l.2.1.toNat < w.length := by omega
      have hy : (x.set l.2.1.toNat (gv x n + l.2.2)).length = N := by simpa using hx
      have hyn : gv (x.set l.2.1.toNat (gv x n + l.2.2)) n = gv x n := by
       rw [apI hr.2.1 hn.1 tt, if_neg (fun h => hl0 (hln.trans h))]
      have hyv : ∀ v, 0 ≤ v → gv (x.set l.2.1.toNat (gv x n + l.2.2)) v = if v = l.2.1 then gv x n + l.2.2 else gv x v := fun v h0 => apI hr.2.1 h0 tt _
      have hlm : (n, l.2.1, l.2.2) ∈ l :: t := by rw [← hln]; simp
      -- what both ways have in common
      have fin : ∀ {w1 : List Bool} {q1 : List Int}, aTX N n least t (x.set l.2.1.toNat (gv x n + l.2.2)) q1 x' w' q' → l.2.1 ∈ q1 → (∃ l', q1 = q ++ l' ∧ ∀ v ∈ l', v = l.2.1) → aTX N n least (l :: t) x q x' w' q' := by
       intro w1 q1 a hmem hq1
       obtain ⟨new, hnew, hnv⟩ := a.new
       obtain ⟨l', hl', hlv⟩ := hq1
       have hto : gv x' l.2.1 ≤ gv x n + l.2.2 := by
        have := a.le l.2.1 hr.2.1 hr.2.2
        rw [hyv _ hr.2.1, if_pos rfl] at this
        exact this
       refine ⟨a.lx, a.lw, a.same.trans hyn, fun v h0 h1 => ?_, fun v m hm => ?_, fun v h0 h1 => ?_, ⟨l' ++ new, by rw [hnew, hl', List.append_assoc], fun v hv => ?_⟩, a.nodup, a.waits⟩
       ·have := a.le v h0 h1
        rw [hyv v h0] at this
        split at this
        ·rename_i e; subst e; omega
        ·exact this
       ·rcases List.mem_cons.1 hm with rfl | hm
        ·exact hto
        ·have := a.link v m hm
         rwa [hyn] at this
       ·rcases a.chg v h0 h1 with g | ⟨g1, g2, m, g3, g4, g5⟩
        ·rw [hyv v h0] at g
         split at g
         ·rename_i e
          subst e
          exact .inr ⟨by rw [hnew]; exact List.mem_append_left _ hmem, by omega, l.2.2, hlm, g, by omega⟩
         ·exact .inl g
        ·rw [hyv v h0] at g2
         rw [hyn] at g4
         refine .inr ⟨g1, ?_, m, by simp [g3], g4, g5⟩
         split at g2
         ·rename_i e; subst e; omega
         ·exact g2
       ·rcases List.mem_append.1 hv with hv | hv
        ·rw [hlv v hv]; exact ⟨hr.2, by omega⟩
        ·obtain ⟨g1, g2⟩ := hnv v hv
         rw [hyv v g1.1] at g2
         refine ⟨g1, ?_⟩
         split at g2
         ·rename_i e; subst e; omega
         ·exact g2
      split at h
      ·rename_i hwt
       exact fin (w1 := w) (ahf hn hLt hnt hy hw hq hwq h) ((hwq _ hr.2.1 hr.2.2).1 hwt) ⟨[], by simp, fun _ h => by cases h⟩
      ·rename_i hwt
       have hnq : l.2.1 ∉ q := fun hc => hwt ((hwq _ hr.2.1 hr.2.2).2 hc)
       refine fin (w1 := w.set l.2.1.toNat true) (ahf hn hLt hnt hy (by simpa using hw) ?_ ?_ h) (by simp) ⟨[l.2.1], rfl, fun v hv => by simpa using hv⟩
       ·rw [List.nodup_append]
        exact ⟨hq, by simp, fun a ha b hb => by simp at hb; subst hb; exact fun e => hnq (e ▸ ha)⟩
       ·intro v h0 h1
        rw [aNc hr.2.1 h0 tw]
        by_cases hv : v = l.2.1
        ·simp [hv]
        ·simp only [hv, if_false, List.mem_append, List.mem_singleton, or_false]
         exact hwq v h0 h1
theorem aiY {n least : Int} : ∀ {L : List Lk}, (∀ l ∈ L, l.1 ≠ l.2.1) → (∀ l ∈ L, 0 ≤ l.2.1) → 0 ≤ n → ∀ {x : List Int} {w : List Bool} {q : List Int} {r}, aki n least L x w q = (false, r) → ∃ v m, (n, v, m) ∈ L ∧ gv x n + m < least
 | [], _, _, _, x, w, q, r, h => by cases h
 | l :: t, hnl, h0, hn, x, w, q, r, h => by
   have hnt : ∀ l ∈ t, l.1 ≠ l.2.1 := fun l hl => hnl l (by simp [hl])
   have h0t : ∀ l ∈ t, 0 ≤ l.2.1 := fun l hl => h0 l (by simp [hl])
   have up : (∃ v m, (n, v, m) ∈ t ∧ gv x n + m < least) → ∃ v m, (n, v, m) ∈ l :: t ∧ gv x n + m < least := fun ⟨v, m, g1, g2⟩ => ⟨v, m, by simp [g1], g2⟩
   unfold aki at h
   split at h
   ·exact up (aiY hnt h0t hn h)
   ·rename_i hne
    have hln : l.1 = n := by simpa using hne
    split at h
    ·exact up (aiY hnt h0t hn h)
    ·split at h
     ·rename_i hlt
      exact ⟨l.2.1, l.2.2, by rw [← hln]; simp, hlt⟩
     ·have hyn : gv (x.set l.2.1.toNat (gv x n + l.2.2)) n = gv x n := by
       unfold gv
       rw [List.getElem?_set]
       have h1 := hnl l (by simp)
       have h2 := h0 l (by simp)
       have : ¬ l.2.1.toNat = n.toNat := by omega
       simp [this]
      split at h
      ·have := aiY hnt h0t hn h
       rw [hyn] at this
       exact up this
      ·have := aiY hnt h0t hn h
       rw [hyn] at this
       exact up this
end Go.Proofs.ZzM
end
noncomputable section
namespace Go.Proofs.ZzM
open Go Go.Am
theorem aNL {ρ : Type} {L : List Lk} {N : Nat} {M : Int} (hL : afW L N M) {n least : Int} (hn : 0 ≤ n ∧ n < N) {x : List Int} {w : List Bool} {t rest : List Int} (hx : x.length = N) (hw : w.length = N) (ht : t.length = N) (hq : rest.length ≤ 1000000)
 (hb : -2305843009213693952 ≤ gv x n ∧ gv x n ≤ 2305843009213693952) (htn : 0 ≤ gv t n ∧ gv t n ≤ 1000000) (kn : List Int → List Bool → List Int → List Int → Option ρ) (k0 : (Val (.pair .bool (.pair (.slice tI) (.pair (.slice .bool) (.pair (.slice tI) (.slice tI)))))) → Option ρ) :
 adz [] least (N : Int) L x w t (n :: rest) kn k0 =
  if (N : Int) + 1 < gv t n + 1 then k0 (false, x, w.set n.toNat false, t.set n.toNat (gv t n + 1), rest) else
  match aki n least L x (w.set n.toNat false) rest with
  | (true, x', w', q') => kn x' w' (t.set n.toNat (gv t n + 1)) q'
  | (false, x', w', q') => k0 (false, x', w', t.set n.toNat (gv t n + 1), q') := by
 have hN := hL.nodes
 have tn : n.toNat < x.length := by omega
 have tw : n.toNat < w.length := by omega
 have tt : n.toNat < t.length := by omega
 unfold adz
 have e0 : ieq (acs (n :: rest)) 0 = false := by
  rw [acA]
  simp only [ieq, List.length_cons, beq_eq_false_iff_ne, ne_eq]
  omega
 have e1 : ilt (0 : Int) (adj (n :: rest)) = true := by simp [ilt, adj]
 have e2 : ile (1 : Int) (adj (n :: rest)) = true := by simp [ile, adj]; omega
 have e3 : decide (1 + (List.length (n :: rest) - 1) = List.length (n :: rest)) = true := by simp; omega
 rw [acm e0, adx e1]
 rw [show ae6 (n :: rest) 0 = fun (f : Int → Option ρ) => f n from rfl]
 try dsimp only
 rw [adx e2, adx e3, ae9 hn.1 (by omega), aF6 tw, ae9 hn.1 (by omega), agW tt, acr (by omega) (by omega), ae9 hn.1 (by omega), agW tt]
 rw [show (adj (List.set t n.toNat (gv t n + 1))) = ((t.length : Nat) : Int) by simp [adj]]
 rw [ae9 hn.1 (by omega), agW (by simpa using tt), apI hn.1 hn.1 tt, if_pos rfl, acr (by omega) (by omega), adH]
 rw [show List.drop 1 (n :: rest) = rest from rfl]
 by_cases hlt : (N : Int) + 1 < gv t n + 1
 ·rw [if_pos (by simpa [igt] using hlt), if_pos hlt]
 ·rw [if_neg (by simpa [igt] using hlt), if_neg hlt]
  rw [aS8 hL hn hx (w := w.set n.toNat false) (by simpa using hw) hq hb]
  generalize aki n least L x (w.set n.toNat false) rest = r
  obtain ⟨b, x', w', q'⟩ := r
  cases b <;> rfl
theorem aQk {ρ : Type} {L : List Lk} {N : Int} {least : Int} {x : List Int} {w : List Bool} {t : List Int} (kn : List Int → List Bool → List Int → List Int → Option ρ) (k0 : (Val (.pair .bool (.pair (.slice tI) (.pair (.slice .bool) (.pair (.slice tI) (.slice tI)))))) → Option ρ) :
 adz [] least N L x w t [] kn k0 = k0 (true, x, w, t, []) := by
 unfold adz
 have e0 : ieq (acs ([] : List Int)) 0 = true := by rw [acA]; rfl
 rw [aco e0]
def aHF (N : Nat) (t : List Int) : Nat := (t.map fun a => ((N : Int) + 2 - a).toNat).sum
theorem aNT (N : Nat) : ∀ (t : List Int) (i : Nat) (a b : Int), t[i]? = some a → a < b → a < (N : Int) + 2 → aHF N (t.set i b) < aHF N t
 | a0 :: t, 0, a, b, h, h1, h2 => by
   simp at h; subst h
   simp only [aHF, List.set_cons_zero, List.map_cons, List.sum_cons]
   omega
 | a0 :: t, i + 1, a, b, h, h1, h2 => by
   have := aNT N t i a b (by simpa using h) h1 h2
   simp only [aHF] at this
   simp only [aHF, List.set_cons_succ, List.map_cons, List.sum_cons]
   omega
theorem aKp {N : Nat} {t : List Int} {n : Int} (hn : n.toNat < t.length) (h : gv t n ≤ (N : Int) + 1) : aHF N (t.set n.toNat (gv t n + 1)) < aHF N t :=
 aNT N t n.toNat (gv t n) _ (aKB hn) (by omega) (by omega)
structure aPL (L : List Lk) (S : Int → Prop) (N : Nat) (M : Int) (k : Nat) (A B : List Int) (x : List Int) (w : List Bool) (t q : List Int) : Prop where
 q_eq : q = A ++ B
 lx : x.length = N
 lw : w.length = N
 lt : t.length = N
 nodup : q.Nodup
 rng : ∀ v ∈ q, 0 ≤ v ∧ v < N
 waits : ∀ v : Int, 0 ≤ v → v < N → (wv w v = true ↔ v ∈ q)
 t0 : ∀ v : Int, 0 ≤ v → v < N → 0 ≤ gv t v ∧ gv t v ≤ (k : Int) + 1
 tA : ∀ v ∈ A, gv t v ≤ k
 low : ∀ vs v d, Wl L S vs v d → vs.length ≤ k → gv x v ≤ d
 nxt : ∀ vs u d, Wl L S vs u d → vs.length ≤ k → u ∉ A → ∀ v m, (u, v, m) ∈ L → gv x v ≤ d + m
 rel : ∀ u : Int, 0 ≤ u → u < N → u ∉ q → gv x u ≠ aff → ∀ v m, (u, v, m) ∈ L → gv x v ≤ gv x u + m
 att : ∀ v : Int, 0 ≤ v → v < N → gv x v ≠ aff → ∃ vs, Wl L S vs v (gv x v)
 bd : ∀ v : Int, 0 ≤ v → v < N → gv x v = aff ∨ gv x v ≤ ((k : Int) + 1) * M
 bA : ∀ v ∈ A, gv x v ≤ (k : Int) * M
 fin : ∀ v ∈ q, gv x v < aff
 kN : k + 1 ≤ N
 last : k + 1 = N → B = []
section
variable {L : List Lk} {S : Int → Prop} {N : Nat} {M : Int} {p : Int → Int} {k : Nat} {A B x : List Int} {w : List Bool} {t q : List Int}
theorem azj {a b : Nat} {M : Int} (h : a ≤ b) (hM : 0 ≤ M) : (a : Int) * M ≤ (b : Int) * M := Int.mul_le_mul_of_nonneg_right (by omega) hM
theorem Wl.lt_free (hL : afW L N M) (hNM : N * M < aff) {vs : List Int} {v d : Int} (hw : Wl L S vs v d) (h : vs.length ≤ N) : d < aff := by
 have h1 := hw.high fun l hl => (hL.most l hl).2
 have h2 := azj h hL.m0
 omega
theorem aPL.next (hL : afW L N M) (hNM : N * M < aff) (hS : ∀ v, S v → 0 ≤ v ∧ v < N) (h : aPL L S N M k [] B x w t q) (hB : B ≠ []) : aPL L S N M (k + 1) B [] x w t q := by
 have hM := hL.m0
 have hq : q = B := by simpa using h.q_eq
 have hk : k + 1 ≠ N := fun e => hB (h.last e)
 have hkN := h.kN
 have low' : ∀ vs v d, Wl L S vs v d → vs.length ≤ k + 1 → gv x v ≤ d := by
  intro vs v d hw hl
  cases hw with
  | nil hs => exact h.low [] v 0 (.nil hs) (by simp)
  | @step vs u _ m d hw hlk => exact h.nxt vs u d hw (by simpa using hl) (by simp) v m hlk
 refine ⟨by simp [hq], h.lx, h.lw, h.lt, h.nodup, h.rng, h.waits, fun v h0 h1 => ⟨(h.t0 v h0 h1).1, by have := (h.t0 v h0 h1).2; push_cast; omega⟩, fun v hv => ?_, low', fun vs u d hw hl hu v m hlk => ?_, h.rel, h.att, fun v h0 h1 => ?_, fun v hv => ?_, h.fin, by omega, fun _ => rfl⟩
 ·have := h.rng v (by rw [hq]; exact hv)
  have := (h.t0 v this.1 this.2).2
  push_cast; omega
 ·have h1 := low' vs u d hw hl
  have h2 := hw.lt_free hL hNM (by omega)
  have h3 := (hw.range hL.inr hS).1
  have := h.rel u h3.1 h3.2 (by rw [hq]; exact hu) (by omega) v m hlk
  omega
 ·rcases h.bd v h0 h1 with h2 | h2
  ·exact .inl h2
  ·refine .inr ?_
   have := azj (show k + 1 ≤ k + 1 + 1 by omega) hM
   push_cast at this ⊢
   omega
 ·have h1 := h.rng v (by rw [hq]; exact hv)
  have h2 := h.fin v (by rw [hq]; exact hv)
  rcases h.bd v h1.1 h1.2 with h3 | h3
  ·omega
  ·push_cast; exact h3
theorem aPL.step {n : Int} {A' : List Int} {least : Int} {x' : List Int} {w' : List Bool} {q' : List Int} (hL : afW L N M) (hNM : N * M < aff) (hp : Pot L p) (hS : ∀ v, S v → 0 ≤ v ∧ v < N) (h : aPL L S N M k (n :: A') B x w t q)
 (ha : aTX N n least L x (A' ++ B) x' w' q') : ∃ B', aPL L S N M k A' B' x' w' (t.set n.toNat (gv t n + 1)) q' := by
 have hM := hL.m0
 have hq : q = n :: (A' ++ B) := by simpa using h.q_eq
 have hkN := h.kN
 have hnr := h.rng n (by rw [hq]; simp)
 have hnf := h.fin n (by rw [hq]; simp)
 have hnd : n ∉ A' ++ B := by have := h.nodup; rw [hq, List.nodup_cons] at this; exact this.1
 have htn : n.toNat < t.length := by have := h.lt; omega
 have tset : ∀ v, 0 ≤ v → gv (t.set n.toNat (gv t n + 1)) v = if v = n then gv t n + 1 else gv t v := fun v h0 => apI hnr.1 h0 htn _
 have hkM : ((k : Int) + 1) * M < aff := by
  have := azj hkN hM
  push_cast at this
  omega
 have xle : ∀ v : Int, 0 ≤ v → v < N → gv x v ≤ aff := fun v h0 h1 => by rcases h.bd v h0 h1 with h2 | h2 <;> omega
 obtain ⟨l, hl, hlv⟩ := ha.new
 have att' : ∀ v : Int, 0 ≤ v → v < N → gv x' v ≠ aff → ∃ vs, Wl L S vs v (gv x' v) := by
  intro v h0 h1 hne
  rcases ha.chg v h0 h1 with g | ⟨_, _, m, g3, g4, _⟩
  ·rw [g] at hne ⊢; exact h.att v h0 h1 hne
  ·obtain ⟨vs, hw⟩ := h.att n hnr.1 hnr.2 (by omega)
   rw [g4]; exact ⟨_, hw.step g3⟩
 refine ⟨B ++ l, by rw [hl, List.append_assoc], ha.lx, ha.lw, by rw [List.length_set]; exact h.lt, ha.nodup, fun v hv => ?_, ha.waits, fun v h0 h1 => ?_, fun v hv => ?_, fun vs v d hw hlen => ?_, fun vs u d hw hlen hu v m hlk => ?_,
  fun u h0 h1 hu hf v m hlk => ?_, att', fun v h0 h1 => ?_, fun v hv => ?_, fun v hv => ?_, hkN, fun hk => ?_⟩
 ·rw [hl] at hv
  rcases List.mem_append.1 hv with hv | hv
  ·exact h.rng v (by rw [hq]; simp only [List.mem_cons]; exact .inr hv)
  ·exact (hlv v hv).1
 ·rw [tset v h0]
  have h2 := h.t0 v h0 h1
  split
  ·have h3 := h.tA n (by simp)
   have h4 := h.t0 n hnr.1 hnr.2
   omega
  ·exact h2
 ·have h1 := h.rng v (by rw [hq]; simp [hv])
  rw [tset v h1.1, if_neg (fun e => hnd (by rw [← e]; simp [hv]))]
  exact h.tA v (by simp [hv])
 ·have h1 := h.low vs v d hw hlen
  have h2 := (hw.range hL.inr hS).1
  have := ha.le v h2.1 h2.2
  omega
 ·have hvr := (hL.inr _ hlk).2
  by_cases hun : u = n
  ·subst hun
   have h1 := ha.link v m hlk
   have h2 := h.low vs u d hw hlen
   omega
  ·have h1 := h.nxt vs u d hw hlen (by simp [hun, hu]) v m hlk
   have := ha.le v hvr.1 hvr.2
   omega
 ·have hvr := (hL.inr _ hlk).2
  have heq : gv x' u = gv x u := by
   rcases ha.chg u h0 h1 with g | ⟨g, _⟩
   ·exact g
   ·exact (hu g).elim
  by_cases hun : u = n
  ·subst hun
   have h1 := ha.link v m hlk
   omega
  ·have hur : u ∉ q := by
    rw [hq]
    intro hc
    rcases List.mem_cons.1 hc with e | hc
    ·exact hun e
    ·exact hu (by rw [hl]; exact List.mem_append_left _ hc)
   have h2 := h.rel u h0 h1 hur (by rw [← heq]; exact hf) v m hlk
   have := ha.le v hvr.1 hvr.2
   omega
 ·rcases ha.chg v h0 h1 with g | ⟨_, _, m, g3, g4, _⟩
  ·rw [g]; exact h.bd v h0 h1
  ·have h2 := h.bA n (by simp)
   have h3 := (hL.most _ g3).2
   simp only at h3
   refine .inr ?_
   rw [g4, Int.add_mul, Int.one_mul]
   omega
 ·have h1 := h.rng v (by rw [hq]; simp [hv])
  have h2 := h.bA v (by simp [hv])
  have := ha.le v h1.1 h1.2
  omega
 ·rw [hl] at hv
  rcases List.mem_append.1 hv with hv | hv
  ·have h1 := h.rng v (by rw [hq]; simp only [List.mem_cons]; exact .inr hv)
   have h2 := h.fin v (by rw [hq]; simp only [List.mem_cons]; exact .inr hv)
   have := ha.le v h1.1 h1.2
   omega
  ·obtain ⟨g1, g2⟩ := hlv v hv
   have := xle v g1.1 g1.2
   omega
 ·rw [h.last hk]
  cases l with
  | nil => rfl
  | cons v l =>
    exfalso
    obtain ⟨g1, g2⟩ := hlv v (by simp)
    have := xle v g1.1 g1.2
    obtain ⟨vs, hw⟩ := att' v g1.1 g1.2 (by omega)
    obtain ⟨vs', d', k1, k2, k3⟩ := hw.simple hp
    have k4 := k1.short hL.inr hS k3
    have := h.low vs' v d' k1 (by omega)
    omega
theorem aPL.done (hL : afW L N M) (hNM : N * M < aff) (hp : Pot L p) (hS : ∀ v, S v → 0 ≤ v ∧ v < N) (h : aPL L S N M k A B x w t []) : aPM L S N (gv x) := by
 have hkN := h.kN
 have hM := hL.m0
 have hkM : ((k : Int) + 1) * M < aff := by
  have := azj hkN hM
  push_cast at this
  omega
 have key : ∀ vs v d, Wl L S vs v d → vs.length + 1 ≤ N → gv x v ≤ d := by
  intro vs v d hw
  induction hw with
  | nil hs => intro _; exact h.low [] _ 0 (.nil hs) (by simp)
  | @step vs u v m d hw hlk ih =>
    intro hlen
    simp only [List.length_cons] at hlen
    have h1 := ih (by omega)
    have h2 := hw.lt_free hL hNM (by omega)
    have h3 := (hw.range hL.inr hS).1
    have := h.rel u h3.1 h3.2 (by simp) (by omega) v m hlk
    omega
 refine ⟨h.att, fun v vs d hw => ?_, fun v h0 h1 => ?_⟩
 ·obtain ⟨vs', d', k1, k2, k3⟩ := hw.simple hp
  have := key vs' v d' k1 (k1.short hL.inr hS k3)
  omega
 ·rcases h.bd v h0 h1 with h2 | h2 <;> omega
theorem aIA {ρ : Type} {r : Option ρ} (hL : afW L N M) (hNM : N * M < aff) (hp : Pot L p) (hS : ∀ v, S v → 0 ≤ v ∧ v < N) (k0 : (Val (.pair .bool (.pair (.slice tI) (.pair (.slice .bool) (.pair (.slice tI) (.slice tI)))))) → Option ρ)
 (hK : ∀ x w t q, x.length = N → aPM L S N (gv x) → k0 (true, x, w, t, q) = r) (h : aPL L S N M k A B x w t q) :
 acl (fun (v64 : (Val (.pair (.slice tI) (.pair (.slice .bool) (.pair (.slice tI) (.slice tI)))))) kk69 => adz [] (azi L) (N : Int) L v64.1 v64.2.1 v64.2.2.1 v64.2.2.2 (fun u65 u66 u67 u68 => kk69 (u65, u66, u67, u68)) k0) (x, w, t, q) = r := by
 refine afs (fun s : List Int × List Bool × List Int × List Int => ∃ k A B, aPL L S N M k A B s.1 s.2.1 s.2.2.1 s.2.2.2) (fun s => aHF N s.2.2.1) ?_ ⟨k, A, B, h⟩
 rintro ⟨x, w, t, q⟩ ⟨k, A, B, h⟩
 dsimp only at h ⊢
 have hN := hL.nodes
 cases q with
 | nil => exact .inl fun kn => by rw [aQk]; exact hK x w t [] h.lx (h.done hL hNM hp hS)
 | cons n rest =>
   -- the phase in which the first one is
   have hph : ∃ k A' B, aPL L S N M k (n :: A') B x w t (n :: rest) := by
    cases A with
    | nil =>
      have hB : B = n :: rest := by simpa using h.q_eq.symm
      subst hB
      exact ⟨k + 1, rest, [], h.next hL hNM hS (by simp)⟩
    | cons a A' =>
      have := h.q_eq
      simp only [List.cons_append, List.cons.injEq] at this
      obtain ⟨rfl, _⟩ := this
      exact ⟨k, A', B, h⟩
   clear h k A B
   obtain ⟨k, A', B, h⟩ := hph
   have hrest : rest = A' ++ B := by have := h.q_eq; simpa using this
   have hnr := h.rng n (by simp)
   have hnf := h.fin n (by simp)
   have hkN := h.kN
   have h1 := h.tA n (by simp)
   have h2 := h.t0 n hnr.1 hnr.2
   obtain ⟨vs, hw⟩ := h.att n hnr.1 hnr.2 (by omega)
   have hlow := hw.low' hp
   have hneg : -(400 * 4503599627370496) ≤ azi L := by
    have : ∀ L' : List Lk, (∀ l ∈ L', -M ≤ l.2.2) → -((L'.length : Int) * M) ≤ azi L' := by
     intro L'
     induction L' with
     | nil => intro _; simp [azi, ayw]
     | cons l t ih =>
       intro hh
       have i1 := ih fun l hl => hh l (by simp [hl])
       have i2 := hh l (by simp)
       have i3 := hL.m0
       unfold azi at i1 ⊢
       simp only [ayw, if_true, List.length_cons, Int.natCast_succ, Int.add_mul, Int.one_mul]
       omega
    have h3 := this L fun l hl => (hL.most l hl).1
    have h4 : (L.length : Int) * M ≤ 400 * 4503599627370496 := Int.mul_le_mul (by have := hL.len; omega) hL.m1 hL.m0 (by omega)
    omega
   have hrl : rest.length ≤ 1000000 := by
    have := aNA N (n :: rest) h.nodup h.rng
    simp only [List.length_cons] at this
    omega
   refine .inr ?_
   have hw' : (w.set n.toNat false).length = N := by rw [List.length_set]; exact h.lw
   cases hr : aki n (azi L) L x (w.set n.toNat false) rest with
   | mk b r' =>
   obtain ⟨x', w', q'⟩ := r'
   cases b with
   | false =>
     exfalso
     obtain ⟨v, m, g1, g2⟩ := aiY hL.noloop (fun l hl => (hL.inr l hl).2.1) hnr.1 hr
     have := (hw.step g1).low' hp
     omega
   | true =>
     have hnd := h.nodup
     rw [List.nodup_cons] at hnd
     have ha := ahf hnr hL.inr hL.noloop h.lx hw' hnd.2 (fun v h0 h1 => by
      rw [aNc hnr.1 h0 (by have := h.lw; omega)]
      by_cases hv : v = n
      ·subst hv; simp [hnd.1]
      ·rw [if_neg hv, h.waits v h0 h1]
       simp [hv]) hr
     rw [hrest] at ha
     obtain ⟨B', hB'⟩ := h.step hL hNM hp hS ha
     refine ⟨(x', w', t.set n.toNat (gv t n + 1), q'), ⟨k, A', B', hB'⟩, aKp (by have := h.lt; omega) (by omega), fun kn => ?_⟩
     have hF : aff = 1152921504606846976 := rfl
     rw [aNL hL hnr h.lx h.lw h.lt hrl (by constructor <;> omega) (by constructor <;> omega), if_neg (by omega), hr]
end
end Go.Proofs.ZzM
end
noncomputable section
namespace Go.Proofs.ZzM
open Go Go.Am
theorem aAi (f : Lk → Bool) : ∀ (L L' : List Lk), ayw f (L ++ L') = ayw f L + ayw f L'
 | [], L' => by simp [ayw]
 | l :: t, L' => by
   simp only [List.cons_append, ayw, aAi f t L']
   omega
theorem aJf {L : List Lk} {i : Nat} {l : Lk} (h : L[i]? = some l) : azi (L.take (i + 1)) = azi (L.take i) + min l.2.2 0 := by
 rw [take_succ h, azi, azi, aAi]
 simp [ayw]
theorem imin0 (e : Int) : aKx e 0 = min e 0 := by
 unfold aKx
 split <;> omega
theorem aF7 {L : List Lk} {M : Int} (h : ∀ l ∈ L, -M ≤ l.2.2) (hM : 0 ≤ M) : -((L.length : Int) * M) ≤ azi L := by
 induction L with
 | nil => simp [azi, ayw]
 | cons l t ih =>
   have i1 := ih fun l hl => h l (by simp [hl])
   have i2 := h l (by simp)
   unfold azi at i1 ⊢
   simp only [ayw, if_true, List.length_cons, Int.natCast_succ, Int.add_mul, Int.one_mul]
   omega
theorem aUI (L : List Lk) : azi L ≤ 0 := amO _ L
section
variable {ρ : Type} {L : List Lk} {N : Nat} {M : Int}
theorem aNU (hL : afW L N M) (k0 : Int → Option ρ) : acl (fun (v75 : Val ab5) kk78 => afz L (acs L) v75.1 v75.2 (fun u76 u77 => kk78 (u76, u77)) k0) ((0 : Int), (0 : Int)) = k0 (azi L) := by
 refine afs (fun x : Int × Int => ∃ i : Nat, i ≤ L.length ∧ x = (azi (L.take i), (i : Int))) (fun x => L.length - x.2.toNat) ?_ ⟨0, by omega, rfl⟩
 rintro x ⟨i, hi, rfl⟩
 have hlen := hL.len
 rcases Nat.lt_or_ge i L.length with h | h
 ·have hl : L[i]? = some L[i] := List.getElem?_eq_getElem h
  refine .inr ⟨(azi (L.take (i + 1)), (i : Int) + 1), ⟨i + 1, h, by simp⟩, by simp; omega, fun kn => ?_⟩
  try dsimp only
  unfold afz
  have hb : ∀ j, j ≤ L.length → -(400 * 4503599627370496) ≤ azi (L.take j) := by
   intro j hj
   have h1 := aF7 (L := L.take j) (fun l hl => (hL.most l (List.mem_of_mem_take hl)).1) hL.m0
   have h2 : ((L.take j).length : Int) * M ≤ 400 * 4503599627370496 := Int.mul_le_mul (by rw [List.length_take]; omega) hL.m1 hL.m0 (by omega)
   omega
  have h1 := hb i hi
  have h2 := hb (i + 1) h
  have h3 := aUI (L.take i)
  rw [aJf hl] at h2
  rw [acp h, aci hl, imin0, acr (by omega) (by omega), acj h (by omega), aJf hl]
 ·refine .inl fun kn => ?_
  have : i = L.length := by omega
  subst this
  try dsimp only
  unfold afz
  rw [acL, List.take_length]
theorem aP3 {x : List Int} (hx : x.length = N) (hN : N ≤ 1000) {r : Option ρ} (k0 : (Val (.pair (.slice .bool) (.slice tI))) → Option ρ)
 (hK : ∀ (w : List Bool) (q : List Int), w.length = N → q.Nodup → (∀ v ∈ q, 0 ≤ v ∧ v < N) → (∀ v : Int, 0 ≤ v → v < N → (wv w v = true ↔ v ∈ q)) → (∀ v : Int, 0 ≤ v → v < N → (v ∈ q ↔ gv x v ≠ aff)) → k0 (w, q) = r) :
 acl (fun (v70 : (Val (.pair tI (.pair (.slice .bool) (.slice tI))))) kk74 => aeb (N : Int) x v70.1 v70.2.1 v70.2.2 (fun u71 u72 u73 => kk74 (u71, u72, u73)) k0) ((0 : Int), (List.replicate N false), ([] : List Int)) = r := by
 refine afs (fun s : Int × List Bool × List Int => ∃ i : Nat, i ≤ N ∧ s.1 = i ∧ s.2.1.length = N ∧ s.2.2.Nodup ∧ s.2.2.length ≤ i ∧ (∀ v ∈ s.2.2, 0 ≤ v ∧ v < i) ∧ (∀ v : Int, 0 ≤ v → v < N → (wv s.2.1 v = true ↔ v ∈ s.2.2)) ∧ (∀ v : Int, 0 ≤ v → v < i → (v ∈ s.2.2 ↔ gv x v ≠ aff))) (fun s => N - s.1.toNat) ?_
  ⟨0, by omega, rfl, by simp, by simp, by simp, by simp, fun v h0 h1 => ?_, fun v h0 h1 => by omega⟩
 ·rintro ⟨s, w, q⟩ ⟨i, hi, h1, h2, h3, h4, h5, h6, h7⟩
  simp only at h1 h2 h3 h4 h5 h6 h7
  subst h1
  rcases Nat.lt_or_ge i N with h | h
  ·refine .inr ?_
   have hix : i < x.length := by omega
   have hiw : i < w.length := by omega
   have hnq : ((i : Int)) ∉ q := fun hc => by have := (h5 _ hc).2; omega
   by_cases hf : gv x i = aff
   ·refine ⟨((i : Int) + 1, w, q), ⟨i + 1, h, by simp, h2, h3, by simp only; omega, fun v hv => ⟨(h5 v hv).1, by have := (h5 v hv).2; push_cast; omega⟩, h6, fun v h0 h1 => ?_⟩, by simp; omega, fun kn => ?_⟩
    ·by_cases hv : v = i
     ·subst hv; simp [hf, hnq]
     ·exact h7 v h0 (by push_cast at h1; omega)
    ·try dsimp only
     unfold aeb
     have e : ilt (i : Int) (N : Int) = true := by simp [ilt, h]
     rw [aco e, af7 hix, agW (by simpa using hix)]
     have e2 : ine (gv x i) 1152921504606846976 = false := by simp [ine, hf]
     rw [acm e2, acj h (by omega)]
   ·refine ⟨((i : Int) + 1, w.set i true, q ++ [(i : Int)]), ⟨i + 1, h, by simp, by simpa using h2, ?_, by simp; omega, fun v hv => ?_, fun v h0 h1 => ?_, fun v h0 h1 => ?_⟩, by simp; omega, fun kn => ?_⟩
    ·rw [List.nodup_append]
     exact ⟨h3, by simp, fun a ha b hb => by simp at hb; subst hb; exact fun e => hnq (e ▸ ha)⟩
    ·rcases List.mem_append.1 hv with hv | hv
     ·exact ⟨(h5 v hv).1, by have := (h5 v hv).2; push_cast; omega⟩
     ·simp at hv; subst hv; push_cast; omega
    ·have := aNc (w := w) (u := (i : Int)) (by omega) h0 (by simpa using hiw) true
     rw [Int.toNat_natCast] at this
     show wv (w.set i true) v = true ↔ v ∈ q ++ [(i : Int)]
     rw [this]
     by_cases hv : v = i
     ·simp [hv]
     ·simp only [hv, if_false, List.mem_append, List.mem_singleton, or_false]
      exact h6 v h0 h1
    ·show v ∈ q ++ [(i : Int)] ↔ _
     by_cases hv : v = i
     ·subst hv; simp [hf]
     ·simp only [List.mem_append, List.mem_singleton, hv, or_false]
      exact h7 v h0 (by push_cast at h1; omega)
    ·try dsimp only
     unfold aeb
     have e : ilt (i : Int) (N : Int) = true := by simp [ilt, h]
     rw [aco e, af7 hix, agW (by simpa using hix)]
     have e2 : ine (gv x i) 1152921504606846976 = true := by simp [ine, hf]
     rw [aco e2, acq (by simp only [List.length_singleton]; omega), Am.iff_true, af7 hiw, aF6 (by simpa using hiw), acj h (by omega), Int.toNat_natCast]
  ·refine .inl fun kn => ?_
   have : i = N := by omega
   subst this
   try dsimp only
   unfold aeb
   have e : ilt (i : Int) (i : Int) = false := by simp [ilt]
   rw [acm e]
   exact hK w q h2 h3 h5 h6 h7
 ·have : wv (List.replicate N false) v = false := by
   unfold wv
   rw [List.getElem?_replicate]
   split <;> rfl
  simp [this]
theorem aEq (hL : afW L N M) (hN : 1 ≤ N) {S : Int → Bool} (hS : ∀ v, S v = true → 0 ≤ v ∧ v < N) {w : List Bool} {q : List Int} (hw : w.length = N) (hq : q.Nodup) (hr : ∀ v ∈ q, 0 ≤ v ∧ v < N) (hwq : ∀ v : Int, 0 ≤ v → v < N → (wv w v = true ↔ v ∈ q)) (hqs : ∀ v : Int, 0 ≤ v → v < N → (v ∈ q ↔ gv (amK S N) v ≠ aff)) :
 aPL L (fun v => S v = true) N M 0 q [] (amK S N) w (List.replicate N 0) q := by
 have ht : ∀ v : Int, 0 ≤ v → v < N → gv (List.replicate N (0 : Int)) v = 0 := by
  intro v h0 h1
  unfold gv
  rw [List.getElem?_replicate]
  split <;> rfl
 have hg : ∀ v : Int, 0 ≤ v → v < N → (v ∈ q ↔ S v = true) := by
  intro v h0 h1
  rw [hqs v h0 h1, af8 S h0 h1]
  cases S v <;> simp [aff]
 have hM := hL.m0
 refine ⟨by simp, acX S N, hw, by simp, hq, hr, hwq, fun v h0 h1 => ?_, fun v hv => ?_, fun vs v d hw hl => ?_, fun vs u d hw hl hu v m hlk => ?_, fun u h0 h1 hu hf v m hlk => ?_, fun v h0 h1 hf => ?_, fun v h0 h1 => ?_, fun v hv => ?_, fun v hv => ?_, by omega, fun _ => rfl⟩
 ·rw [ht v h0 h1]; omega
 ·have := hr v hv
  rw [ht v this.1 this.2]; omega
 ·cases hw with
  | nil hs =>
    have := hS v hs
    rw [af8 S this.1 this.2, if_pos hs]; omega
  | step => simp at hl
 ·cases hw with
  | nil hs =>
    have := hS u hs
    exact (hu ((hg u this.1 this.2).2 hs)).elim
  | step => simp at hl
 ·rw [af8 S h0 h1] at hf
  have := mt (hg u h0 h1).2 hu
  rw [if_neg this] at hf
  exact (hf rfl).elim
 ·rw [af8 S h0 h1] at hf ⊢
  split at hf
  ·rename_i hs
   rw [if_pos hs]; exact ⟨[], .nil hs⟩
  ·exact (hf rfl).elim
 ·rw [af8 S h0 h1]
  split
  ·exact .inr (by simp [hM])
  ·exact .inl rfl
 ·have h1 := hr v hv
  rw [af8 S h1.1 h1.2, if_pos ((hg v h1.1 h1.2).1 hv)]; simp
 ·have h1 := hr v hv
  rw [af8 S h1.1 h1.2, if_pos ((hg v h1.1 h1.2).1 hv)]; simp [aff]
structure Bad (L : List Lk) (N : Nat) (x : List Int) (w : List Bool) (t q : List Int) : Prop where
 lx : x.length = N
 lw : w.length = N
 lt : t.length = N
 nodup : q.Nodup
 rng : ∀ v ∈ q, 0 ≤ v ∧ v < N
 waits : ∀ v : Int, 0 ≤ v → v < N → (wv w v = true ↔ v ∈ q)
 t0 : ∀ v : Int, 0 ≤ v → v < N → 0 ≤ gv t v ∧ gv t v ≤ (N : Int) + 1
 bd : ∀ v : Int, 0 ≤ v → v < N → -2305843009213693952 ≤ gv x v ∧ gv x v ≤ 0
 rel : ∀ u : Int, 0 ≤ u → u < N → u ∉ q → ∀ v m, (u, v, m) ∈ L → gv x v ≤ gv x u + m
theorem aSB {r : Option ρ} {x : List Int} {w : List Bool} {t q : List Int} (hL : afW L N M) (hp : ¬ ∃ p, Pot L p) (k0 : (Val (.pair .bool (.pair (.slice tI) (.pair (.slice .bool) (.pair (.slice tI) (.slice tI)))))) → Option ρ)
 (hK : ∀ x w t q, k0 (false, x, w, t, q) = r) (h : Bad L N x w t q) :
 acl (fun (v64 : (Val (.pair (.slice tI) (.pair (.slice .bool) (.pair (.slice tI) (.slice tI)))))) kk69 => adz [] (azi L) (N : Int) L v64.1 v64.2.1 v64.2.2.1 v64.2.2.2 (fun u65 u66 u67 u68 => kk69 (u65, u66, u67, u68)) k0) (x, w, t, q) = r := by
 refine afs (fun s : List Int × List Bool × List Int × List Int => Bad L N s.1 s.2.1 s.2.2.1 s.2.2.2) (fun s => aHF N s.2.2.1) ?_ h
 rintro ⟨x, w, t, q⟩ h
 dsimp only at h ⊢
 have hN := hL.nodes
 cases q with
 | nil =>
   exfalso
   exact hp ⟨gv x, fun u v m hl => h.rel u (hL.inr _ hl).1.1 (hL.inr _ hl).1.2 (by simp) v m hl⟩
 | cons n rest =>
   have hnr := h.rng n (by simp)
   have hb := h.bd n hnr.1 hnr.2
   have ht := h.t0 n hnr.1 hnr.2
   have hrl : rest.length ≤ 1000000 := by
    have := aNA N (n :: rest) h.nodup h.rng
    simp only [List.length_cons] at this
    omega
   have hout := fun (kn : List Int → List Bool → List Int → List Int → Option ρ) => aNL (ρ := ρ) hL (least := azi L) hnr h.lx h.lw h.lt hrl ⟨hb.1, by omega⟩ ⟨ht.1, by omega⟩ kn k0
   by_cases hlt : (N : Int) + 1 < gv t n + 1
   ·exact .inl fun kn => by rw [hout, if_pos hlt]; exact hK _ _ _ _
   ·have hw' : (w.set n.toNat false).length = N := by rw [List.length_set]; exact h.lw
    cases hr : aki n (azi L) L x (w.set n.toNat false) rest with
    | mk b r' =>
    obtain ⟨x', w', q'⟩ := r'
    cases b with
    | false => exact .inl fun kn => by rw [hout, if_neg hlt, hr]; exact hK _ _ _ _
    | true =>
      have hnd := h.nodup
      rw [List.nodup_cons] at hnd
      have htl : n.toNat < t.length := by have := h.lt; omega
      have ha := ahf hnr hL.inr hL.noloop h.lx hw' hnd.2 (fun v h0 h1 => by
       rw [aNc hnr.1 h0 (by have := h.lw; omega)]
       by_cases hv : v = n
       ·subst hv; simp [hnd.1]
       ·rw [if_neg hv, h.waits v h0 h1]
        simp [hv]) hr
      obtain ⟨l, hl, hlv⟩ := ha.new
      refine .inr ⟨(x', w', t.set n.toNat (gv t n + 1), q'), ⟨ha.lx, ha.lw, by rw [List.length_set]; exact h.lt, ha.nodup, fun v hv => ?_, ha.waits, fun v h0 h1 => ?_, fun v h0 h1 => ?_, fun u h0 h1 hu v m hlk => ?_⟩, aKp htl (by omega), fun kn => by rw [hout, if_neg hlt, hr]⟩
      ·dsimp only at hv
       rw [hl] at hv
       rcases List.mem_append.1 hv with hv | hv
       ·exact h.rng v (by simp [hv])
       ·exact (hlv v hv).1
      ·try dsimp only
       rw [apI hnr.1 h0 htl]
       have := h.t0 v h0 h1
       split <;> omega
      ·try dsimp only
       have h2 := h.bd v h0 h1
       rcases ha.chg v h0 h1 with g | ⟨_, g2, m, g3, g4, g5⟩
       ·rw [g]; exact h2
       ·have h3 := aF7 (L := L) (fun l hl => (hL.most l hl).1) hL.m0
        have h4 : (L.length : Int) * M ≤ 400 * 4503599627370496 := Int.mul_le_mul (by have := hL.len; omega) hL.m1 hL.m0 (by omega)
        omega
      ·dsimp only at hu ⊢
       have hvr := (hL.inr _ hlk).2
       have heq : gv x' u = gv x u := by
        rcases ha.chg u h0 h1 with g | ⟨g, _⟩
        ·exact g
        ·exact (hu g).elim
       by_cases hun : u = n
       ·subst hun
        have h1 := ha.link v m hlk
        omega
       ·have hur : u ∉ n :: rest := by
         intro hc
         rcases List.mem_cons.1 hc with e | hc
         ·exact hun e
         ·exact hu (by rw [hl]; exact List.mem_append_left _ hc)
        have h2 := h.rel u h0 h1 hur v m hlk
        have := ha.le v hvr.1 hvr.2
        omega
end
def aPK (N : Nat) (v : Int) : Bool := decide (0 ≤ v) && decide (v < (N : Int))
def aQs (s : Int) (v : Int) : Bool := v == s
theorem aIz (N : Nat) : amK (aPK N) N = List.replicate N 0 := by
 refine aNY (by simp [acX]) fun v h0 h1 => ?_
 rw [acX] at h1
 rw [af8 _ h0 h1]
 have : aPK N v = true := by simp [aPK, h0, h1]
 rw [if_pos this]
 unfold gv
 rw [List.getElem?_replicate]
 split <;> rfl
def af9 (L : List Lk) (N : Nat) : List Int := ahu L N (amK (aPK N) N)
def adR (L : List Lk) (N : Nat) : Bool := decide (ayu L (af9 L N) = af9 L N)
def ad2 (L : List Lk) (N : Nat) (s : Int) : List Int := ahu L N (amK (aQs s) N)
section
variable {L : List Lk} {N : Nat} {M : Int}
theorem aSW (hL : afW L N M) (hN : N ≤ 200) : N * M < aff := by
 have : (N : Int) * M ≤ 200 * 4503599627370496 := Int.mul_le_mul (by omega) hL.m1 hL.m0 (by omega)
 unfold aff
 omega
theorem avB {p : Int → Int} (hL : afW L N M) (hN : N ≤ 200) (hp : Pot L p) : aPM L (fun v => aPK N v = true) N (gv (af9 L N)) :=
 az2 hp hL.inr (fun v h => by simpa [aPK] using h) (fun l hl => (hL.most l hl).2) hL.m0 (aSW hL hN) N (by omega)
theorem afV {p : Int → Int} (hL : afW L N M) (hN : N ≤ 200) (hp : Pot L p) {s : Int} (hs : 0 ≤ s ∧ s < N) : aPM L (fun v => aQs s v = true) N (gv (ad2 L N s)) :=
 az2 hp hL.inr (fun v h => by simp [aQs] at h; subst h; exact hs) (fun l hl => (hL.most l hl).2) hL.m0 (aSW hL hN) N (by omega)
theorem aIW : ∀ {L : List Lk} {x : List Int}, (∀ u v m, (u, v, m) ∈ L → gv x u < aff → gv x v ≤ gv x u + m) → ayu L x = x
 | [], x, _ => rfl
 | l :: t, x, h => by
   have h1 : ahZ x l = x := by
    unfold ahZ
    split
    ·rename_i hc
     have := h l.1 l.2.1 l.2.2 (by simp) hc.1
     omega
    ·rfl
   show ayu t (ahZ x l) = x
   rw [h1]
   exact aIW fun u v m hm => h u v m (by simp [hm])
theorem aep (hL : afW L N M) (hN : N ≤ 200) : adR L N = true ↔ ∃ p, Pot L p := by
 unfold adR
 rw [decide_eq_true_eq]
 have hle : ∀ v : Int, 0 ≤ v → v < N → gv (af9 L N) v ≤ 0 := by
  intro v h0 h1
  have := as3 hL.inr N (acX (aPK N) N) v h0
  rw [af8 _ h0 h1, if_pos (by simp [aPK, h0, h1])] at this
  exact this
 constructor
 ·intro h
  refine ⟨gv (af9 L N), fun u v m hl => ?_⟩
  have hr := (hL.inr _ hl).1
  have := avJ hL.inr (x := af9 L N) (by unfold af9; rw [ad4, acX]) u v m hl (by have := hle u hr.1 hr.2; unfold aff; omega)
  rwa [h] at this
 ·rintro ⟨p, hp⟩
  have hd := avB hL hN hp
  exact aIW fun u v m hl hf => hd.pot hL.inr hl (by omega)
end
end Go.Proofs.ZzM
end
noncomputable section
namespace Go.Proofs.ZzM
open Go Go.Am
section
variable {ρ : Type} {L : List Lk} {N : Nat} {M : Int}
theorem au9 (hN : N ≤ 1000) (x : Option ρ) : acH ((ile (0 : Int) (N : Int)) && (acJ (Int.toNat (N : Int)))) x = x := by
 rw [Int.toNat_natCast, acq (by omega)]
 have : ((ile (0 : Int) (N : Int)) && true) = true := by simp [ile]
 rw [this, Am.iff_true]
theorem aLJ (hL : afW L N M) (h1 : 1 ≤ N) (hN : N ≤ 200) (k0 : (Val (.pair .bool (.pair (.slice tI) (.pair (.slice .bool) (.pair (.slice tI) (.slice tI)))))) → Option ρ) {rT rF : Option ρ}
 (hT : adR L N = true → ∀ w t q, k0 (true, af9 L N, w, t, q) = rT) (hF : ∀ x w t q, k0 (false, x, w, t, q) = rF) :
 (acl (fun (v70 : (Val (.pair tI (.pair (.slice .bool) (.slice tI))))) kk74 => aeb (N : Int) (List.replicate N (0 : Int)) v70.1 v70.2.1 v70.2.2 (fun u71 u72 u73 => kk74 (u71, u72, u73)) (fun z9 => acl (fun (v64 : (Val (.pair (.slice tI) (.pair (.slice .bool) (.pair (.slice tI) (.slice tI)))))) kk69 => adz [] (azi L) (N : Int) L v64.1 v64.2.1 v64.2.2.1 v64.2.2.2 (fun u65 u66 u67 u68 => kk69 (u65, u66, u67, u68)) k0) ((List.replicate N (0 : Int)), z9.1, (List.replicate N (0 : Int)), z9.2))) ((0 : Int), (List.replicate N false), ([] : List Int))) = if adR L N then rT else rF := by
 refine aP3 (by simp) (by omega) _ fun w q hw hq hr hwq hqs => ?_
 try dsimp only
 have hS : ∀ v, aPK N v = true → 0 ≤ v ∧ v < N := fun v h => by simpa [aPK] using h
 by_cases ho : adR L N = true
 ·rw [if_pos ho]
  obtain ⟨p, hp⟩ := (aep hL hN).1 ho
  have hs := aEq hL h1 hS hw hq hr hwq (fun v a b => by rw [aIz]; exact hqs v a b)
  rw [aIz] at hs
  refine aIA hL (aSW hL hN) hp hS k0 (fun x w t q hx hd => ?_) hs
  have : x = af9 L N := by
   refine aNY (by rw [hx]; unfold af9; rw [ad4, acX]) fun v a b => ?_
   exact hd.uniq (avB hL hN hp) a (by omega)
  rw [this]; exact hT ho w t q
 ·rw [if_neg ho]
  refine aSB hL (fun hp => ho ((aep hL hN).2 hp)) k0 hF ?_
  have hg : ∀ v, gv (List.replicate N (0 : Int)) v = 0 := by
   intro v
   unfold gv
   rw [List.getElem?_replicate]
   split <;> rfl
  refine ⟨by simp, hw, by simp, hq, hr, hwq, fun v a b => ?_, fun v a b => ?_, fun u a b hu v m hl => ?_⟩
  ·rw [hg]; omega
  ·rw [hg]; omega
  ·exact (hu ((hqs u a b).2 (by rw [hg]; unfold aff; omega))).elim
end
theorem shift_ok {ρ : Type} {x : List Int} (f : Int) (hx : x.length ≤ 1000) (hf : -2305843009213693952 ≤ f ∧ f ≤ 2305843009213693952) (hb : ∀ a ∈ x, -2305843009213693952 ≤ a ∧ a ≤ 2305843009213693952) (k0 : List Int → Option ρ) :
 acl (fun (v60 : (Val (.pair tI (.slice tI)))) kk63 => agi f (acs x) v60.1 v60.2 (fun u61 u62 => kk63 (u61, u62)) k0) ((0 : Int), x) = k0 (x.map fun a => a - f) := by
 refine adf x (fun i => (x.take i).map (fun a => a - f) ++ x.drop i) _ (by simp) (fun i a hi ha kn => ?_) (fun kn => ?_)
 ·try dsimp only
  unfold agi
  have hlen : ((x.take i).map (fun a => a - f) ++ x.drop i).length = x.length := by simp; omega
  have hget : ((x.take i).map (fun a => a - f) ++ x.drop i)[i]? = some a := by
   rw [List.getElem?_append_right (by simp; omega)]
   simp only [List.length_map, List.length_take, List.getElem?_drop]
   rw [← ha]; congr 1; omega
  have hi' : i < ((x.take i).map (fun a => a - f) ++ x.drop i).length := by omega
  have ha' := hb a (List.mem_of_getElem? ha)
  rw [acp hi, af7 hi', aex hget, acr (by omega) (by omega), af7 hi', aex hget, acj hi (by omega), Int.toNat_natCast, take_succ ha]
  congr 2
  rw [List.drop_eq_getElem_cons hi, List.map_append, List.append_assoc, List.set_append_right _ _ (by simp; omega)]
  have : i - (List.map (fun a => a - f) (List.take i x)).length = 0 := by simp; omega
  rw [this]
  have h1 : x[i] = a := by rw [List.getElem?_eq_getElem hi] at ha; simpa using ha
  simp [h1]
 ·try dsimp only
  unfold agi
  rw [acL]
  simp
section
variable {L : List Lk} {N : Nat} {M : Int}
theorem aSD (hL : afW L N M) (hN : N ≤ 200) (ho : adR L N = true) : ∀ a ∈ af9 L N, -2305843009213693952 ≤ a ∧ a ≤ 0 := by
 obtain ⟨p, hp⟩ := (aep hL hN).1 ho
 have hd := avB hL hN hp
 intro a ha
 obtain ⟨i, hi, rfl⟩ := List.mem_iff_getElem.1 ha
 have hlen : (af9 L N).length = N := by unfold af9; rw [ad4, acX]
 have h0 : gv (af9 L N) i = (af9 L N)[i] := by unfold gv; simp [hi]
 have hle := as3 hL.inr N (acX (aPK N) N) (i : Int) (by omega)
 rw [af8 _ (by omega) (by omega), if_pos (by simp [aPK]; omega)] at hle
 have hle' : gv (af9 L N) i ≤ 0 := hle
 obtain ⟨vs, hw⟩ := hd.att i (by omega) (by omega) (by unfold aff; omega)
 have h1 := hw.low' hp
 have h3 := aF7 (L := L) (fun l hl => (hL.most l hl).1) hL.m0
 have h4 : (L.length : Int) * M ≤ 400 * 4503599627370496 := Int.mul_le_mul (by have := hL.len; omega) hL.m1 hL.m0 (by omega)
 omega
def solP (L : List Lk) (N : Nat) : List Int := (af9 L N).map fun a => a - gv (af9 L N) 0
theorem arP (hL : afW L N M) (h1 : 1 ≤ N) (hN : N ≤ 200) : ahi ((N : Int), L) [] = some (if adR L N then (solP L N, true) else ([], false)) := by
 unfold ahi apd
 try dsimp only
 rw [au9 (by omega), au9 (by omega), au9 (by omega), Int.toNat_natCast]
 refine Eq.trans (aNU hL _) ?_
 refine Eq.trans (aLJ hL h1 hN _ (rT := some (solP L N, true)) (rF := some ([], false)) (fun ho w t q => ?_) (fun x w t q => ?_)) ?_
 ·try dsimp only
  have hlen : (af9 L N).length = N := by unfold af9; rw [ad4, acX]
  have hb := aSD hL hN ho
  have h0 : ilt (0 : Int) (adj (af9 L N)) = true := decide_eq_true (show (0 : Int) < ((af9 L N).length : Int) by omega)
  have hg : (af9 L N)[0]? = some (gv (af9 L N) 0) := aKB (v := 0) (show 0 < _ by omega)
  have hm := hb _ (List.mem_of_getElem? hg)
  rw [show (!true) = false from rfl, acM, adx h0, ahw hg]
  exact shift_ok _ (by omega) ⟨hm.1, by omega⟩ (fun a ha => ⟨(hb a ha).1, by have := (hb a ha).2; omega⟩) _
 ·rfl
 ·cases adR L N <;> rfl
structure afe (L : List Lk) (N : Nat) : Prop where
 n1 : 1 ≤ N
 n60 : N ≤ 60
 len : L.length ≤ 300
 inr : InR L N
 noloop : ∀ l ∈ L, l.1 ≠ l.2.1
 most : ∀ l ∈ L, -4503599627370496 ≤ l.2.2 ∧ l.2.2 ≤ 4503599627370496
theorem afe.links (h : afe L N) : afW L N 4503599627370496 :=
 ⟨h.inr, h.noloop, h.most, by have := h.len; omega, by have := h.n60; omega, by omega, by omega⟩
theorem afe.sub {L' : List Lk} (h : afe L N) (hs : ∀ l ∈ L', l ∈ L) (hl : L'.length ≤ L.length) : afe L' N :=
 ⟨h.n1, h.n60, by have := h.len; omega, fun l hm => h.inr l (hs l hm), fun l hm => h.noloop l (hs l hm), fun l hm => h.most l (hs l hm)⟩
theorem aAh (n : Int) (L : List Lk) (v : Int) : alh (n, L) v = some (decide (0 ≤ v) && decide (v < n)) := by
 unfold alh aGM ige
 by_cases h : 0 ≤ v
 ·have : decide (v ≥ 0) = true := by simpa using h
  rw [aco this]; simp [h]
 ·have : decide (v ≥ 0) = false := by simpa using h
  rw [acm this]; simp [h]
theorem agz (h : afe L N) : ahR ((N : Int), L) = some (0, -1) := by
 have h1 := h.n1
 have h2 := h.n60
 have h3 := h.len
 unfold ahR aA7
 try dsimp only
 rw [acm (by simp [ilt]; omega), acm (by simp [igt]; omega), acm (by rw [acA]; simp [igt]; omega)]
 refine Eq.trans (af1 L (fun _ => false) (fun i => some (1, i)) (some (0, -1)) (fun i l hi hl kn => ?_) (fun kn => ?_)) ?_
 ·try dsimp only
  unfold ak0
  have hm := List.mem_of_getElem? hl
  have a := h.inr l hm
  have b := h.noloop l hm
  have c := h.most l hm
  have e1 : (decide (0 ≤ l.1) && decide (l.1 < (N : Int))) = true := by simp [a.1.1, a.1.2]
  have e2 : (decide (0 ≤ l.2.1) && decide (l.2.1 < (N : Int))) = true := by simp [a.2.1, a.2.2]
  rw [acp hi, aci hl, aAh, ab3, e1, aAh, ab3, e2]
  simp only [Bool.not_true, acM, Bool.false_eq_true, if_false]
  rw [acm (by simp [ieq, b]), acm (by simp [ilt]; omega), acm (by simp [igt]; omega), acj hi (by omega)]
 ·try dsimp only
  unfold ak0
  rw [acL]
 ·rw [List.findIdx?_eq_none_iff.2 (by simp)]
theorem ajg {ρ : Type} {x : List Int} {v : Int} (h0 : 0 ≤ v) (h : v.toNat < x.length) (f : Int → Option ρ) : adv x v f = f (gv x v) := by
 obtain ⟨i, rfl⟩ := Int.eq_ofNat_of_zero_le h0
 exact aci (aKB h) f
def aKK (L : List Lk) (x : List Int) : Bool := L.all fun l => decide (gv x l.2.1 ≤ gv x l.1 + l.2.2)
theorem aLk (h : afe L N) {x : List Int} (hx : x.length = N) (hb : ∀ a ∈ x, -aff ≤ a ∧ a ≤ aff) : azy ((N : Int), L) x = some (aKK L x && gv x 0 == 0, 0) := by
 have h1 := h.n1
 have h2 := h.n60
 have h3 := h.len
 unfold azy aGS
 rw [agz h, ab3]
 try dsimp only
 rw [acm (by rfl), acm (by rw [acA, hx]; simp [ine])]
 have second : acl (fun (v20 : Int) kk22 => aik x L (acs L) v20 (fun u21 => kk22 u21) (fun z17 => some (z17.1, z17.2)) (fun _ => adv x (0 : Int) fun e19 => some (ieq e19 (0 : Int), (0 : Int)))) (0 : Int) = some (aKK L x && gv x 0 == 0, 0) := by
  refine Eq.trans (afS L (fun l => !decide (gv x l.2.1 ≤ gv x l.1 + l.2.2)) (fun _ => some (false, 0)) (some (false, 0)) (some (gv x 0 == 0, 0)) (fun _ => rfl) (fun i l hi hl kn => ?_) (fun kn => ?_)) ?_
  ·try dsimp only
   unfold aik
   have hm := List.mem_of_getElem? hl
   have a := h.inr l hm
   have c := h.most l hm
   have g1 : l.1.toNat < x.length := by omega
   have hg := hb _ (List.mem_of_getElem? (aKB g1))
   unfold aff at hg
   rw [acp hi, aci hl, ajg a.2.1 (by omega), ajg a.1.1 g1, acr (by omega) (by omega), acj hi (by omega), adH]
   by_cases hle : gv x l.2.1 ≤ gv x l.1 + l.2.2
   ·rw [if_neg (by simp [igt]; omega), if_neg (by simp [hle])]
   ·rw [if_pos (by simp [igt]; omega), if_pos (by simp [hle])]
  ·try dsimp only
   unfold aik
   rw [acL, ajg (by omega) (by rw [Int.toNat_zero]; omega)]
  ·unfold aKK
   rw [show (L.any fun l => !decide (gv x l.2.1 ≤ gv x l.1 + l.2.2)) = !(L.all fun l => decide (gv x l.2.1 ≤ gv x l.1 + l.2.2)) from by rw [List.all_eq_not_any_not]; simp]
   cases (L.all fun l => decide (gv x l.2.1 ≤ gv x l.1 + l.2.2)) <;> rfl
 refine Eq.trans (afS x (fun _ => false) (fun z4 => ifb (ige z4 (0 : Int)) (some (false, (1 : Int))) (some (aKK L x && gv x 0 == 0, 0))) (some (false, 1)) (some (aKK L x && gv x 0 == 0, 0)) (fun j => ?_) (fun i a hi ha kn => ?_) (fun kn => ?_)) ?_
 ·rw [aco (by simp [ige])]
 ·try dsimp only
  unfold anh
  have hg := hb a (List.mem_of_getElem? ha)
  unfold aff at hg
  rw [acp hi, aci ha, acm (by simp [ilt]; omega), acm (by simp [igt]; omega), acj hi (by omega)]
  simp
 ·try dsimp only
  unfold anh
  rw [acL]
  exact second
 ·simp
end
end Go.Proofs.ZzM
end
noncomputable section
namespace Go.Proofs.ZzM
open Go Go.Am
section
variable {b : acw}
theorem asQ (b : acw) (g : acS) : (acB b g).Pairwise (· < ·) := aLB _
theorem aKQ (h : ads b) {g : acS} (hg : g ∈ b.2.1) : ∃ t, acB b g = g.2.1 :: t := by
 have h1 := asQ b g
 have h2 := aiE (b := b) g
 have h3 : ∀ d ∈ acB b g, g.2.1 ≤ d := fun d hd => (h.day hg hd).1
 cases hd : acB b g with
 | nil => rw [hd] at h2; cases h2
 | cons a t =>
   rw [hd] at h1 h2 h3
   rw [List.pairwise_cons] at h1
   rcases List.mem_cons.1 h2 with e | e
   ·exact ⟨t, by rw [e]⟩
   ·have := h1.1 _ e
    have := h3 a (by simp)
    omega
def off (b : acw) (i : Nat) : Nat := ((b.2.1.take i).flatMap fun g => (acB b g).map fun d => ((g.1, d) : Int × Int)).length
theorem arZ {i : Nat} {g : acS} (hg : b.2.1[i]? = some g) : acd b = ((b.2.1.take i).flatMap fun g => (acB b g).map fun d => ((g.1, d) : Int × Int)) ++ (((acB b g).map fun d => ((g.1, d) : Int × Int)) ++ ((b.2.1.drop (i + 1)).flatMap fun g => (acB b g).map fun d => ((g.1, d) : Int × Int))) := by
 obtain ⟨hi, rfl⟩ := List.getElem?_eq_some_iff.1 hg
 have h1 : b.2.1 = b.2.1.take i ++ (b.2.1[i] :: b.2.1.drop (i + 1)) := by
  rw [← List.drop_eq_getElem_cons hi, List.take_append_drop]
 unfold acd
 conv => lhs; rw [h1]
 rw [List.flatMap_append, List.flatMap_cons]
theorem aF5 (h : ads b) {i : Nat} {g : acS} (hg : b.2.1[i]? = some g) {k : Nat} {d : Int} (hk : (acB b g)[k]? = some d) : agD (acd b) g.1 d = some (off b i + k) := by
 obtain ⟨hi, hgi⟩ := List.getElem?_eq_some_iff.1 hg
 obtain ⟨hkl, hkd⟩ := List.getElem?_eq_some_iff.1 hk
 unfold agD
 rw [arZ hg, List.findIdx?_append, List.findIdx?_append]
 have h1 : List.findIdx? (fun n : Int × Int => decide (g.1 = n.1) && decide (d = n.2)) ((b.2.1.take i).flatMap fun g => (acB b g).map fun d => ((g.1, d) : Int × Int)) = none := by
  rw [List.findIdx?_eq_none_iff]
  intro x hx
  obtain ⟨g', hg', hx⟩ := List.mem_flatMap.1 hx
  obtain ⟨d', _, rfl⟩ := List.mem_map.1 hx
  obtain ⟨j, hj, rfl⟩ := List.mem_iff_getElem.1 hg'
  rw [List.length_take] at hj
  rw [List.getElem_take]
  have := (List.pairwise_iff_getElem.1 h.ids) j i (by omega) hi (by omega)
  rw [hgi] at this
  simp only [Bool.and_eq_false_iff, decide_eq_false_iff_not]
  exact .inl (by omega)
 have h2 : List.findIdx? (fun n : Int × Int => decide (g.1 = n.1) && decide (d = n.2)) ((acB b g).map fun d => ((g.1, d) : Int × Int)) = some k := by
  rw [List.findIdx?_eq_some_iff_getElem]
  refine ⟨by simpa using hkl, by simp [hkd], fun j hj => ?_⟩
  have := (List.pairwise_iff_getElem.1 (asQ b g)) j k (by omega) hkl hj
  rw [hkd] at this
  simp only [List.getElem_map, Bool.and_eq_true, decide_eq_true_eq, not_and]
  intro _
  omega
 rw [h1, h2]
 simp only [Option.map_some, Option.some_or, Option.none_or]
 unfold off
 congr 1
 omega
theorem aSU {i : Nat} {g : acS} (hg : b.2.1[i]? = some g) {k : Nat} {d : Int} (hk : (acB b g)[k]? = some d) : (acd b)[off b i + k]? = some (g.1, d) := by
 obtain ⟨hkl, hkd⟩ := List.getElem?_eq_some_iff.1 hk
 rw [arZ hg, List.getElem?_append_right (by unfold off; omega), List.getElem?_append_left (by unfold off; simp; omega)]
 unfold off
 simp [hk]
theorem aTO (h : ads b) {i : Nat} {g : acS} (hg : b.2.1[i]? = some g) : atP (acd b) [g.1] g.2.1 = (off b i : Int) + 1 := by
 obtain ⟨t, ht⟩ := aKQ h (List.mem_of_getElem? hg)
 have := aF5 h hg (k := 0) (d := g.2.1) (by rw [ht]; rfl)
 unfold atP
 simp only [this]
 rfl
theorem aUF (h : ads b) {i : Nat} {g : acS} (hg : b.2.1[i]? = some g) : off b i + (acB b g).length ≤ (acd b).length := by
 rw [arZ hg]
 unfold off
 simp only [List.length_append, List.length_map]
 omega
theorem aSS {i : Nat} {g : acS} (hg : b.2.1[i]? = some g) : off b (i + 1) = off b i + (acB b g).length := by
 unfold off
 rw [take_succ hg, List.flatMap_append]
 simp
theorem aJe (h : ads b) {c : Cmp} (hc : c ∈ b.2.2.2.2.1) {x : Int} (hx : (x ∈ c.2.2.1 ∧ x ∉ c.2.2.2.1) ∨ (x ∈ c.2.2.2.1 ∧ x ∉ c.2.2.1)) : ∃ j, agD (acd b) x c.2.1 = some j := by
 have hm : x ∈ c.2.2.1 ++ c.2.2.2.1 := by rw [List.mem_append]; exact hx.imp (·.1) (·.1)
 obtain ⟨⟨g, hg, _⟩, _⟩ := h.pile hc hm
 obtain ⟨hgm, hgx⟩ := alg hg
 obtain ⟨i, hi, hgi⟩ := List.mem_iff_getElem.1 hgm
 have hd : c.2.1 ∈ acB b g := ai5.2 (.inr (.inl ⟨c, hc, by
  rw [hgx]
  rcases hx with ⟨h1, h2⟩ | ⟨h1, h2⟩
  ·have e1 : c.2.2.1.contains x = true := by simpa using h1
   have e2 : c.2.2.2.1.contains x = false := by simpa using h2
   rw [e1, e2]; simp
  ·have e1 : c.2.2.2.1.contains x = true := by simpa using h1
   have e2 : c.2.2.1.contains x = false := by simpa using h2
   rw [e1, e2]; simp, rfl⟩))
 obtain ⟨k, hk, hkd⟩ := List.mem_iff_getElem.1 hd
 have := aF5 h (g := g) (i := i) (by rw [List.getElem?_eq_getElem hi, hgi]) (k := k) (d := c.2.1) (by rw [List.getElem?_eq_getElem hk, hkd])
 rw [hgx] at this
 exact ⟨_, this⟩
inductive aPF (b : acw) (p : List Int) (d : Int) (n : Int) : Prop
 | none : p = [] → n = 0 → aPF b p d n
 | one (x : Int) (j : Nat) : p = [x] → agD (acd b) x d = some j → n = (j : Int) + 1 → aPF b p d n
theorem aHW (h : ads b) {c : Cmp} (hc : c ∈ b.2.2.2.2.1) : aPF b (ac6 c.2.2.1 c.2.2.2.1) c.2.1 (cx b c) := by
 have hl := (h.lefts hc).1
 cases hp : ac6 c.2.2.1 c.2.2.2.1 with
 | nil => exact .none rfl (by unfold cx atP; rw [hp])
 | cons x t =>
   rw [hp] at hl
   have : t = [] := by cases t with | nil => rfl | cons => simp at hl
   subst this
   obtain ⟨j, hj⟩ := aJe h hc (x := x) (.inl (aiZ.1 (by rw [hp]; simp)))
   exact .one x j rfl hj (by unfold cx atP; rw [hp]; simp only [hj])
theorem aCl (h : ads b) {c : Cmp} (hc : c ∈ b.2.2.2.2.1) : aPF b (ac6 c.2.2.2.1 c.2.2.1) c.2.1 (cy b c) := by
 have hl := (h.lefts hc).2.1
 cases hp : ac6 c.2.2.2.1 c.2.2.1 with
 | nil => exact .none rfl (by unfold cy atP; rw [hp])
 | cons x t =>
   rw [hp] at hl
   have : t = [] := by cases t with | nil => rfl | cons => simp at hl
   subst this
   obtain ⟨j, hj⟩ := aJe h hc (x := x) (.inr (aiZ.1 (by rw [hp]; simp)))
   exact .one x j rfl hj (by unfold cy atP; rw [hp]; simp only [hj])
theorem aPF.rng {p : List Int} {d n : Int} (h : aPF b p d n) : 0 ≤ n ∧ n < ((acd b).length + 1 : Nat) := by
 rcases h with ⟨_, h⟩ | ⟨x, j, _, h1, h2⟩
 ·omega
 ·have := (ahb h1).1
  omega
theorem aTq (h : ads b) {c : Cmp} (hc : c ∈ b.2.2.2.2.1) : cx b c ≠ cy b c := by
 have hl := (h.lefts hc).2.2
 rcases aHW h hc with ⟨h1, h2⟩ | ⟨x, j, h1, h2, h3⟩
 ·rcases aCl h hc with ⟨g1, g2⟩ | ⟨y, k, g1, g2, g3⟩
  ·rw [h1, g1] at hl; simp at hl
  ·omega
 ·rcases aCl h hc with ⟨g1, g2⟩ | ⟨y, k, g1, g2, g3⟩
  ·omega
  ·intro e
   have : j = k := by omega
   subst this
   have e1 := (ahb h2).2
   have e2 := (ahb g2).2
   rw [e1] at e2
   simp only [Option.some.injEq, Prod.mk.injEq] at e2
   have m1 : x ∈ ac6 c.2.2.1 c.2.2.2.1 := by rw [h1]; simp
   have m2 : y ∈ ac6 c.2.2.2.1 c.2.2.1 := by rw [g1]; simp
   rw [e2.1] at m1
   exact (aiZ.1 m1).2 (aiZ.1 m2).1
theorem aBO (h : ads b) : (acn b).length = 2 * (acd b).length + 2 * b.2.2.2.2.1.length := by
 have h1 : ∀ l : List acS, (∀ g ∈ l, g ∈ b.2.1) → (l.flatMap (adt b)).length = 2 * (l.flatMap fun g => (acB b g).map fun d => ((g.1, d) : Int × Int)).length := by
  intro l
  induction l with
  | nil => intro _; rfl
  | cons g t ih =>
    intro hm
    have := ih fun g hg => hm g (by simp [hg])
    have hp := List.length_pos_of_mem (aiE (b := b) g)
    simp only [List.flatMap_cons, List.length_append, List.length_map, this]
    unfold adt
    rw [List.length_append, agU _ _ (fun _ => rfl)]
    simp only [List.length_cons, List.length_nil]
    omega
 have h2 : ∀ l : List Cmp, (l.flatMap (ac3 b)).length = 2 * l.length := by
  intro l
  induction l with
  | nil => rfl
  | cons c t ih =>
    simp only [List.flatMap_cons, List.length_append, ih, ac3, List.length_cons, List.length_nil]
    omega
 unfold acn
 rw [List.length_append, h1 _ fun _ h => h, h2]
 rfl
theorem adJ (h : ads b) {i : Nat} {g : acS} (hg : b.2.1[i]? = some g) {l : Lk} : l ∈ adt b g ↔
 l = (0, (off b i : Int) + 1, g.2.2.1 + g.2.2.2.1.2) ∨ l = ((off b i : Int) + 1, 0, -(g.2.2.1 + g.2.2.2.1.1)) ∨
 ∃ (k : Nat) (d e : Int), (acB b g)[k]? = some d ∧ (acB b g)[k + 1]? = some e ∧ (l = ((off b i : Int) + k + 1, (off b i : Int) + k + 2, 0) ∨ l = ((off b i : Int) + k + 2, (off b i : Int) + k + 1, ag6 b g d e)) := by
 unfold adt
 rw [aTO h hg]
 simp only [List.mem_append, List.mem_cons, List.not_mem_nil, or_false, List.mem_flatMap, List.mem_range]
 constructor
 ·rintro ((h1 | h1) | ⟨k, hk, h1⟩)
  ·exact .inl h1
  ·exact .inr (.inl h1)
  ·refine .inr (.inr ⟨k, (acB b g)[k], (acB b g)[k + 1], List.getElem?_eq_getElem (by omega), List.getElem?_eq_getElem (by omega), ?_⟩)
   rw [List.getElem?_eq_getElem (show k < (acB b g).length by omega), List.getElem?_eq_getElem (show k + 1 < (acB b g).length by omega)] at h1
   simp only [Option.getD_some] at h1
   have e1 : (off b i : Int) + 1 + k = (off b i : Int) + k + 1 := by omega
   have e2 : (off b i : Int) + k + 1 + 1 = (off b i : Int) + k + 2 := by omega
   rw [e1, e2] at h1
   exact h1
 ·rintro (h1 | h1 | ⟨k, d, e, hd, he, h1⟩)
  ·exact .inl (.inl h1)
  ·exact .inl (.inr h1)
  ·obtain ⟨h2, rfl⟩ := List.getElem?_eq_some_iff.1 hd
   obtain ⟨h3, rfl⟩ := List.getElem?_eq_some_iff.1 he
   refine .inr ⟨k, by omega, ?_⟩
   rw [hd, he]
   simp only [Option.getD_some]
   have e1 : (off b i : Int) + 1 + k = (off b i : Int) + k + 1 := by omega
   have e2 : (off b i : Int) + k + 1 + 1 = (off b i : Int) + k + 2 := by omega
   rw [e1, e2]
   exact h1
theorem ajO {l : Lk} : l ∈ acn b ↔ (∃ (i : Nat) (g : acS), b.2.1[i]? = some g ∧ l ∈ adt b g) ∨ ∃ c ∈ b.2.2.2.2.1, l = (cy b c, cx b c, (afn b c).2) ∨ l = (cx b c, cy b c, -(afn b c).1) := by
 unfold acn
 simp only [List.mem_append, List.mem_flatMap, ac3, List.mem_cons, List.not_mem_nil, or_false]
 constructor
 ·rintro (⟨g, hg, h⟩ | h)
  ·obtain ⟨i, hi, rfl⟩ := List.mem_iff_getElem.1 hg
   exact .inl ⟨i, _, List.getElem?_eq_getElem hi, h⟩
  ·exact .inr h
 ·rintro (⟨i, g, hg, h⟩ | h)
  ·exact .inl ⟨g, List.mem_of_getElem? hg, h⟩
  ·exact .inr h
theorem ads.sys (h : ads b) : afe (acn b) ((acd b).length + 1) := by
 have hN := h.nodes
 have hL := h.links
 have key : ∀ l ∈ acn b, ((0 ≤ l.1 ∧ l.1 < ((acd b).length + 1 : Nat)) ∧ (0 ≤ l.2.1 ∧ l.2.1 < ((acd b).length + 1 : Nat))) ∧ l.1 ≠ l.2.1 ∧ (-4503599627370496 ≤ l.2.2 ∧ l.2.2 ≤ 4503599627370496) := by
  intro l hl
  rcases ajO.1 hl with ⟨i, g, hg, hl⟩ | ⟨c, hc, hl⟩
  ·have hgm := List.mem_of_getElem? hg
   have hr := h.gaugeR hgm
   have ho := aUF h hg
   have hp := List.length_pos_of_mem (aiE (b := b) g)
   have r1 := hr.2.2.2.2.2.1
   have r2 := hr.2.2.2.2.2.2.1
   rcases (adJ h hg).1 hl with rfl | rfl | ⟨k, d, e, hd, he, h1⟩
   ·dsimp only; omega
   ·dsimp only; omega
   ·obtain ⟨h2, _⟩ := List.getElem?_eq_some_iff.1 he
    have d1 := h.day hgm (List.mem_of_getElem? hd)
    have lb := anC h hgm (t := e) d1.2.1
    rcases h1 with rfl | rfl
    ·dsimp only; omega
    ·dsimp only; omega
  ·have a := (aHW h hc).rng
   have b' := (aCl h hc).rng
   have ne := aTq h hc
   have sb := azU h hc
   rcases hl with rfl | rfl
   ·dsimp only; omega
   ·dsimp only; omega
 exact ⟨by omega, by omega, by rw [aBO h]; omega, fun l hl => (key l hl).1, fun l hl => (key l hl).2.1, fun l hl => (key l hl).2.2⟩
end
def ale (b : acw) (x : List Int) : Bool := decide (x.length = (acd b).length) && x.all fun n => inP n (-4503599627370496) 4503599627370496
theorem aO9 {m : Maker} {x : List Int} (hn : m.2.1.length ≤ 1000000) : agx m x = some (if decide (x.length = m.2.1.length) && x.all fun n => inP n (-4503599627370496) 4503599627370496 then 0 else 1) := by
 unfold agx ail
 by_cases hl : x.length = m.2.1.length
 ·rw [acm (by rw [acA, acA, hl]; simp [ine])]
  refine Eq.trans (afS x (fun n => !inP n (-4503599627370496) 4503599627370496) (fun z => ifb (ige z 0) (some 1) (some 0)) (some 1) (some 0) (fun j => ?_) (fun i a hi ha kn => ?_) (fun kn => ?_)) ?_
  ·rw [aco (by simp [ige])]
  ·try dsimp only
   unfold afr
   rw [acp hi, aci ha, aeZ, ab3, acj hi (by omega), adH]
  ·try dsimp only
   unfold afr
   rw [acL]
  ·rw [show (x.any fun n => !inP n (-4503599627370496) 4503599627370496) = !(x.all fun n => inP n (-4503599627370496) 4503599627370496) from by rw [List.all_eq_not_any_not]; simp]
   cases (x.all fun n => inP n (-4503599627370496) 4503599627370496) <;> simp [hl]
 ·rw [aco (by rw [acA, acA]; simp [ine]; omega)]
  simp [hl]
def aRi (b : acw) (x : List Int) : Bool := aKK (acn b) (0 :: x)
def aIh (b : acw) (x : List Int) : Bool × Int := if acz b ≠ 0 then (false, acz b) else if ale b x then (aRi b x, 0) else (false, 1)
theorem aJp {b : acw} (h : ads b) {x : List Int} (hx : ale b x = true) (src : List (Int × Int)) : aiD (b, acd b, (((acd b).length : Int) + 1, acn b), src) x = some (aRi b x) := by
 simp only [ale, Bool.and_eq_true, decide_eq_true_eq, List.all_eq_true, inP] at hx
 have hN := h.nodes
 unfold aiD alG
 rw [adx (acq (by simp only [List.length_singleton]; omega))]
 have := aLk h.sys (x := [0] ++ x) (by simp; omega) (fun a ha => by
  unfold aff
  rcases List.mem_append.1 ha with ha | ha
  ·simp at ha; omega
  ·have := hx.2 a ha; omega)
 rw [show (((acd b).length : Int) + 1) = (((acd b).length + 1 : Nat) : Int) by push_cast; rfl]
 try dsimp only
 rw [this, ab3]
 unfold aRi
 have e : gv ([0] ++ x) 0 = 0 := rfl
 rw [e]
 simp
theorem aSf {b : acw} (hs : ahl b) (hr : ∀ g ∈ b.2.1, I64 g.2.2.2.2.1.1) (x : List Int) : ae3 b x = some (aIh b x) := by
 unfold ae3 aHB aIh
 rw [afX hs hr, ab3]
 by_cases hc : acz b = 0
 ·have h := (acv b).1 hc
  have hN := h.nodes
  rw [acm (by simp [ine, hc]), aGb h, ab3, aO9 (by dsimp only; omega), ab3, if_neg (show ¬ (acz b ≠ 0) from fun h => h hc)]
  rw [show (decide (x.length = (b, acd b, (((acd b).length : Int) + 1, acn b), aeq b).2.1.length) && x.all fun n => inP n (-4503599627370496) 4503599627370496) = ale b x from rfl]
  cases hl : ale b x with
  | false => rfl
  | true =>
    rw [if_pos rfl, acm (by rfl), aJp h hl, ab3, if_pos rfl]
 ·rw [aco (by simp [ine, hc]), if_pos hc]
end Go.Proofs.ZzM
end
noncomputable section
namespace Go.Proofs.ZzM
open Go Go.Am
theorem aRY {ρ : Type} : @ang ρ = @afz ρ := rfl
theorem aRX {ρ : Type} : @anf ρ = @aeb ρ := rfl
theorem aRW {ρ : Type} : @ane ρ = @adz ρ := rfl
theorem aKz {ρ : Type} {N : Nat} (hN : N ≤ 1000) (x : Option ρ) : acH ((ile (0 : Int) (N : Int)) && (acJ N)) x = x := by
 have := au9 hN x
 rwa [Int.toNat_natCast] at this
section
variable {L : List Lk} {N : Nat} {M : Int}
theorem aP2 {s : Int} (hs : 0 ≤ s ∧ s < N) : (List.replicate N aff).set s.toNat 0 = amK (aQs s) N := by
 refine aNY (by simp [acX]) fun v h0 h1 => ?_
 have hv : v < N := by simpa using h1
 rw [af8 _ h0 hv, apI hs.1 h0 (by simp; omega)]
 unfold aQs
 by_cases h : v = s
 ·simp [h]
 ·simp only [h, if_false, beq_iff_eq]
  unfold gv
  rw [List.getElem?_replicate]
  have : v.toNat < N := by omega
  simp [this]
theorem aK9 (hL : afW L N M) (h1 : 1 ≤ N) (hN : N ≤ 200) (ho : adR L N = true) {s : Int} (hs : 0 ≤ s ∧ s < N) : amz ((N : Int), L) [] s = some (ad2 L N s) := by
 obtain ⟨p, hp⟩ := (aep hL hN).1 ho
 unfold amz awp
 rw [aRY, aRX, aRW]
 dsimp only
 rw [au9 (by omega), Int.toNat_natCast]
 refine adf (List.replicate N (0 : Int)) (fun i => List.replicate i aff ++ List.replicate (N - i) 0) _ (by simp) (fun i a hi ha kn => ?_) (fun kn => ?_)
 ·dsimp only
  unfold ajt
  have hiN : i < N := by simpa using hi
  have hl : i < (List.replicate i aff ++ List.replicate (N - i) (0 : Int)).length := by simp; omega
  rw [acp hi, af7 hl, aex (List.getElem?_eq_getElem hl), acj hiN (by omega), Int.toNat_natCast]
  congr 2
  rw [List.set_append_right _ _ (by simp)]
  have : N - i = (N - (i + 1)) + 1 := by omega
  rw [this, List.length_replicate, Nat.sub_self, List.replicate_succ, List.set_cons_zero, List.replicate_succ']
  simp
 ·try dsimp only
  unfold ajt
  rw [acL]
  dsimp only
  have e0 : List.replicate (List.replicate N (0 : Int)).length aff ++ List.replicate (N - (List.replicate N (0 : Int)).length) 0 = List.replicate N aff := by simp
  rw [e0]
  have hlen : s.toNat < (List.replicate N aff).length := by simp; omega
  rw [show adj (List.replicate N aff) = ((N : Nat) : Int) by simp [adj], ae9 hs.1 hs.2, agW hlen, aKz (by omega), aKz (by omega), aP2 hs]
  refine Eq.trans (aNU hL _) ?_
  have hS : ∀ v, aQs s v = true → 0 ≤ v ∧ v < N := fun v h => by simp [aQs] at h; subst h; exact hs
  refine aP3 (acX _ _) (by omega) _ fun w q hw hq hr hwq hqs => ?_
  have hs0 := aEq hL h1 hS hw hq hr hwq hqs
  refine aIA hL (aSW hL hN) hp hS _ (fun x w t q hx hd => ?_) hs0
  have : x = ad2 L N s := by
   refine aNY (by rw [hx]; unfold ad2; rw [ad4, acX]) fun v a b => ?_
   exact hd.uniq (afV hL hN hp hs) a (by omega)
  dsimp only
  rw [this]
def afD (L : List Lk) (N : Nat) (s t : Int) : Int × Int :=
 if !adR L N then (0, 9) else if gv (ad2 L N s) t = aff then (0, 5) else (gv (ad2 L N s) t, 0)
theorem aOm (h : afe L N) {ns : List Int} (hn : ∀ n ∈ ns, 0 ≤ n ∧ n < N) (hl : ns.length ≤ 1000) : apO ((N : Int), L) ns = some (if adR L N then 0 else 9) := by
 have h2 := h.n60
 unfold apO aAY
 rw [agz h, ab3]
 dsimp only
 rw [acm (by rfl)]
 refine Eq.trans (af1 ns (fun _ => false) (fun _ => some 1) (some (if adR L N then 0 else 9)) (fun i n hi hm kn => ?_) (fun kn => ?_)) ?_
 ·try dsimp only
  unfold akY
  have a := hn n (List.mem_of_getElem? hm)
  have e : (decide (0 ≤ n) && decide (n < (N : Int))) = true := by simp [a.1, a.2]
  rw [acp hi, aci hm, aAh, ab3, e, acj hi (by omega)]
  simp
 ·try dsimp only
  unfold akY
  rw [acL, arP h.links h.n1 (by omega), ab3]
  cases adR L N <;> rfl
 ·rw [List.findIdx?_eq_none_iff.2 (by simp)]
theorem azF (h : afe L N) {s t : Int} (hs : 0 ≤ s ∧ s < N) (ht : 0 ≤ t ∧ t < N) : akr ((N : Int), L) s t = some (afD L N s t) := by
 have h2 := h.n60
 unfold akr aBd afD
 rw [aOm h (fun n hn => by simp at hn; rcases hn with rfl | rfl <;> assumption) (by simp), ab3]
 by_cases ho : adR L N = true
 ·rw [if_pos ho, acm (by rfl), aK9 h.links h.n1 (by omega) ho hs, ab3, ajg ht.1 (by unfold ad2; rw [ad4, acX]; omega), adH, if_neg (show ¬ (!adR L N) = true by simp [ho])]
  by_cases hf : gv (ad2 L N s) t = aff
  ·rw [if_pos (by simpa [ieq] using hf), if_pos hf]
  ·rw [if_neg (by simpa [ieq] using hf), if_neg hf]
 ·rw [if_neg ho, aco (by rfl), if_pos (show (!adR L N) = true by simpa using ho)]
end
end Go.Proofs.ZzM
end
noncomputable section
namespace Go.Proofs.ZzM
open Go Go.Am
def acD (b : acw) (c : Cmp) : acw := (b.1, b.2.1, b.2.2.1, b.2.2.2.1, b.2.2.2.2.1 ++ [c], b.2.2.2.2.2)
def ajF : acw := ((0, 0), [], [], [], [], [])
def ap3 (b : acw) (c : Cmp) : acw × Int := if acz b ≠ 0 then (ajF, acz b) else if acz (acD b c) ≠ 0 then (ajF, acz (acD b c)) else (acD b c, 0)
theorem aQD {b : acw} (h : ads b) {c : Cmp} (hA : c.2.2.1.length ≤ 1000) (hB : c.2.2.2.1.length ≤ 1000) : ahl (acD b c) := by
 have hs := h.size
 have := h.nC
 refine ⟨hs.gauges, hs.uses, hs.loans, by simp [acD]; omega, hs.looks, fun d hd => ?_⟩
 rcases List.mem_append.1 (show d ∈ b.2.2.2.2.1 ++ [c] from hd) with hd | hd
 ·exact hs.piles d hd
 ·simp at hd; subst hd; exact ⟨hA, hB⟩
theorem aR6 {b : acw} (hs : ahl b) (hr : ∀ g ∈ b.2.1, I64 g.2.2.2.2.1.1) {c : Cmp} (hA : c.2.2.1.length ≤ 1000) (hB : c.2.2.2.1.length ≤ 1000) : ajC b c = some (ap3 b c) := by
 unfold ajC aHv ap3
 have h1 := hs.gauges; have h2 := hs.uses; have h3 := hs.loans; have h4 := hs.compares; have h5 := hs.looks
 rw [acq (by omega), Am.iff_true, acq (by omega), Am.iff_true, afX hs hr, ab3]
 by_cases hc : acz b = 0
 ·have h := (acv b).1 hc
  rw [acm (by simp [ine, hc]), acq (by omega), Am.iff_true, acq (by omega), Am.iff_true, acq (by omega), Am.iff_true, acq (by omega), Am.iff_true, acq (by omega), Am.iff_true, if_neg (show ¬ (acz b ≠ 0) from fun h => h hc)]
  refine adf b.2.2.2.2.1 (fun _ => b.2.2.2.2.1) _ rfl (fun i d hi hd kn => ?_) (fun kn => ?_)
  ·dsimp only
   unfold anA
   obtain ⟨p1, p2⟩ := hs.piles d (List.mem_of_getElem? hd)
   have e1 : b.2.2.2.2.1.set i d = b.2.2.2.2.1 := by
    obtain ⟨h, rfl⟩ := List.getElem?_eq_some_iff.1 hd
    exact List.set_getElem_self h
   rw [acp hi, af7 hi, aex hd, acq (by omega), Am.iff_true, acq (by omega), Am.iff_true, af7 hi, aex hd, Int.toNat_natCast]
   rw [show (d.1, d.2.1, d.2.2.1, d.2.2.2) = d from rfl, e1, af7 hi, ahw hd, acj hi (by omega)]
   rw [show (d.1, d.2.1, d.2.2.1, d.2.2.2.1, d.2.2.2.2) = d from rfl, e1]
  ·try dsimp only
   unfold anA
   rw [acL]
   dsimp only
   rw [acq (by simp only [List.length_singleton]; omega), Am.iff_true]
   rw [show acP (b.1, b.2.1, b.2.2.1, b.2.2.2.1, b.2.2.2.2.1 ++ [c], b.2.2.2.2.2) = acP (acD b c) from rfl, afX (aQD h hA hB) hr, ab3]
   by_cases hc2 : acz (acD b c) = 0
   ·rw [acm (by simp [ine, hc2]), if_neg (show ¬ (acz (acD b c) ≠ 0) from fun h => h hc2)]
    rfl
   ·rw [aco (by simp [ine, hc2]), if_pos hc2]
    rfl
 ·rw [aco (by simp [ine, hc]), if_pos hc]
  rfl
def aca (c : Cmp) : Cmp := (c.1, c.2.1, c.2.2.1, c.2.2.2.1, 0, c.2.2.2.2.2)
def aMw (b : acw) (c : Cmp) : Int := aCt (adT b c).1 + (ahg b c).1 - c.2.2.2.2.2.1
def asH (b : acw) (c : Cmp) : Int := (adT b c).2.1 / (adT b c).2.2 + (ahg b c).2 + c.2.2.2.2.2.1
def azR (b : acw) (c : Cmp) (s : Int × Int) : (Int × Int) × Int := if asH b c < aMw b c then ((0, 0), 5) else ((s.1 + aMw b c, s.2 + asH b c), 0)
structure aTV (b : acw) (c : Cmp) : Prop where
 nums : aOS c = true
 r1 : amI (ays (ajX b) (ac6 c.2.2.1 c.2.2.2.1)) 1000 100
 r2 : amI (ays (ajX b) (ac6 c.2.2.2.1 c.2.2.1)) 1000 100
theorem ads.cmp {b : acw} (h : ads b) {c : Cmp} (hc : c ∈ b.2.2.2.2.1) : aTV b c := ⟨h.nums hc, (h.rates hc).1, (h.rates hc).2⟩
theorem axm {b : acw} (hf : 0 ≤ b.1.1 ∧ b.1.1 ≤ b.1.2 ∧ b.1.2 ≤ 1000000) {c : Cmp} (h : aTV b c) : amI (adT b c).1 2000000000 10000 ∧ amI (adT b c).2 2000000000 10000 ∧ (-3000000000 ≤ aCt (adT b c).1 + (ahg b c).1 ∧ aCt (adT b c).1 + (ahg b c).1 ≤ 3000000000) ∧
 (-3000000000 ≤ (adT b c).2.1 / (adT b c).2.2 + (ahg b c).2 ∧ (adT b c).2.1 / (adT b c).2.2 + (ahg b c).2 ≤ 3000000000) ∧ (0 ≤ c.2.2.2.2.2.1 ∧ c.2.2.2.2.2.1 ≤ 1073741824) := by
 have hn := (ahv c).1 h.nums
 have ha := ae0 hn.2.2.2.2.2.1
 have hb := ae0 hn.2.2.2.2.2.2
 obtain ⟨g1, g2⟩ := aF2 (aFH h.r1 h.r2) hn.2.2.2.2.1
 have fb := asO (b := b) (c := c) (by omega) (by omega) (by omega) (by omega) (by omega) (by omega)
 have q1 : amI (adT b c).1 2000000000 10000 := g1
 have q2 : amI (adT b c).2 2000000000 10000 := g2
 have c1 := aw6 q1
 have c2 := asL q2
 exact ⟨q1, q2, by omega, by omega, hn.2.2.2.1⟩
theorem aSF {b : acw} (hs : ahl b) (hf : 0 ≤ b.1.1 ∧ b.1.1 ≤ b.1.2 ∧ b.1.2 ≤ 1000000) {c : Cmp} (h : aTV b c) {s : Int × Int} (h1 : -2305843009213693952 ≤ s.1 ∧ s.1 ≤ 2305843009213693952) (h2 : -2305843009213693952 ≤ s.2 ∧ s.2 ≤ 2305843009213693952) : amB b c s = some (azR b c s) := by
 have hn := (ahv c).1 h.nums
 have ha := ae0 hn.2.2.2.2.2.1
 have hb := ae0 hn.2.2.2.2.2.2
 obtain ⟨q1, q2, b1, b2, b3⟩ := axm hf h
 unfold amB aBw azR aMw asH
 rw [aKD hs (by omega) (by omega) h.r1 h.r2 hn.2.2.2.2.1, ab3, aN5 (by omega) (by omega) (by omega) (by omega) (by omega) (by omega), ab3, aSi q1.rat, ab3, aOw q2.rat, ab3]
 dsimp only
 rw [acr (by omega) (by omega), acr (by omega) (by omega), acr (by omega) (by omega), acr (by omega) (by omega), adH]
 by_cases hlt : (adT b c).2.1 / (adT b c).2.2 + (ahg b c).2 + c.2.2.2.2.2.1 < aCt (adT b c).1 + (ahg b c).1 - c.2.2.2.2.2.1
 ·rw [if_pos (by simpa [igt] using hlt), if_pos hlt]
 ·rw [if_neg (by simpa [igt] using hlt), if_neg hlt, acr (by omega) (by omega), acr (by omega) (by omega)]
def acO (b : acw) : List Lk := (acn b).take ((acn b).length - 2)
def adG (b : acw) (c : Cmp) : (Int × Int) × Int :=
 if (ap3 b (aca c)).2 ≠ 0 then ((0, 0), (ap3 b (aca c)).2) else
 if (afD (acO (acD b (aca c))) ((acd (acD b (aca c))).length + 1) (cy (acD b (aca c)) (aca c)) (cx (acD b (aca c)) (aca c))).2 ≠ 0 then
  ((0, 0), (afD (acO (acD b (aca c))) ((acd (acD b (aca c))).length + 1) (cy (acD b (aca c)) (aca c)) (cx (acD b (aca c)) (aca c))).2) else
 if (afD (acO (acD b (aca c))) ((acd (acD b (aca c))).length + 1) (cx (acD b (aca c)) (aca c)) (cy (acD b (aca c)) (aca c))).2 ≠ 0 then
  ((0, 0), (afD (acO (acD b (aca c))) ((acd (acD b (aca c))).length + 1) (cx (acD b (aca c)) (aca c)) (cy (acD b (aca c)) (aca c))).2) else
 azR b (aca c) (-(afD (acO (acD b (aca c))) ((acd (acD b (aca c))).length + 1) (cx (acD b (aca c)) (aca c)) (cy (acD b (aca c)) (aca c))).1,
  (afD (acO (acD b (aca c))) ((acd (acD b (aca c))).length + 1) (cy (acD b (aca c)) (aca c)) (cx (acD b (aca c)) (aca c))).1)
theorem aLn {L : List Lk} {N : Nat} (h : afe L N) {s t : Int} (hs : 0 ≤ s ∧ s < N) (ht : 0 ≤ t ∧ t < N) : -2305843009213693952 ≤ (afD L N s t).1 ∧ (afD L N s t).1 ≤ 2305843009213693952 := by
 unfold afD
 have h2 := h.n60
 split
 ·simp
 ·rename_i ho
  have ho' : adR L N = true := by simpa using ho
  obtain ⟨p, hp⟩ := (aep h.links (by omega)).1 ho'
  have hd := afV h.links (by omega) hp hs
  split
  ·simp
  ·rename_i hne
   dsimp only
   have hb := hd.bd t ht.1 ht.2
   obtain ⟨vs, hw⟩ := hd.att t ht.1 ht.2 hne
   have h3 := hw.low' hp
   have h4 := aF7 (L := L) (fun l hl => (h.most l hl).1) (M := 4503599627370496) (by omega)
   have h5 := h.len
   unfold aff at hb
   constructor <;> omega
theorem aPE {b : acw} (hs : ahl b) (hr : ∀ g ∈ b.2.1, I64 g.2.2.2.2.1.1) {c : Cmp} (hA : c.2.2.1.length ≤ 1000) (hB : c.2.2.2.1.length ≤ 1000) : anN b c = some (adG b c) := by
 unfold anN asD adG
 rw [show ajC b (c.1, c.2.1, c.2.2.1, c.2.2.2.1, 0, c.2.2.2.2.2) = ajC b (aca c) from rfl, aR6 hs hr (c := aca c) hA hB, ab3]
 by_cases hw : (ap3 b (aca c)).2 = 0
 ·rw [acm (by simp [ine, hw]), if_neg (show ¬ ((ap3 b (aca c)).2 ≠ 0) from fun h => h hw)]
  -- the book is valid, and so is the greater one
  have hb : acz b = 0 := by
   unfold ap3 at hw
   split at hw
   ·rename_i h; exact (h hw).elim
   ·rename_i h; simpa using h
  have hm : acz (acD b (aca c)) = 0 := by
   unfold ap3 at hw
   rw [if_neg (by simp [hb])] at hw
   split at hw
   ·rename_i h; exact (h hw).elim
   ·rename_i h; simpa using h
  have he : ap3 b (aca c) = (acD b (aca c), 0) := by
   unfold ap3
   rw [if_neg (by simp [hb]), if_neg (by simp [hm])]
  have g := (acv b).1 hb
  have gm := (acv _).1 hm
  have hmem : aca c ∈ (acD b (aca c)).2.2.2.2.1 := by simp [acD]
  have hN := gm.nodes
  have hll := aBO gm
  have hcl : (acD b (aca c)).2.2.2.2.1.length = b.2.2.2.2.1.length + 1 := by simp [acD]
  have hlk := gm.links
  have hsys : afe (acO (acD b (aca c))) ((acd (acD b (aca c))).length + 1) := gm.sys.sub (fun l hl => List.mem_of_mem_take hl) (by unfold acO; rw [List.length_take]; omega)
  have hx := (aHW gm hmem).rng
  have hy := (aCl gm hmem).rng
  have lA : c.2.2.1.length ≤ 1000 := hA
  rw [he]
  dsimp only
  rw [aGb gm, ab3]
  dsimp only
  rw [acA, acr (by omega) (by omega)]
  have e1 : ((ile (0 : Int) (((acn (acD b (aca c))).length : Int) - 2)) && (ile (((acn (acD b (aca c))).length : Int) - 2) (adj (acn (acD b (aca c)))))) = true := by
   simp [ile, adj]; omega
  have e2 : (((acn (acD b (aca c))).length : Int) - 2).toNat = (acn (acD b (aca c))).length - 2 := by omega
  rw [adx e1, alI (by omega) (by omega), ab3, aR1 _ _ _ (by dsimp only; omega), ab3, alI (by omega) (by omega), ab3, aR1 _ _ _ (by dsimp only; omega), ab3, e2]
  have e3 : (((acd (acD b (aca c))).length : Int) + 1) = (((acd (acD b (aca c))).length + 1 : Nat) : Int) := by push_cast; rfl
  rw [e3]
  rw [show List.take ((acn (acD b (aca c))).length - 2) (acn (acD b (aca c))) = acO (acD b (aca c)) from rfl]
  dsimp only
  rw [show atP (acd (acD b (aca c))) (ac6 c.2.2.1 c.2.2.2.1) c.2.1 = cx (acD b (aca c)) (aca c) from rfl, show atP (acd (acD b (aca c))) (ac6 c.2.2.2.1 c.2.2.1) c.2.1 = cy (acD b (aca c)) (aca c) from rfl]
  rw [azF hsys hy hx, ab3, azF hsys hx hy]
  have b1 := aLn hsys hy hx
  have b2 := aLn hsys hx hy
  generalize hB1 : afD (acO (acD b (aca c))) ((acd (acD b (aca c))).length + 1) (cy (acD b (aca c)) (aca c)) (cx (acD b (aca c)) (aca c)) = B1 at b1 ⊢
  generalize hB2 : afD (acO (acD b (aca c))) ((acd (acD b (aca c))).length + 1) (cx (acD b (aca c)) (aca c)) (cy (acD b (aca c)) (aca c)) = B2 at b2 ⊢
  by_cases h1 : B1.2 = 0
  ·rw [acm (by simp [ine, h1]), if_neg (show ¬ (B1.2 ≠ 0) from fun h => h h1), ab3]
   by_cases h2 : B2.2 = 0
   ·rw [acm (by simp [ine, h2]), if_neg (show ¬ (B2.2 ≠ 0) from fun h => h h2), acr (by omega) (by omega)]
    have hck : aTV b (aca c) := ⟨(gm.cmp hmem).nums, (gm.cmp hmem).r1, (gm.cmp hmem).r2⟩
    rw [show amB b (c.1, c.2.1, c.2.2.1, c.2.2.2.1, 0, c.2.2.2.2.2) (0 - B2.1, B1.1) = amB b (aca c) (0 - B2.1, B1.1) from rfl, aSF g.size g.film hck (by dsimp only; omega) (by dsimp only; omega), ab3, Int.zero_sub]
   ·rw [aco (by simp [ine, h2]), if_pos h2]
  ·rw [aco (by simp [ine, h1]), if_pos h1]
 ·rw [aco (by simp [ine, hw]), if_pos hw]
end Go.Proofs.ZzM
end
noncomputable section
namespace Go.Proofs.ZzM
open Go Go.Am
structure In (b : acw) : Prop where
 size : ahl b
 num : ∀ g ∈ b.2.1, I64 g.2.2.2.2.1.1
def aIg (b : acw) : Sys × List (Int × Int) × Int := if acz b ≠ 0 then ((0, []), [], acz b) else ((((acd b).length : Int) + 1, acn b), aeq b, 0)
theorem aky {b : acw} (h : In b) : adu b = some (aIg b) := by
 unfold adu awG aIg
 rw [afX h.size h.num, ab3]
 by_cases hc : acz b = 0
 ·rw [acm (by simp [ine, hc]), aGb ((acv b).1 hc), ab3, if_neg (show ¬ (acz b ≠ 0) from fun h => h hc)]
 ·rw [aco (by simp [ine, hc]), if_pos hc]
def cmp0 : Cmp := (0, 0, [], [], 0, 0, 0, 0)
def alQ (b : acw) (i : Int) : Cmp × Int := if acz b ≠ 0 then (cmp0, acz b) else if i < 0 ∨ (b.2.2.2.2.1.length : Int) ≤ i then (cmp0, 1) else (b.2.2.2.2.1[i.toNat]?.getD cmp0, 0)
theorem aSt {b : acw} (h : In b) (i : Int) : avl b i = some (alQ b i) := by
 unfold avl aBu alQ
 rw [afX h.size h.num, ab3]
 by_cases hc : acz b = 0
 ·rw [acm (by simp [ine, hc]), if_neg (show ¬ (acz b ≠ 0) from fun h => h hc), acA]
  by_cases h1 : i < 0
  ·rw [aco (by simp [ilt, h1]), if_pos (.inl h1)]; rfl
  ·rw [acm (by simp [ilt]; omega)]
   by_cases h2 : (b.2.2.2.2.1.length : Int) ≤ i
   ·rw [aco (by simp [ige, h2]), if_pos (.inr h2)]; rfl
   ·rw [acm (by simp [ige]; omega), if_neg (by omega)]
    obtain ⟨j, rfl⟩ := Int.eq_ofNat_of_zero_le (show 0 ≤ i by omega)
    have hj : j < b.2.2.2.2.1.length := by omega
    rw [aci (List.getElem?_eq_getElem hj), Int.toNat_natCast, List.getElem?_eq_getElem hj]
    rfl
 ·rw [aco (by simp [ine, hc]), if_pos hc]; rfl
theorem aLs {b : acw} {i : Int} (h : (alQ b i).2 = 0) : ads b ∧ (alQ b i).1 ∈ b.2.2.2.2.1 ∧ b.2.2.2.2.1[i.toNat]? = some (alQ b i).1 ∧ 0 ≤ i := by
 unfold alQ at h ⊢
 split at h
 ·rename_i hc; exact (hc h).elim
 ·rename_i hc
  have hc0 : acz b = 0 := by simpa using hc
  split at h
  ·simp at h
  ·rename_i hi
   have hj : i.toNat < b.2.2.2.2.1.length := by omega
   rw [if_neg hc, if_neg hi, List.getElem?_eq_getElem hj]
   exact ⟨(acv b).1 hc0, List.getElem_mem hj, rfl, by omega⟩
def aTS (b : acw) (i : Int) : (Int × Int) × Int := if (alQ b i).2 ≠ 0 then ((0, 0), (alQ b i).2) else (afn b (alQ b i).1, 0)
theorem aVf {b : acw} (h : In b) (i : Int) : azz b i = some (aTS b i) := by
 unfold azz aHx aTS
 rw [aSt h, ab3]
 by_cases hw : (alQ b i).2 = 0
 ·obtain ⟨g, hm, _, _⟩ := aLs hw
  rw [acm (by simp [ine, hw]), g.says hm, ab3, if_neg (show ¬ ((alQ b i).2 ≠ 0) from fun h => h hw)]
 ·rw [aco (by simp [ine, hw]), if_pos hw]
def exB : acw := ((0, 2), [(1, 0, 1000, (-5, 5), (1, 10), 1), (2, 0, 1000, (-50, 50), (1, 4), 0)], [(1, 10)], [(1, (20, 29), 3)], [(7, 10, [1], [2], -20, 1, 100, 200)], [])
theorem apT : In exB := ⟨⟨by decide, by decide, by decide, by decide, by decide, by decide⟩, by
 intro g hg
 simp [exB] at hg
 rcases hg with rfl | rfl <;> exact ⟨by decide, by decide⟩⟩
def exC : Cmp := (8, 10, [1], [2], 0, 0, 0, 0)
end Go.Proofs.ZzM
end
noncomputable section
namespace Go.Proofs.ZzM
open Go Go.Am
def agl (b : acw) (x d : Int) : Int := match agD (acd b) x d with | some j => (j : Int) + 1 | none => 0
def aoq (b : acw) (n : Int × Int) : Int × Int := if acz b ≠ 0 then (0, acz b) else if agl b n.1 n.2 = 0 then (0, 5) else (agl b n.1 n.2, 0)
theorem amJ {b : acw} (h : In b) (n : Int × Int) : adr b n = some (aoq b n) := by
 have hl := avP h.size
 unfold adr aBL aoq
 rw [afX h.size h.num, ab3]
 by_cases hc : acz b = 0
 ·rw [acm (by simp [ine, hc]), if_neg (show ¬ (acz b ≠ 0) from fun h => h hc), aF4 h.size, ab3, show acQ (acd b) n = acQ (acd b) (n.1, n.2) from rfl, aLh (by omega), ab3]
  unfold agl
  cases hx : agD (acd b) n.1 n.2 with
  | none => rfl
  | some j =>
    have := (ahb hx).1
    simp only
    rw [acm (by simp [ilt]), acr (by omega) (by omega), if_neg (by omega)]
 ·rw [aco (by simp [ine, hc]), if_pos hc]
end Go.Proofs.ZzM
end
noncomputable section
namespace Go.Proofs.ZzM
open Go Go.Am
def ahq (b : acw) (n : Int × Int) : acw := (b.1, b.2.1, b.2.2.1, b.2.2.2.1, b.2.2.2.2.1, b.2.2.2.2.2 ++ [n])
theorem aQQ {b : acw} (h : ads b) (n : Int × Int) : ahl (ahq b n) := by
 have hs := h.size
 have := h.nK
 exact ⟨hs.gauges, hs.uses, hs.loans, hs.compares, by simp [ahq]; omega, hs.piles⟩
def ay6 (b : acw) (n : Int × Int) : acw × Int := if acz b ≠ 0 then (ajF, acz b) else if acz (ahq b n) ≠ 0 then (ajF, acz (ahq b n)) else (ahq b n, 0)
theorem aM8 {b : acw} (h : In b) (n : Int × Int) : aeK b n = some (ay6 b n) := by
 have hs := h.size
 have h1 := hs.gauges; have h2 := hs.uses; have h3 := hs.loans; have h4 := hs.compares; have h5 := hs.looks
 unfold aeK aHz ay6
 rw [afX hs h.num, ab3]
 by_cases hc : acz b = 0
 ·have hg := (acv b).1 hc
  rw [acm (by simp [ine, hc]), acq (by omega), Am.iff_true, acq (by omega), Am.iff_true, acq (by omega), Am.iff_true, acq (by omega), Am.iff_true, acq (by omega), Am.iff_true, if_neg (show ¬ (acz b ≠ 0) from fun h => h hc)]
  refine adf b.2.2.2.2.1 (fun _ => b.2.2.2.2.1) _ rfl (fun i d hi hd kn => ?_) (fun kn => ?_)
  ·dsimp only
   unfold anB
   obtain ⟨p1, p2⟩ := hs.piles d (List.mem_of_getElem? hd)
   have e1 : b.2.2.2.2.1.set i d = b.2.2.2.2.1 := by
    obtain ⟨h, rfl⟩ := List.getElem?_eq_some_iff.1 hd
    exact List.set_getElem_self h
   rw [acp hi, af7 hi, aex hd, acq (by omega), Am.iff_true, acq (by omega), Am.iff_true, af7 hi, aex hd, Int.toNat_natCast]
   rw [show (d.1, d.2.1, d.2.2.1, d.2.2.2) = d from rfl, e1, af7 hi, ahw hd, acj hi (by omega)]
   rw [show (d.1, d.2.1, d.2.2.1, d.2.2.2.1, d.2.2.2.2) = d from rfl, e1]
  ·try dsimp only
   unfold anB
   rw [acL]
   dsimp only
   rw [acq (by simp only [List.length_singleton]; omega), Am.iff_true]
   rw [show acP (b.1, b.2.1, b.2.2.1, b.2.2.2.1, b.2.2.2.2.1, b.2.2.2.2.2 ++ [n]) = acP (ahq b n) from rfl, afX (aQQ hg n) h.num, ab3]
   by_cases hc2 : acz (ahq b n) = 0
   ·rw [acm (by simp [ine, hc2]), if_neg (show ¬ (acz (ahq b n) ≠ 0) from fun h => h hc2)]
    rfl
   ·rw [aco (by simp [ine, hc2]), if_pos hc2]
    rfl
 ·rw [aco (by simp [ine, hc]), if_pos hc]
  rfl
end Go.Proofs.ZzM
end
noncomputable section
namespace Go.Proofs.ZzM
open Go Go.Am
theorem aSg {b : acw} {x : List Int} : aIh b x = (true, 0) ↔ ads b ∧ ale b x = true ∧ aRi b x = true := by
 unfold aIh
 constructor
 ·intro h
  split at h
  ·cases h
  ·rename_i hc
   have hc0 : acz b = 0 := by simpa using hc
   split at h
   ·rename_i hl
    simp only [Prod.mk.injEq, and_true] at h
    exact ⟨(acv b).1 hc0, hl, h⟩
   ·cases h
 ·rintro ⟨h1, h2, h3⟩
  rw [if_neg (by simp [(acv b).2 h1]), if_pos h2, h3]
theorem aKo {b : acw} {x : List Int} : ale b x = true ↔ x.length = (acd b).length ∧ ∀ n ∈ x, -4503599627370496 ≤ n ∧ n ≤ 4503599627370496 := by
 simp [ale, inP]
theorem aRj {L : List Lk} {x : List Int} : aKK L x = true ↔ Pot L (gv x) := by
 simp only [aKK, List.all_eq_true, decide_eq_true_eq, Pot]
 exact ⟨fun h u v m hl => h (u, v, m) hl, fun h l hl => h l.1 l.2.1 l.2.2 hl⟩
theorem aUP (a : Int) (x : List Int) {v : Int} (hv : 0 ≤ v) : gv (a :: x) v = if v = 0 then a else gv x (v - 1) := by
 unfold gv
 by_cases h : v = 0
 ·subst h; rfl
 ·obtain ⟨n, rfl⟩ := Int.eq_ofNat_of_zero_le hv
  cases n with
  | zero => simp at h
  | succ n =>
    have e : (((n + 1 : Nat) : Int) - 1).toNat = n := by omega
    rw [if_neg h, e]
    simp
end Go.Proofs.ZzM
end
noncomputable section
namespace Go.Proofs.ZzM
open Go Go.Am
section
variable {b : acw}
theorem aUG : off b b.2.1.length = (acd b).length := by unfold off acd; rw [List.take_length]
theorem aST : ∀ n, n ≤ b.2.1.length → ∀ j, j < off b n → ∃ (i : Nat) (g : acS) (k : Nat), b.2.1[i]? = some g ∧ k < (acB b g).length ∧ j = off b i + k := by
 intro n
 induction n with
 | zero => intro _ j hj; simp [off] at hj
 | succ n ih =>
   intro hn j hj
   have hg : b.2.1[n]? = some b.2.1[n] := List.getElem?_eq_getElem (by omega)
   rw [aSS hg] at hj
   by_cases h : j < off b n
   ·exact ih (by omega) j h
   ·exact ⟨n, _, j - off b n, hg, by omega, by omega⟩
theorem aEG {v : Int} (h0 : 1 ≤ v) (h1 : v < ((acd b).length + 1 : Nat)) : ∃ (i : Nat) (g : acS) (k : Nat), b.2.1[i]? = some g ∧ k < (acB b g).length ∧ v = (off b i : Int) + k + 1 := by
 obtain ⟨i, g, k, h2, h3, h4⟩ := aST (b := b) b.2.1.length (Nat.le_refl _) (v - 1).toNat (by rw [aUG]; omega)
 exact ⟨i, g, k, h2, h3, by omega⟩
def GL (b : acw) (L : List Lk) : Prop := ∀ (i : Nat) (g : acS), b.2.1[i]? = some g → ∀ l ∈ adt b g, l ∈ L
theorem azt : GL b (acn b) := fun i g hg l hl => ajO.2 (.inl ⟨i, g, hg, hl⟩)
theorem aLv {L : List Lk} (h : ads b) (hL : GL b L) {v : Int} (h0 : 0 ≤ v) (h1 : v < ((acd b).length + 1 : Nat)) : ∃ vs d, Wl L (fun u => u = 0) vs v d ∧ d ≤ 4503599627370496 := by
 by_cases hv : v = 0
 ·exact ⟨[], 0, .nil hv, by omega⟩
 obtain ⟨i, g, k, hg, hk, rfl⟩ := aEG (by omega) h1
 have hr := h.gaugeR (List.mem_of_getElem? hg)
 have r1 := hr.2.2.2.2.2.1
 have r2 := hr.2.2.2.2.2.2.1
 have key : ∀ k : Nat, k < (acB b g).length → ∃ vs, Wl L (fun u => u = 0) vs ((off b i : Int) + k + 1) (g.2.2.1 + g.2.2.2.1.2) := by
  intro k
  induction k with
  | zero =>
    intro _
    have hw : Wl L (fun u => u = 0) [0] ((off b i : Int) + 1) (0 + (g.2.2.1 + g.2.2.2.1.2)) := Wl.step (.nil rfl) (hL i g hg _ ((adJ h hg).2 (.inl rfl)))
    rw [Int.zero_add] at hw
    exact ⟨[0], by simpa using hw⟩
  | succ k ih =>
    intro hk
    obtain ⟨vs, hw⟩ := ih (by omega)
    have hw' := Wl.step hw (hL i g hg _ ((adJ h hg).2 (.inr (.inr ⟨k, _, _, List.getElem?_eq_getElem (show k < _ by omega), List.getElem?_eq_getElem hk, .inl rfl⟩))))
    rw [Int.add_zero] at hw'
    have e : (off b i : Int) + ((k + 1 : Nat) : Int) + 1 = (off b i : Int) + k + 2 := by push_cast; omega
    exact ⟨_, by rw [e]; exact hw'⟩
 obtain ⟨vs, hw⟩ := key k hk
 exact ⟨vs, _, hw, by omega⟩
theorem azJ {L : List Lk} (h : ads b) (hL : GL b L) {v : Int} (h0 : 0 ≤ v) (h1 : v < ((acd b).length + 1 : Nat)) : ∃ vs d, Wl L (fun u => u = v) vs 0 d ∧ d ≤ 4503599627370496 := by
 by_cases hv : v = 0
 ·exact ⟨[], 0, .nil hv.symm, by omega⟩
 obtain ⟨i, g, k, hg, hk, rfl⟩ := aEG (by omega) h1
 have hgm := List.mem_of_getElem? hg
 have hr := h.gaugeR hgm
 have r1 := hr.2.2.2.2.2.1
 have r2 := hr.2.2.2.2.2.2.1
 have hd := aHU h hgm
 have key : ∀ m : Nat, m ≤ k → ∃ vs d, Wl L (fun u => u = (off b i : Int) + k + 1) vs ((off b i : Int) + (k - m : Nat) + 1) d ∧ d ≤ m * (12 * (20001 * 1048576) + 40 * 1048576) := by
  intro m
  induction m with
  | zero => intro _; exact ⟨[], 0, .nil (by simp), by simp⟩
  | succ m ih =>
    intro hm
    obtain ⟨vs, d, hw, hd⟩ := ih (by omega)
    have e1 : ((k - m : Nat) : Int) = ((k - (m + 1) : Nat) : Int) + 1 := by omega
    have hl : (((off b i : Int) + (k - (m + 1) : Nat) + 2, (off b i : Int) + (k - (m + 1) : Nat) + 1, ag6 b g ((acB b g)[k - (m + 1)]'(by omega)) ((acB b g)[k - (m + 1) + 1]'(by omega))) : Lk) ∈ L :=
     hL i g hg _ ((adJ h hg).2 (.inr (.inr ⟨k - (m + 1), _, _, List.getElem?_eq_getElem (by omega), List.getElem?_eq_getElem (by omega), .inr rfl⟩)))
    have hb := anC h hgm (f := (acB b g)[k - (m + 1)]'(by omega)) (t := (acB b g)[k - (m + 1) + 1]'(by omega)) (h.day hgm (List.getElem_mem _)).2.1
    have e2 : (off b i : Int) + (k - m : Nat) + 1 = (off b i : Int) + (k - (m + 1) : Nat) + 2 := by omega
    rw [e2] at hw
    exact ⟨_, _, .step hw hl, by push_cast; omega⟩
 obtain ⟨vs, d, hw, hdb⟩ := key k (Nat.le_refl _)
 have e : (off b i : Int) + (k - k : Nat) + 1 = (off b i : Int) + 1 := by omega
 rw [e] at hw
 have hw' := Wl.step hw (hL i g hg _ ((adJ h hg).2 (.inr (.inl rfl))))
 exact ⟨_, _, hw', by omega⟩
theorem aSK (h : ads b) {p : Int → Int} (hp : Pot (acn b) p) {v : Int} (h0 : 0 ≤ v) (h1 : v < ((acd b).length + 1 : Nat)) : -4503599627370496 ≤ p v - p 0 ∧ p v - p 0 ≤ 4503599627370496 := by
 obtain ⟨vs, d, hw, hd⟩ := aLv h azt h0 h1
 obtain ⟨ws, e, hx, he⟩ := azJ h azt h0 h1
 obtain ⟨s, rfl, hs⟩ := hw.pot hp
 obtain ⟨t, rfl, ht⟩ := hx.pot hp
 omega
end
structure aqP (L : List Lk) (N : Nat) : Prop where
 to : ∀ v : Int, 0 ≤ v → v < N → ∃ vs d, Wl L (fun u => u = 0) vs v d ∧ d ≤ 4503599627370496
 from' : ∀ v : Int, 0 ≤ v → v < N → ∃ vs d, Wl L (fun u => u = v) vs 0 d ∧ d ≤ 4503599627370496
theorem ads.tied {b : acw} (h : ads b) : aqP (acn b) ((acd b).length + 1) := ⟨fun v h0 h1 => aLv h azt h0 h1, fun v h0 h1 => azJ h azt h0 h1⟩
theorem ads.tiedL {b : acw} {L : List Lk} (h : ads b) (hL : GL b L) : aqP L ((acd b).length + 1) := ⟨fun v h0 h1 => aLv h hL h0 h1, fun v h0 h1 => azJ h hL h0 h1⟩
section
variable {L : List Lk} {N : Nat}
theorem aJd {L : List Lk} {s : Int} {vs : List Int} {v d : Int} : Wl L (fun v => aQs s v = true) vs v d ↔ Wl L (fun u => u = s) vs v d :=
 ⟨fun h => h.mono fun u hu => by simpa [aQs] using hu, fun h => h.mono fun u hu => by simpa [aQs] using hu⟩
theorem akx (s : Int) : (ad2 L N s).length = N := by unfold ad2; rw [ad4, acX]
theorem axb (h : afe L N) (ht : aqP L N) (ho : adR L N = true) {v : Int} (h0 : 0 ≤ v) (h1 : v < N) : gv (ad2 L N 0) v ≤ 4503599627370496 := by
 have h2 := h.n60
 have h3 := h.n1
 obtain ⟨p, hp⟩ := (aep h.links (by omega)).1 ho
 obtain ⟨vs, d, hw, hd⟩ := ht.to v h0 h1
 have := (afV h.links (by omega) hp (s := 0) ⟨by omega, by omega⟩).low v vs d (aJd.2 hw)
 omega
theorem aPA (h : afe L N) (ht : aqP L N) (ho : adR L N = true) {v : Int} (h0 : 0 ≤ v) (h1 : v < N) : gv (ad2 L N v) 0 ≤ 4503599627370496 := by
 have h2 := h.n60
 have h3 := h.n1
 obtain ⟨p, hp⟩ := (aep h.links (by omega)).1 ho
 obtain ⟨vs, d, hw, hd⟩ := ht.from' v h0 h1
 have := (afV h.links (by omega) hp (s := v) ⟨h0, h1⟩).low 0 vs d (aJd.2 hw)
 omega
theorem aCE (h : afe L N) (ho : adR L N = true) {v : Int} (h0 : 0 ≤ v) (h1 : v < N) : gv (ad2 L N v) v = 0 := by
 have h2 := h.n60
 obtain ⟨p, hp⟩ := (aep h.links (by omega)).1 ho
 have hd := afV h.links (by omega) hp (s := v) ⟨h0, h1⟩
 have h3 := hd.low v [] 0 (.nil (by simp [aQs]))
 obtain ⟨vs, hw⟩ := hd.att v h0 h1 (by unfold aff; omega)
 obtain ⟨s, hs, hx⟩ := (aJd.1 hw).pot hp
 subst hs
 omega
theorem aM3 (h : afe L N) (ht : aqP L N) (ho : adR L N = true) : Pot L (gv (ad2 L N 0)) := by
 have h2 := h.n60
 have h3 := h.n1
 obtain ⟨p, hp⟩ := (aep h.links (by omega)).1 ho
 intro u v m hl
 have hr := h.inr _ hl
 have := axb h ht ho hr.1.1 hr.1.2
 exact (afV h.links (by omega) hp (s := 0) ⟨by omega, by omega⟩).pot h.inr hl (by simp only at this; unfold aff; omega)
end
theorem aPz {b : acw} : ∀ i, i ≤ b.2.2.2.2.1.length → ((b.2.2.2.2.1.take i).flatMap (ac3 b)).length = 2 * i ∧ (((b.2.2.2.2.1.take i).mapIdx fun i _ => [((3 : Int), (i : Int)), ((3 : Int), (i : Int))]).flatten).length = 2 * i := by
 intro i
 induction i with
 | zero => intro _; simp
 | succ i ih =>
   intro hi
   have ih := ih (by omega)
   have hg : b.2.2.2.2.1[i]? = some b.2.2.2.2.1[i] := List.getElem?_eq_getElem hi
   rw [ah8 _ hg, take_succ hg, List.flatMap_append, List.flatten_append, List.length_append, List.length_append]
   simp only [List.flatMap_cons, List.flatMap_nil, List.append_nil, List.flatten_cons, List.flatten_nil, ac3, List.length_cons, List.length_nil]
   omega
end Go.Proofs.ZzM
end
noncomputable section
namespace Go.Proofs.ZzM
open Go Go.Am
section
variable {L : List Lk} {N : Nat}
theorem avx (h : afe L N) : ac7 ((N : Int), L) = some (adR L N, 0) := by
 have h2 := h.n60
 unfold ac7 alB
 rw [agz h, ab3]
 dsimp only
 rw [acm (by rfl), arP h.links h.n1 (by omega), ab3]
 cases adR L N <;> rfl
end
end Go.Proofs.ZzM
end
noncomputable section
namespace Go.Proofs.ZzM
open Go Go.Am
def agp (b : acw) (n : Int × Int) : acw × Int := if agl b n.1 n.2 ≠ 0 then (b, 0) else if acz (ahq b n) ≠ 0 then (ajF, acz (ahq b n)) else (ahq b n, 0)
def aeR : acw → List (Int × Int) → acw × Int
 | b, [] => (b, 0)
 | b, n :: t => if (agp b n).2 ≠ 0 then (ajF, (agp b n).2) else aeR (agp b n).1 t
def adc (b : acw) (ns : List (Int × Int)) : acw × Int :=
 if acz b ≠ 0 then (ajF, acz b) else if (aeR b ns).2 ≠ 0 then (ajF, (aeR b ns).2) else
 if adR (acn (aeR b ns).1) ((acd (aeR b ns).1).length + 1) then ((aeR b ns).1, 0) else (ajF, 9)
theorem aIx {b : acw} (h : ads b) {n : Int × Int} (e : (agp b n).2 = 0) : ads (agp b n).1 := by
 unfold agp at e ⊢
 split
 ·exact h
 ·rename_i h1
  rw [if_neg h1] at e
  split
  ·rename_i h2
   rw [if_pos h2] at e
   exact absurd e h2
  ·rename_i h2
   exact (acv _).1 (by simpa using h2)
theorem aLx {b : acw} {n : Int × Int} (e : (agp b n).2 = 0) : (agp b n).1.2.1 = b.2.1 := by
 unfold agp at e ⊢
 split
 ·rfl
 ·rename_i h1
  rw [if_neg h1] at e
  split
  ·rename_i h2
   rw [if_pos h2] at e
   exact absurd e h2
  ·rfl
theorem azW : ∀ {ns : List (Int × Int)} {b : acw}, ads b → (aeR b ns).2 = 0 → ads (aeR b ns).1
 | [], b, h, _ => h
 | n :: t, b, h, e => by
   unfold aeR at e ⊢
   split
   ·rename_i h1; rw [if_pos h1] at e; exact absurd e h1
   ·rename_i h1
    rw [if_neg h1] at e
    exact azW (aIx h (by simpa using h1)) e
theorem amL : ∀ {ns : List (Int × Int)} {b : acw}, (aeR b ns).2 = 0 → (aeR b ns).1.2.1 = b.2.1
 | [], b, _ => rfl
 | n :: t, b, e => by
   unfold aeR at e ⊢
   split
   ·rename_i h1; rw [if_pos h1] at e; exact absurd e h1
   ·rename_i h1
    rw [if_neg h1] at e
    rw [amL e, aLx (by simpa using h1)]
theorem ads.inn {b : acw} (h : ads b) (hn : ∀ g ∈ b.2.1, I64 g.2.2.2.2.1.1) : In b := ⟨h.size, hn⟩
theorem agn {b : acw} (h : ads b) : aIg b = ((((acd b).length : Int) + 1, acn b), aeq b, 0) := by
 unfold aIg
 rw [if_neg (by simp [(acv b).2 h])]
theorem akz {b : acw} (h : ads b) (n : Int × Int) : aoq b n = if agl b n.1 n.2 = 0 then (0, 5) else (agl b n.1 n.2, 0) := by
 unfold aoq
 rw [if_neg (by simp [(acv b).2 h])]
abbrev Flat : Type := Int × Int × List acS × List (Int × Int) × List azD × List Cmp × List (Int × Int)
def flat (b : acw) : Flat := (b.1.1, b.1.2, b.2.1, b.2.2.1, b.2.2.2.1, b.2.2.2.2.1, b.2.2.2.2.2)
theorem anH (b : acw) : (((flat b).1, (flat b).2.1), (flat b).2.2) = b := rfl
section
variable {ρ : Type}
def aUs (ns : List (Int × Int)) (E1 : Int × Flat → Option ρ) (K1 : Flat → Option ρ) (b : acw) : Option ρ :=
 acl (fun (v : Int × Flat) kk => acY (acs ns) ns v.1 v.2.1 v.2.2.1 v.2.2.2.1 v.2.2.2.2.1 v.2.2.2.2.2.1 v.2.2.2.2.2.2.1 v.2.2.2.2.2.2.2 (fun u1 u2 u3 u4 u5 u6 u7 u8 => kk (u1, u2, u3, u4, u5, u6, u7, u8)) (fun z => E1 z) (fun z => K1 z)) ((0 : Int), b.1.1, b.1.2, b.2.1, b.2.2.1, b.2.2.2.1, b.2.2.2.2.1, b.2.2.2.2.2)
theorem aQe {ns : List (Int × Int)} (hl : ns.length ≤ 1000) {E1 : Int × Flat → Option ρ} {K1 : Flat → Option ρ} (R : Int → Option ρ) (h1 : ∀ z, z.1 ≠ 0 → E1 z = R z.1) {b : acw} (hg : ads b) (hn : ∀ g ∈ b.2.1, I64 g.2.2.2.2.1.1) :
 aUs ns E1 K1 b = if (aeR b ns).2 ≠ 0 then R (aeR b ns).2 else K1 (flat (aeR b ns).1) := by
 unfold aUs
 refine azq ns (fun (i : Nat) (s : Flat) (t : List (Int × Int)) => if (aeR ((s.1, s.2.1), s.2.2) t).2 ≠ 0 then R (aeR ((s.1, s.2.1), s.2.2) t).2 else K1 (flat (aeR ((s.1, s.2.1), s.2.2) t).1))
  (fun i s => ads ((s.1, s.2.1), s.2.2) ∧ ∀ g ∈ s.2.2.1, I64 g.2.2.2.2.1.1) (fun s hs kn => ?_) (fun i n t s hd hi ha hs kn hk => ?_) (s := flat b) ⟨hg, hn⟩
 ·dsimp only
  unfold acY
  rw [acL]
  rfl
 ·dsimp only
  unfold acY
  obtain ⟨hs1, hs2⟩ := hs
  have hin : In ((s.1, s.2.1), s.2.2) := hs1.inn hs2
  rw [acp hi, af7 hi, aex ha]
  rw [show adr ((s.1, s.2.1), s.2.2.1, s.2.2.2.1, s.2.2.2.2.1, s.2.2.2.2.2.1, s.2.2.2.2.2.2) n = adr ((s.1, s.2.1), s.2.2) n from rfl, amJ hin, ab3]
  rw [show aeK ((s.1, s.2.1), s.2.2.1, s.2.2.2.1, s.2.2.2.2.1, s.2.2.2.2.2.1, s.2.2.2.2.2.2) n = aeK ((s.1, s.2.1), s.2.2) n from rfl, aM8 hin, ab3]
  rw [akz hs1]
  generalize hB : (((s.1, s.2.1), s.2.2) : acw) = B at hs1 hin ⊢
  have hu : aeR B (n :: t) = if (agp B n).2 ≠ 0 then (ajF, (agp B n).2) else aeR (agp B n).1 t := rfl
  rw [hu]
  by_cases h0 : agl B n.1 n.2 = 0
  ·rw [if_pos h0, acm (by rfl)]
   by_cases h2 : acz (ahq B n) = 0
   ·have e : agp B n = (ahq B n, 0) := by unfold agp; rw [if_neg (by simp [h0]), if_neg (by simp [h2])]
    have e2 : ay6 B n = (ahq B n, 0) := by unfold ay6; rw [if_neg (by simp [(acv B).2 hs1]), if_neg (by simp [h2])]
    rw [e2, e, acm (by rfl), acj hi (by omega), if_neg (show ¬ ((0 : Int) ≠ 0) by simp)]
    subst hB
    exact hk (s.1, s.2.1, s.2.2.1, s.2.2.2.1, s.2.2.2.2.1, s.2.2.2.2.2.1, s.2.2.2.2.2.2 ++ [n]) ⟨(acv _).1 h2, hs2⟩
   ·have e : agp B n = (ajF, acz (ahq B n)) := by unfold agp; rw [if_neg (by simp [h0]), if_pos h2]
    have e2 : ay6 B n = (ajF, acz (ahq B n)) := by unfold ay6; rw [if_neg (by simp [(acv B).2 hs1]), if_pos h2]
    rw [e2, e, aco (by simp [ine, h2]), if_pos h2, if_pos h2]
    exact h1 _ h2
  ·have e : agp B n = (B, 0) := by unfold agp; rw [if_pos h0]
   rw [if_neg h0, aco (by rfl), acj hi (by omega), e, if_neg (show ¬ ((0 : Int) ≠ 0) by simp)]
   subst hB
   exact hk s ⟨hs1, hs2⟩
theorem akG {b : acw} (hI : In b) {ns : List (Int × Int)} (hl : ns.length ≤ 1000) {E0 : Int → Option ρ} {E1 : Int × Flat → Option ρ} {E2 : Flat → Sys × List (Int × Int) × Int → Option ρ} {E3 : Flat → Sys × List (Int × Int) × Int → Bool × Int → Option ρ}
 {K : Flat → Sys × List (Int × Int) × Int → Bool × Int → Option ρ} (R : Int → Option ρ) (h0 : ∀ e, e ≠ 0 → E0 e = R e) (h1 : ∀ z, z.1 ≠ 0 → E1 z = R z.1) (h3 : ∀ z s r, E3 z s r = R 9) :
 ab6 (acP b) (fun r1 => ifb (ine r1 (0 : Int)) (E0 r1) (aUs ns E1 (fun z8 => ab6 (adu ((z8.1, z8.2.1), z8.2.2)) fun r9 => ifb (ine r9.2.2 (0 : Int)) (E2 z8 r9) (ab6 (ac7 r9.1) fun r10 => ifb (!r10.1) (E3 z8 r9 r10) (K z8 r9 r10))) b)) =
 if (adc b ns).2 ≠ 0 then R (adc b ns).2 else K (flat (adc b ns).1) ((((acd (adc b ns).1).length : Int) + 1, acn (adc b ns).1), aeq (adc b ns).1, 0) (true, 0) := by
 rw [afX hI.size hI.num, ab3]
 unfold adc
 by_cases hc : acz b = 0
 ·have hg := (acv b).1 hc
  rw [acm (by simp [ine, hc]), if_neg (show ¬ (acz b ≠ 0) from fun h => h hc), aQe hl R h1 hg hI.num]
  by_cases hr : (aeR b ns).2 = 0
  ·rw [if_neg (show ¬ ((aeR b ns).2 ≠ 0) from fun h => h hr), if_neg (show ¬ ((aeR b ns).2 ≠ 0) from fun h => h hr)]
   have hB := azW hg hr
   have hBn : ∀ g ∈ (aeR b ns).1.2.1, I64 g.2.2.2.2.1.1 := by rw [amL hr]; exact hI.num
   generalize (aeR b ns).1 = B at hB hBn ⊢
   rw [anH, aky (hB.inn hBn), ab3, agn hB, acm (by rfl)]
   dsimp only
   rw [show (((acd B).length : Int) + 1) = (((acd B).length + 1 : Nat) : Int) by push_cast; rfl, avx hB.sys, ab3]
   cases ho : adR (acn B) ((acd B).length + 1) with
   | true =>
     rw [if_neg (by simp)]
     simp only [Bool.not_true, acM]
     push_cast
     rfl
   | false =>
     rw [if_pos (by simp)]
     simp only [Bool.not_false, ad6]
     rw [h3]
     rfl
  ·rw [if_pos hr, if_pos hr, if_pos hr]
 ·rw [aco (by simp [ine, hc]), h0 _ hc, if_pos hc, if_pos hc]
end
end Go.Proofs.ZzM
end
noncomputable section
namespace Go.Proofs.ZzM
open Go Go.Am
def aLt (b : acw) (id day : Int) : Bool := b.2.2.1.any fun u => u.1 == id && u.2 == day
def aRx (b : acw) (g : acS) (d : Int) : Int := match ay5 b g.1 d with | some l => l.2.2 | none => if aLt b g.1 d then g.2.2.2.2.2 else 0
theorem aQT (l : azD) (id : Int) {f t : Int} (hft : f ≤ t) : (if l.1 = id ∧ 0 < adg l f (t + 1) then adg l f (t + 1) * l.2.2 else 0) = (if l.1 = id ∧ 0 < adg l f t then adg l f t * l.2.2 else 0) + (if l.1 = id ∧ l.2.1.1 ≤ t ∧ t ≤ l.2.1.2 then l.2.2 else 0) := by
 by_cases hid : l.1 = id
 ·by_cases h1 : l.2.1.1 ≤ t ∧ t ≤ l.2.1.2
  ·have e : adg l f (t + 1) = adg l f t + 1 := by unfold adg; omega
   have p : 0 ≤ adg l f t := by unfold adg; omega
   rw [e, if_pos ⟨hid, by omega⟩, if_pos (show l.1 = id ∧ l.2.1.1 ≤ t ∧ t ≤ l.2.1.2 from ⟨hid, h1⟩), Int.add_mul, Int.one_mul]
   by_cases hp : 0 < adg l f t
   ·rw [if_pos ⟨hid, hp⟩]
   ·rw [if_neg (fun h => hp h.2)]
    have : adg l f t = 0 := by omega
    rw [this]
    omega
  ·rw [if_neg (show ¬ (l.1 = id ∧ l.2.1.1 ≤ t ∧ t ≤ l.2.1.2) from fun h => h1 h.2), Int.add_zero]
   by_cases hlo : l.2.1.1 ≤ t
   ·have e : adg l f (t + 1) = adg l f t := by unfold adg; omega
    rw [e]
   ·have p1 : ¬ 0 < adg l f (t + 1) := by unfold adg; omega
    have p2 : ¬ 0 < adg l f t := by unfold adg; omega
    rw [if_neg (fun h => p1 h.2), if_neg (fun h => p2 h.2)]
 ·rw [if_neg (fun h => hid h.1), if_neg (fun h => hid h.1), if_neg (fun h => hid h.1)]
  rfl
theorem aE1 (id : Int) {f t : Int} (hft : f ≤ t) : ∀ {x : List azD}, x.Pairwise (fun a c => ¬ (a.1 = c.1 ∧ a.2.1.1 ≤ c.2.1.2 ∧ c.2.1.1 ≤ a.2.1.2)) →
 adF id f (t + 1) x = adF id f t x + (match x.find? (fun l => l.1 == id && inP t l.2.1.1 l.2.1.2) with | some l => l.2.2 | none => 0)
 | [], _ => rfl
 | l :: r, hp => by
   rw [List.pairwise_cons] at hp
   have ih := aE1 id hft hp.2
   simp only [adF]
   rw [ih, aQT l id hft, List.find?_cons]
   by_cases hm : l.1 = id ∧ l.2.1.1 ≤ t ∧ t ≤ l.2.1.2
   ·have e : (l.1 == id && inP t l.2.1.1 l.2.1.2) = true := by simp [inP, hm.1, hm.2.1, hm.2.2]
    have hn : r.find? (fun l => l.1 == id && inP t l.2.1.1 l.2.1.2) = none := by
     rw [List.find?_eq_none]
     intro c hc hcm
     simp only [inP, Bool.and_eq_true, beq_iff_eq, decide_eq_true_eq] at hcm
     exact hp.1 c hc ⟨by rw [hm.1, hcm.1], by omega, by omega⟩
    rw [if_pos hm, e, hn]
    simp only
    omega
   ·have e : (l.1 == id && inP t l.2.1.1 l.2.1.2) = false := by
     rw [Bool.eq_false_iff]
     intro h
     simp only [inP, Bool.and_eq_true, beq_iff_eq, decide_eq_true_eq] at h
     exact hm h
    rw [if_neg hm, e]
    simp only
    omega
section
variable {b : acw}
theorem ads.apart (h : ads b) : b.2.2.2.1.Pairwise (fun a c => ¬ (a.1 = c.1 ∧ a.2.1.1 ≤ c.2.1.2 ∧ c.2.1.1 ≤ a.2.1.2)) := by
 rw [List.pairwise_iff_getElem]
 intro i j hi hj hij ⟨h1, h2, h3⟩
 have hz := h.loans j _ (List.getElem?_eq_getElem hj)
 unfold aMx at hz
 have hany : (b.2.2.2.1.take j).any (fun x => x.1 == b.2.2.2.1[j].1 && (decide (x.2.1.1 ≤ b.2.2.2.1[j].2.1.2) && decide (b.2.2.2.1[j].2.1.1 ≤ x.2.1.2))) = true := by
  rw [List.any_eq_true]
  exact ⟨b.2.2.2.1[i], List.mem_iff_getElem.2 ⟨i, by rw [List.length_take]; omega, by rw [List.getElem_take]⟩, by simp [h1, h2, h3]⟩
 rw [hany] at hz
 (repeat' split at hz) <;> first | omega | simp_all
theorem ads.notUsed (h : ads b) {id d : Int} {l : azD} (hl : ay5 b id d = some l) : aLt b id d = false := by
 have hm := List.mem_of_find?_eq_some hl
 have hp := List.find?_some hl
 simp only [inP, Bool.and_eq_true, beq_iff_eq, decide_eq_true_eq] at hp
 obtain ⟨j, hj, rfl⟩ := List.mem_iff_getElem.1 hm
 have hz := h.loans j _ (List.getElem?_eq_getElem hj)
 rw [Bool.eq_false_iff]
 intro hu
 obtain ⟨u, hu, hue⟩ := List.any_eq_true.1 hu
 simp only [Bool.and_eq_true, beq_iff_eq] at hue
 have hany : b.2.2.1.any (fun u => u.1 == b.2.2.2.1[j].1 && inP u.2 b.2.2.2.1[j].2.1.1 b.2.2.2.1[j].2.1.2) = true := by
  rw [List.any_eq_true]
  exact ⟨u, hu, by simp only [inP, Bool.and_eq_true, beq_iff_eq, decide_eq_true_eq]; exact ⟨by rw [hue.1, hp.1], by omega, by omega⟩⟩
 unfold aMx at hz
 rw [hany] at hz
 (repeat' split at hz) <;> first | omega | simp_all
theorem aIp {id f t : Int} (hft : f ≤ t) : aLo (af6 b id f (t + 1)) = aLo (af6 b id f t) ++ if aLt b id t then [t] else [] := by
 have hm : ∀ t x, x ∈ af6 b id f t ↔ aLt b id x = true ∧ f ≤ x ∧ x < t := by
  intro t x
  unfold af6 aLt
  simp only [List.mem_map, List.mem_filter, List.any_eq_true, inP, Bool.and_eq_true, beq_iff_eq, decide_eq_true_eq]
  constructor
  ·rintro ⟨u, ⟨h1, h2, h3, h4⟩, rfl⟩
   exact ⟨⟨u, h1, h2, rfl⟩, h3, by omega⟩
  ·rintro ⟨⟨u, h1, h2, rfl⟩, h3, h4⟩
   exact ⟨u, ⟨h1, h2, h3, by omega⟩, rfl⟩
 refine aVd (aLB _) ?_ fun x => ?_
 ·rw [List.pairwise_append]
  refine ⟨aLB _, by split <;> simp, fun a ha c hc => ?_⟩
  rw [ap9, hm] at ha
  split at hc
  ·rw [List.mem_singleton] at hc; omega
  ·cases hc
 ·rw [ap9, hm, List.mem_append, ap9, hm]
  by_cases hu : aLt b id t = true
  ·rw [if_pos hu, List.mem_singleton]
   constructor
   ·rintro ⟨h1, h2, h3⟩
    by_cases he : x = t
    ·exact .inr he
    ·exact .inl ⟨h1, h2, by omega⟩
   ·rintro (⟨h1, h2, h3⟩ | rfl)
    ·exact ⟨h1, h2, by omega⟩
    ·exact ⟨hu, hft, by omega⟩
  ·rw [if_neg hu]
   constructor
   ·rintro ⟨h1, h2, h3⟩
    refine .inl ⟨h1, h2, ?_⟩
    by_cases he : x = t
    ·rw [he] at h1; exact absurd h1 hu
    ·omega
   ·rintro (⟨h1, h2, h3⟩ | h)
    ·exact ⟨h1, h2, by omega⟩
    ·cases h
theorem aKi (h : ads b) (g : acS) {f t : Int} (hft : f ≤ t) : ag6 b g f (t + 1) = ag6 b g f t + aRx b g t := by
 unfold ag6 aRx
 rw [aE1 g.1 hft h.apart, aIp hft]
 show adF g.1 f t b.2.2.2.1 + (match ay5 b g.1 t with | some l => l.2.2 | none => 0) + _ = _
 cases ha : ay5 b g.1 t with
 | some l =>
   rw [h.notUsed ha]
   simp only [Bool.false_eq_true, if_false, List.append_nil]
   omega
 | none =>
   simp only
   cases aLt b g.1 t with
   | true => simp only [if_true, List.length_append, List.length_singleton, Int.natCast_add, Int.add_mul]; omega
   | false => simp only [Bool.false_eq_true, if_false, List.append_nil]; omega
theorem aKj (g : acS) {f t : Int} (hft : t ≤ f) : ag6 b g f t = 0 := by
 unfold ag6
 have h1 : ∀ x : List azD, adF g.1 f t x = 0 := by
  intro x
  induction x with
  | nil => rfl
  | cons l r ih =>
    simp only [adF]
    rw [ih, if_neg (by unfold adg; omega)]
    rfl
 have h2 : af6 b g.1 f t = [] := by
  unfold af6
  rw [List.filter_eq_nil_iff.2 fun u hu hc => by
   simp only [inP, Bool.and_eq_true, beq_iff_eq, decide_eq_true_eq] at hc
   omega]
  rfl
 rw [h1, h2]
 have h3 : aLo ([] : List Int) = [] := rfl
 rw [h3]
 simp
end
end Go.Proofs.ZzM
end
noncomputable section
namespace Go.Proofs.ZzM
open Go Go.Am
section
variable {b : acw}
theorem azp (h : ads b) (g : acS) {f t u : Int} (h1 : f ≤ t) (h2 : t ≤ u) : ag6 b g f u = ag6 b g f t + ag6 b g t u := by
 obtain ⟨n, rfl⟩ : ∃ n : Nat, u = t + n := ⟨(u - t).toNat, by omega⟩
 clear h2
 induction n with
 | zero => simp [aKj]
 | succ n ih =>
   have e : t + ((n + 1 : Nat) : Int) = (t + n) + 1 := by omega
   rw [e, aKi h g (show f ≤ t + (n : Int) by omega), aKi h g (show t ≤ t + (n : Int) by omega), ih]
   omega
theorem asE (h : ads b) {g : acS} (hg : g ∈ b.2.1) {f t : Int} (hf : 0 ≤ f) : 0 ≤ ag6 b g f t := (anC h hg hf).1
def aeS (b : acw) (id d : Int) : Int := match agD (acd b) id d with | some j => (j : Int) + 1 | none => 0
theorem akI (h : ads b) {i : Nat} {g : acS} (hg : b.2.1[i]? = some g) {k : Nat} {d : Int} (hk : (acB b g)[k]? = some d) : aeS b g.1 d = (off b i : Int) + k + 1 := by
 unfold aeS
 rw [aF5 h hg hk]
 simp only
 omega
structure akA (b : acw) (p : Int → Int) (g : acS) : Prop where
 hi : p (aeS b g.1 g.2.1) ≤ p 0 + (g.2.2.1 + g.2.2.2.1.2)
 lo : p 0 + (g.2.2.1 + g.2.2.2.1.1) ≤ p (aeS b g.1 g.2.1)
 down : ∀ d e, d ∈ acB b g → e ∈ acB b g → d ≤ e → p (aeS b g.1 e) ≤ p (aeS b g.1 d)
 loss : ∀ d e, d ∈ acB b g → e ∈ acB b g → d ≤ e → p (aeS b g.1 d) ≤ p (aeS b g.1 e) + ag6 b g d e
theorem ajy (h : ads b) {i : Nat} {g : acS} (hg : b.2.1[i]? = some g) {p : Int → Int} : (∀ l ∈ adt b g, p l.2.1 ≤ p l.1 + l.2.2) ↔ akA b p g := by
 have hgm := List.mem_of_getElem? hg
 obtain ⟨tl, htl⟩ := aKQ h hgm
 have h0 : aeS b g.1 g.2.1 = (off b i : Int) + 1 := by
  have := akI h hg (k := 0) (d := g.2.1) (by rw [htl]; rfl)
  rw [this]
  omega
 constructor
 ·intro hl
  have e1 := hl _ ((adJ h hg).2 (.inl rfl))
  have e2 := hl _ ((adJ h hg).2 (.inr (.inl rfl)))
  simp only at e1 e2
  have step : ∀ (k : Nat) (d e : Int), (acB b g)[k]? = some d → (acB b g)[k + 1]? = some e → p (aeS b g.1 e) ≤ p (aeS b g.1 d) ∧ p (aeS b g.1 d) ≤ p (aeS b g.1 e) + ag6 b g d e := by
   intro k d e hd he
   have a1 := hl _ ((adJ h hg).2 (.inr (.inr ⟨k, d, e, hd, he, .inl rfl⟩)))
   have a2 := hl _ ((adJ h hg).2 (.inr (.inr ⟨k, d, e, hd, he, .inr rfl⟩)))
   simp only at a1 a2
   rw [akI h hg hd, akI h hg he]
   have e3 : (off b i : Int) + ((k + 1 : Nat) : Int) + 1 = (off b i : Int) + k + 2 := by omega
   rw [e3]
   exact ⟨by omega, a2⟩
  have pair : ∀ (n k : Nat) (d e : Int), (acB b g)[k]? = some d → (acB b g)[k + n]? = some e → p (aeS b g.1 e) ≤ p (aeS b g.1 d) ∧ p (aeS b g.1 d) ≤ p (aeS b g.1 e) + ag6 b g d e := by
   intro n
   induction n with
   | zero =>
     intro k d e hd he
     rw [Nat.add_zero, hd] at he
     cases he
     rw [aKj g (Int.le_refl _)]
     omega
   | succ n ih =>
     intro k d e hd he
     have hlt := (List.getElem?_eq_some_iff.1 he).1
     have hm : (acB b g)[k + n]? = some ((acB b g)[k + n]'(by omega)) := List.getElem?_eq_getElem (by omega)
     obtain ⟨a1, a2⟩ := ih k d _ hd hm
     obtain ⟨a3, a4⟩ := step (k + n) _ e hm he
     have o1 : d ≤ (acB b g)[k + n]'(by omega) := by
      obtain ⟨hkl, hkd⟩ := List.getElem?_eq_some_iff.1 hd
      rcases Nat.eq_zero_or_pos n with rfl | hn
      ·rw [← hkd]; exact Int.le_of_eq (by congr 1)
      ·have := (List.pairwise_iff_getElem.1 (asQ b g)) k (k + n) hkl (by omega) (by omega)
       rw [hkd] at this; omega
     have o2 : (acB b g)[k + n]'(by omega) ≤ e := by
      obtain ⟨hel, hee⟩ := List.getElem?_eq_some_iff.1 he
      have := (List.pairwise_iff_getElem.1 (asQ b g)) (k + n) (k + (n + 1)) (by omega) hel (by omega)
      rw [hee] at this; omega
     have := azp h g o1 o2
     omega
  have any : ∀ d e, d ∈ acB b g → e ∈ acB b g → d ≤ e → p (aeS b g.1 e) ≤ p (aeS b g.1 d) ∧ p (aeS b g.1 d) ≤ p (aeS b g.1 e) + ag6 b g d e := by
   intro d e hd he hde
   obtain ⟨k, hk, rfl⟩ := List.mem_iff_getElem.1 hd
   obtain ⟨m, hm, rfl⟩ := List.mem_iff_getElem.1 he
   have hkm : k ≤ m := by
    rcases Nat.lt_or_ge m k with hlt | hge
    ·have := (List.pairwise_iff_getElem.1 (asQ b g)) m k hm hk hlt; omega
    ·exact hge
   exact pair (m - k) k _ _ (List.getElem?_eq_getElem hk) (by rw [show k + (m - k) = m by omega]; exact List.getElem?_eq_getElem hm)
  exact ⟨by rw [h0]; omega, by rw [h0]; omega, fun d e hd he hde => (any d e hd he hde).1, fun d e hd he hde => (any d e hd he hde).2⟩
 ·intro hf l hl
  rcases (adJ h hg).1 hl with rfl | rfl | ⟨k, d, e, hd, he, rfl | rfl⟩
  ·have := hf.hi; rw [h0] at this; simp only; omega
  ·have := hf.lo; rw [h0] at this; simp only; omega
  ·have hde : d ≤ e := by
    obtain ⟨a1, a2⟩ := List.getElem?_eq_some_iff.1 hd
    obtain ⟨a3, a4⟩ := List.getElem?_eq_some_iff.1 he
    have := (List.pairwise_iff_getElem.1 (asQ b g)) k (k + 1) a1 a3 (by omega)
    rw [a2, a4] at this; omega
   have := hf.down d e (List.mem_of_getElem? hd) (List.mem_of_getElem? he) hde
   rw [akI h hg hd, akI h hg he] at this
   have e3 : (off b i : Int) + ((k + 1 : Nat) : Int) + 1 = (off b i : Int) + k + 2 := by omega
   rw [e3] at this
   simp only
   omega
  ·have hde : d ≤ e := by
    obtain ⟨a1, a2⟩ := List.getElem?_eq_some_iff.1 hd
    obtain ⟨a3, a4⟩ := List.getElem?_eq_some_iff.1 he
    have := (List.pairwise_iff_getElem.1 (asQ b g)) k (k + 1) a1 a3 (by omega)
    rw [a2, a4] at this; omega
   have := hf.loss d e (List.mem_of_getElem? hd) (List.mem_of_getElem? he) hde
   rw [akI h hg hd, akI h hg he] at this
   have e3 : (off b i : Int) + ((k + 1 : Nat) : Int) + 1 = (off b i : Int) + k + 2 := by omega
   rw [e3] at this
   simp only
   exact this
theorem aFU (h : ads b) {p : Int → Int} : Pot (acn b) p ↔ (∀ g ∈ b.2.1, akA b p g) ∧ ∀ c ∈ b.2.2.2.2.1, p (cx b c) ≤ p (cy b c) + (afn b c).2 ∧ p (cy b c) + (afn b c).1 ≤ p (cx b c) := by
 constructor
 ·intro hp
  refine ⟨fun g hg => ?_, fun c hc => ?_⟩
  ·obtain ⟨i, hi, rfl⟩ := List.mem_iff_getElem.1 hg
   exact (ajy h (List.getElem?_eq_getElem hi)).1 fun l hl => hp l.1 l.2.1 l.2.2 (ajO.2 (.inl ⟨i, _, List.getElem?_eq_getElem hi, hl⟩))
  ·have a1 := hp _ _ _ (ajO.2 (.inr ⟨c, hc, .inl rfl⟩))
   have a2 := hp _ _ _ (ajO.2 (.inr ⟨c, hc, .inr rfl⟩))
   omega
 ·rintro ⟨hg, hc⟩ u v m hl
  rcases ajO.1 hl with ⟨i, g, hig, hl⟩ | ⟨c, hcm, hl⟩
  ·exact (ajy h hig).2 (hg g (List.mem_of_getElem? hig)) (u, v, m) hl
  ·obtain ⟨a1, a2⟩ := hc c hcm
   rcases hl with hl | hl
   ·obtain ⟨rfl, rfl, rfl⟩ : u = cy b c ∧ v = cx b c ∧ m = (afn b c).2 := by simpa using hl
    exact a1
   ·obtain ⟨rfl, rfl, rfl⟩ : u = cx b c ∧ v = cy b c ∧ m = -(afn b c).1 := by simpa using hl
    omega
end
end Go.Proofs.ZzM
end
noncomputable section
namespace Go.Proofs.ZzM
open Go Go.Am
def aT4 : List Int → Int
 | [] => 0
 | [a] => a
 | a :: b :: t => max a (aT4 (b :: t))
theorem aJk : ∀ {l : List Int}, l ≠ [] → (∀ a ∈ l, a ≤ aT4 l) ∧ aT4 l ∈ l
 | [], h => absurd rfl h
 | [a], _ => ⟨fun x hx => by rw [List.mem_singleton] at hx; rw [hx]; exact Int.le_refl _, by simp [aT4]⟩
 | a :: b :: t, _ => by
   obtain ⟨h1, h2⟩ := aJk (l := b :: t) (by simp)
   have e : aT4 (a :: b :: t) = max a (aT4 (b :: t)) := rfl
   rw [e]
   constructor
   ·intro x hx
    rcases List.mem_cons.1 hx with rfl | hx
    ·omega
    ·have := h1 x hx; omega
   ·rcases Int.le_total a (aT4 (b :: t)) with h | h
    ·rw [Int.max_eq_right h]; exact List.mem_cons_of_mem _ h2
    ·rw [Int.max_eq_left h]; exact List.mem_cons_self
section
variable {b : acw}
def aEy (b : acw) (f : Int → Int → Int) (z : Int) (v : Int) : Int := if v = 0 then z else match (acd b)[(v - 1).toNat]? with | some n => f n.1 n.2 | none => 0
theorem ajZ (f : Int → Int → Int) (z : Int) : aEy b f z 0 = z := by unfold aEy; rw [if_pos rfl]
theorem as2 (h : ads b) (f : Int → Int → Int) (z : Int) {g : acS} (hg : g ∈ b.2.1) {d : Int} (hd : d ∈ acB b g) : aEy b f z (aeS b g.1 d) = f g.1 d := by
 obtain ⟨i, hi, rfl⟩ := List.mem_iff_getElem.1 hg
 obtain ⟨k, hk, rfl⟩ := List.mem_iff_getElem.1 hd
 have hgi := List.getElem?_eq_getElem hi
 have hdk := List.getElem?_eq_getElem hk
 rw [akI h hgi hdk]
 unfold aEy
 have e : ((off b i : Int) + k + 1 - 1).toNat = off b i + k := by omega
 rw [if_neg (by omega), e, aSU hgi hdk]
def ay4 (b : acw) (l : List Int) (d : Int) : Int := match l with | [] => 0 | x :: _ => aeS b x d
theorem aOl (l : List Int) (d : Int) : atP (acd b) l d = ay4 b l d := by
 unfold atP ay4 aeS
 cases l <;> rfl
theorem aw2 (c : Cmp) : cx b c = ay4 b (ac6 c.2.2.1 c.2.2.2.1) c.2.1 := aOl _ _
theorem aw1 (c : Cmp) : cy b c = ay4 b (ac6 c.2.2.2.1 c.2.2.1) c.2.1 := aOl _ _
theorem ajw (h : ads b) {c : Cmp} (hc : c ∈ b.2.2.2.2.1) {x : Int} (hx : x ∈ ac6 c.2.2.1 c.2.2.2.1 ∨ x ∈ ac6 c.2.2.2.1 c.2.2.1) : ∃ g ∈ b.2.1, g.1 = x ∧ c.2.1 ∈ acB b g := by
 have hx' : (x ∈ c.2.2.1 ∧ x ∉ c.2.2.2.1) ∨ (x ∈ c.2.2.2.1 ∧ x ∉ c.2.2.1) := by
  rcases hx with hx | hx
  ·exact .inl (aiZ.1 hx)
  ·exact .inr (aiZ.1 hx)
 have hm : x ∈ c.2.2.1 ++ c.2.2.2.1 := by rw [List.mem_append]; exact hx'.imp (·.1) (·.1)
 obtain ⟨⟨g, hg, _⟩, _⟩ := h.pile hc hm
 obtain ⟨hgm, hid⟩ := alg hg
 refine ⟨g, hgm, hid, ai5.2 (.inr (.inl ⟨c, hc, ?_, rfl⟩))⟩
 rw [hid]
 intro he
 rw [Bool.eq_iff_iff, List.contains_iff_mem, List.contains_iff_mem] at he
 rcases hx' with ⟨a, e⟩ | ⟨a, e⟩
 ·exact e (he.1 a)
 ·exact e (he.2 a)
def fill (b : acw) (p : Int → Int) (g : acS) (d : Int) : Int := aT4 ((acB b g).map fun e => if d ≤ e then p (aeS b g.1 e) else p (aeS b g.1 e) - ag6 b g e d)
theorem aB8 {p : Int → Int} {g : acS} (d : Int) : (∀ e ∈ acB b g, (if d ≤ e then p (aeS b g.1 e) else p (aeS b g.1 e) - ag6 b g e d) ≤ fill b p g d) ∧ ∃ e ∈ acB b g, fill b p g d = if d ≤ e then p (aeS b g.1 e) else p (aeS b g.1 e) - ag6 b g e d := by
 have hne : ((acB b g).map fun e => if d ≤ e then p (aeS b g.1 e) else p (aeS b g.1 e) - ag6 b g e d) ≠ [] := by
  intro h
  have := List.map_eq_nil_iff.1 h
  have h2 := aiE (b := b) g
  rw [this] at h2
  cases h2
 obtain ⟨h1, h2⟩ := aJk hne
 refine ⟨fun e he => h1 _ (List.mem_map.2 ⟨e, he, rfl⟩), ?_⟩
 obtain ⟨e, he, hx⟩ := List.mem_map.1 h2
 exact ⟨e, he, hx.symm⟩
theorem azu (h : ads b) {p : Int → Int} {g : acS} (hg : g ∈ b.2.1) (hf : akA b p g) {d : Int} (hd : d ∈ acB b g) : fill b p g d = p (aeS b g.1 d) := by
 obtain ⟨h1, e, he, h2⟩ := aB8 (b := b) (p := p) (g := g) d
 have h3 := h1 d hd
 rw [if_pos (Int.le_refl _)] at h3
 have h4 : fill b p g d ≤ p (aeS b g.1 d) := by
  rw [h2]
  split
  ·rename_i hde
   exact hf.down d e hd he hde
  ·rename_i hde
   have := hf.loss e d he hd (by omega)
   omega
 omega
theorem avd (h : ads b) {p : Int → Int} {g : acS} (hg : g ∈ b.2.1) (hf : akA b p g) {d e : Int} (h0 : g.2.1 ≤ d) (hde : d ≤ e) : fill b p g e ≤ fill b p g d ∧ fill b p g d ≤ fill b p g e + ag6 b g d e := by
 obtain ⟨a1, x, hx, a2⟩ := aB8 (b := b) (p := p) (g := g) d
 obtain ⟨b1, y, hy, b2⟩ := aB8 (b := b) (p := p) (g := g) e
 have hm := (h.gaugeR hg).2.2.2.2.1
 have hl := asE h hg (f := d) (t := e) (by omega)
 have dx := h.day hg hx
 have dy := h.day hg hy
 constructor
 ·have q := a1 y hy
  rw [b2]
  by_cases c1 : e ≤ y
  ·rw [if_pos c1]
   rw [if_pos (by omega)] at q
   exact q
  ·rw [if_neg c1]
   by_cases c2 : d ≤ y
   ·rw [if_pos c2] at q
    have := asE h hg (f := y) (t := e) dy.2.1
    omega
   ·rw [if_neg c2] at q
    have := azp h g (f := y) (t := d) (u := e) (by omega) hde
    omega
 ·have q := b1 x hx
  rw [a2]
  by_cases c1 : d ≤ x
  ·rw [if_pos c1]
   by_cases c2 : e ≤ x
   ·rw [if_pos c2] at q
    omega
   ·rw [if_neg c2] at q
    have := azp h g (f := d) (t := x) (u := e) c1 (by omega)
    have := asE h hg (f := d) (t := x) (by omega)
    omega
  ·rw [if_neg c1]
   rw [if_neg (by omega)] at q
   have := azp h g (f := x) (t := d) (u := e) (by omega) hde
   omega
end
end Go.Proofs.ZzM
end