/- lemmas -/
import Derived.Test.YthhhehllmdfhiaaGreatAmF
import Derived.Test.YthhhehllmdfhiaaGreatMdTA
set_option linter.all false
set_option linter.unusedSectionVars false
set_option linter.unusedVariables false
set_option linter.unusedSimpArgs false
noncomputable section
namespace Go.Am
section
variable {ρ : Type}
def aeN {α β : Type} (e : Nat → α → Option β) : Nat → List α → Option β
 | _, [] => none
 | i, a :: t => match e i a with
   | some b => some b
   | none => aeN e (i + 1) t
theorem al6 {α β : Type} (l : List α) (e : Nat → α → Option β) (k0 : β → Option ρ) (k1 : Option ρ) {f : Int → (Int → Option ρ) → Option ρ}
 (h : ∀ (i : Nat) (a : α), i < l.length → l[i]? = some a → ∀ kn, f i kn = match e i a with | some b => k0 b | none => kn ((i : Int) + 1))
 (hn : ∀ kn, f l.length kn = k1) : acj f 0 = match aeN e 0 l with | some b => k0 b | none => k1 := by
 refine aPz l (fun i t => match aeN e i t with | some b => k0 b | none => k1) hn fun i a t hd hi ha kn hk => ?_
 rw [h i a hi ha kn, hk, aeN]
 cases e i a <;> rfl
theorem ada {α σ : Type} (l : List α) (g : Nat → σ) (r : Option ρ) {f : Int × σ → (Int × σ → Option ρ) → Option ρ} {s0 : σ} (h0 : g 0 = s0)
 (h : ∀ (i : Nat) (a : α), i < l.length → l[i]? = some a → ∀ kn, f (i, g i) kn = kn ((i : Int) + 1, g (i + 1)))
 (hn : ∀ kn, f (l.length, g l.length) kn = r) : acj f (0, s0) = r := by
 subst h0
 have hs : ∀ s, (s = g 0) → acj f (0, s) = r := fun s e => ayF l (fun _ _ _ => r) (fun i s => s = g i) (fun s hs kn => by rw [hs]; exact hn kn) (fun i a t s hd hi ha hI kn hk => by
  rw [hI, h i a hi ha kn]; exact hk _ rfl) e
 exact hs _ rfl
theorem aci {i n : Nat} (h : i < n) (hn : n ≤ 1000000000) (f : Int → Option ρ) : ck ((i : Int) + 1) f = f ((i : Int) + 1) := acs (by omega) (by omega) f
theorem ifb_lt {i n : Nat} (h : i < n) (x y : Option ρ) : ifb (ilt (i : Int) (aQ0 n)) x y = x := by simp [adJ, azs, h]
theorem acJ (n : Nat) (x y : Option ρ) : ifb (ilt (n : Int) (aQ0 n)) x y = y := by simp [adJ, azs]
theorem acm {α : Type} {l : List α} {i : Nat} (h : i < l.length) (x y : Option ρ) : ifb (ilt (i : Int) (acx l)) x y = x := ifb_lt h x y
theorem aBf {α : Type} (p : α → Bool) : ∀ (i : Nat) (l : List α), aeN (fun i a => bif p a then some (i : Int) else none) i l = (l.findIdx? p).map fun j => ((i + j : Nat) : Int)
 | _, [] => rfl
 | i, a :: t => by
   simp only [aeN, List.findIdx?_cons]
   cases hp : p a with
   | true => simp
   | false =>
     simp only [cond_false, Bool.false_eq_true, if_false]
     rw [aBf p (i + 1) t]
     cases t.findIdx? p with
     | none => rfl
     | some j => simp only [Option.map_some]; congr 1; omega
theorem ah7 {α β : Type} {e : Nat → α → Option β} : ∀ {i : Nat} {l : List α}, aeN e i l = none ↔ ∀ j a, l[j]? = some a → e (i + j) a = none
 | _, [] => by simp [aeN]
 | i, a :: t => by
   simp only [aeN]
   constructor
   ·intro h j b hb
    cases he : e i a with
    | some c => rw [he] at h; cases h
    | none =>
      rw [he] at h
      cases j with
      | zero => simp at hb; subst hb; simpa using he
      | succ j => have := (ah7.1 h) j b (by simpa using hb); rw [← this]; congr 1; omega
   ·intro h
    have h0 := h 0 a (by simp)
    simp only [Nat.add_zero] at h0
    rw [h0]
    exact ah7.2 fun j b hb => by have := h (j + 1) b (by simpa using hb); rw [← this]; congr 1; omega
theorem take_succ {α : Type} {l : List α} {i : Nat} {a : α} (h : l[i]? = some a) : l.take (i + 1) = l.take i ++ [a] := by rw [List.take_succ, h]; rfl
end
end Go.Am
end
noncomputable section
namespace Go.Proofs.ZzM
open Go Go.Am
section
variable {ρ : Type}
theorem afE {τ : Type} {f : τ → (τ → Option ρ) → Option ρ} {r : Option ρ} (I : τ → Prop) (μ : τ → Nat)
 (h : ∀ x, I x → (∀ kn, f x kn = r) ∨ ∃ y, I y ∧ μ y < μ x ∧ ∀ kn, f x kn = kn y) {x : τ} (hx : I x) : acj f x = r :=
 al7 (F := fun _ => r) I μ (fun x hx kn hk => by
  rcases h x hx with h1 | ⟨y, h1, h2, h3⟩
  ·exact h1 kn
  ·rw [h3, hk y h1 h2]) hx
theorem af7 {α : Type} (l : List α) (p : α → Bool) (k0 : Int → Option ρ) (k1 : Option ρ) {f : Int → (Int → Option ρ) → Option ρ}
 (h : ∀ (i : Nat) (a : α), i < l.length → l[i]? = some a → ∀ kn, f i kn = if p a then k0 i else kn ((i : Int) + 1))
 (hn : ∀ kn, f l.length kn = k1) : acj f 0 = match l.findIdx? p with | some j => k0 j | none => k1 := by
 rw [al6 l (fun i a => bif p a then some (i : Int) else none) k0 k1 (fun i a hi ha kn => by rw [h i a hi ha kn]; cases p a <;> rfl) hn, aBf]
 cases l.findIdx? p with
 | none => rfl
 | some j => simp
theorem agG {α : Type} (l : List α) (p : α → Bool) (k0 : Int → Option ρ) (K k1 : Option ρ) {f : Int → (Int → Option ρ) → Option ρ} (hK : ∀ j : Nat, k0 j = K)
 (h : ∀ (i : Nat) (a : α), i < l.length → l[i]? = some a → ∀ kn, f i kn = if p a then k0 i else kn ((i : Int) + 1))
 (hn : ∀ kn, f l.length kn = k1) : acj f 0 = if l.any p then K else k1 := by
 rw [af7 l p k0 k1 h hn]
 cases hf : l.findIdx? p with
 | none =>
   have : l.any p = false := by
    rw [List.any_eq_false]
    intro x hx
    have := List.findIdx?_eq_none_iff.1 hf x hx
    simp [this]
   simp [this]
 | some j =>
   have : l.any p = true := by
    have := List.findIdx?_eq_some_iff_getElem.1 hf
    obtain ⟨hj, hp, _⟩ := this
    exact List.any_eq_true.2 ⟨_, List.getElem_mem hj, hp⟩
   simp [this, hK]
end
abbrev acO : Type := Int × Int × Int × (Int × Int) × ((Int × Int) × Int)
abbrev ayO : Type := Int × ((Int × Int) × Int)
abbrev Cmp : Type := Int × Int × List Int × List Int × Int × (Int × (Int × Int))
abbrev acq : Type := (Int × Int) × List acO × List (Int × Int) × List ayO × List Cmp × List (Int × Int)
abbrev Sys : Type := Int × List (Int × Int × Int)
abbrev Maker : Type := acq × List (Int × Int) × Sys × List (Int × Int)
section
variable {ρ : Type}
theorem acv {b : Bool} (h : b = true) (x y : Option ρ) : ifb b x y = x := by rw [h]; rfl
theorem ack {b : Bool} (h : b = false) (x y : Option ρ) : ifb b x y = y := by rw [h]; rfl
end
def I64 (n : Int) : Prop := -9223372036854775808 ≤ n ∧ n ≤ 9223372036854775807
def inP (n lo hi : Int) : Bool := decide (lo ≤ n) && decide (n ≤ hi)
def aLu (n : Int) : Bool := inP n 0 20000
def akl (s : Int × Int) (lo hi : Int) : Bool := decide (lo ≤ s.1) && (decide (s.1 ≤ s.2) && decide (s.2 ≤ hi))
theorem afh (n lo hi : Int) : adj n lo hi = some (inP n lo hi) := by
 unfold adj avS inP ile
 cases decide (lo ≤ n) <;> rfl
theorem aGK (n : Int) : aiQ n = some (aLu n) := by
 unfold aiQ aAN
 rw [afh]; rfl
theorem auy (s : Int × Int) (lo hi : Int) : aeU s lo hi = some (akl s lo hi) := by
 unfold aeU avY akl ile
 cases decide (lo ≤ s.1) <;> cases decide (s.1 ≤ s.2) <;> rfl
theorem aET {n : Int} (h : I64 n) : akZ n = some (n.natAbs : Int) := by
 obtain ⟨h1, h2⟩ := h
 unfold akZ aF1
 by_cases hn : n < 0
 ·have : ilt n 0 = true := by simpa using hn
  rw [acv this]
  congr 1
  simp only [IntKind.wrap, IntKind.bits, IntKind.signed]
  simp
  omega
 ·have : ilt n 0 = false := by simpa using hn
  rw [ack this]
  congr 1
  simp only [IntKind.wrap, IntKind.bits, IntKind.signed]
  simp
  omega
theorem aSC (a b : Nat) : aBk a b = some ((Nat.gcd a b : Nat) : Int) := by
 unfold aBk aKZ
 refine afE (fun x : Int × Int => ∃ c d : Nat, x = ((c : Int), (d : Int)) ∧ Nat.gcd c d = Nat.gcd a b) (fun x => x.2.toNat) ?_ ⟨a, b, rfl, rfl⟩
 rintro x ⟨c, d, rfl, hg⟩
 cases d with
 | zero =>
   refine .inl fun kn => ?_
   rw [Nat.gcd_zero_right] at hg
   unfold apX
   simp [hg, ine]
 | succ d =>
   refine .inr ⟨(((d + 1 : Nat) : Int), ((c % (d + 1) : Nat) : Int)), ⟨d + 1, c % (d + 1), rfl, ?_⟩, ?_, fun kn => ?_⟩
   ·rw [← hg, Nat.gcd_comm c (d + 1), Nat.gcd_rec (d + 1) c, Nat.gcd_comm]
   ·have := Nat.mod_lt c (Nat.succ_pos d)
    simp only [Int.toNat_natCast]
    omega
   ·unfold apX
    have h1 : ine ((d + 1 : Nat) : Int) 0 = true := by simp [ine]; omega
    have h2 : aeH ((d + 1 : Nat) : Int) 0 = false := by simp [aeH]; omega
    simp only [h1, acv ack h2]
    congr 1
def aB5 (r : Int × Int) : Bool :=
 decide (1 ≤ r.2) && (decide (r.2 ≤ 2147483647) && (decide ((r.1.natAbs : Int) ≤ 2147483647) && decide (Nat.gcd r.1.natAbs r.2.natAbs = 1)))
theorem aHb {r : Int × Int} (h : I64 r.1) : ami r = some (aB5 r) := by
 unfold ami aAu aB5
 by_cases h1 : 1 ≤ r.2
 ·by_cases h2 : r.2 ≤ 2147483647
  ·have h3 : I64 r.2 := ⟨by omega, by omega⟩
   have e1 : ige r.2 1 = true := by simp [ige, h1]
   have e2 : ile r.2 2147483647 = true := by simp [ile, h2]
   rw [acv e1, acv e2, aET h, ab1]
   by_cases h4 : (r.1.natAbs : Int) ≤ 2147483647
   ·have e4 : ile (r.1.natAbs : Int) 2147483647 = true := by simp [ile, h4]
    rw [acv e4, ab1, aET h3, ab1, aSC, ab1]
    congr 1
    rw [Bool.eq_iff_iff]
    simp only [ieq, beq_iff_eq, h1, h2, h4, decide_true, Bool.true_and, decide_eq_true_eq]
    omega
   ·have e4 : ile (r.1.natAbs : Int) 2147483647 = false := by simp [ile]; omega
    rw [ack e4]
    simp [h4]
  ·have e1 : ige r.2 1 = true := by simp [ige, h1]
   have e2 : ile r.2 2147483647 = false := by simp [ile]; omega
   rw [acv e1, ack e2]
   simp [h2]
 ·have e1 : ige r.2 1 = false := by simp [ige]; omega
  rw [ack e1]
  simp [h1]
def arb (g : acO) : Bool :=
 aB5 g.2.2.2.2.1 && inP g.2.2.2.2.1.1 (-1000) 1000 && decide (g.2.2.2.2.1.2 ≤ 100) && inP g.1 1 1099511627776 && aLu g.2.1 && inP g.2.2.1 1 1125899906842624 && akl g.2.2.2.1 (-1073741824) 1073741824 && inP g.2.2.2.2.2 0 1048576
theorem aNV {g : acO} (h : I64 g.2.2.2.2.1.1) : anr g = some (arb g) := by
 unfold anr ar5 arb
 rw [aHb h, afh, afh, aGK, afh, auy, afh]
 generalize aB5 g.2.2.2.2.1 = x1
 generalize inP g.2.2.2.2.1.1 (-1000) 1000 = x2
 generalize inP g.1 1 1099511627776 = x3
 generalize aLu g.2.1 = x4
 generalize inP g.2.2.1 1 1125899906842624 = x5
 generalize akl g.2.2.2.1 (-1073741824) 1073741824 = x6
 generalize inP g.2.2.2.2.2 0 1048576 = x7
 unfold ile
 generalize decide (g.2.2.2.2.1.2 ≤ 100) = x8
 cases x1 <;> cases x2 <;> cases x3 <;> cases x4 <;> cases x5 <;> cases x6 <;> cases x8 <;> rfl
end Go.Proofs.ZzM
end
noncomputable section
namespace Go.Proofs.ZzM
open Go Go.Am
section
variable {ρ : Type}
theorem aJo {α : Type} {l : List α} {i : Nat} {a : α} (h0 : 0 < i) (h : l[i - 1]? = some a) (f : α → Option ρ) : adO l ((i : Int) - 1) f = f a := by
 have : ((i : Int) - 1) = ((i - 1 : Nat) : Int) := by omega
 rw [this, acg h]
theorem aQn {i : Nat} (h : 0 < i) (hn : i ≤ 1000000000) (f : Int → Option ρ) : ck ((i : Int) - 1) f = f ((i : Int) - 1) := acs (by omega) (by omega) f
theorem afR {i n : Nat} (h : i < n) (x : Option ρ) : acS ((ile 0 (i : Int)) && (ilt (i : Int) (n : Int))) x = x := by
 have : ((ile 0 (i : Int)) && (ilt (i : Int) (n : Int))) = true := by simp [ile, ilt, h]
 rw [this, Am.iff_true]
theorem aep {α : Type} {l : List α} {i : Nat} {a : α} (h : l[i]? = some a) (f : α → Option ρ) : aft l (Int.toNat (i : Int)) f = f a := by
 rw [Int.toNat_natCast]; exact amx h f
end
def aBP {α : Type} (key : α → Int) (l : List α) (i : Nat) (a : α) : Bool :=
 decide (0 < i) && (l[i - 1]?).any fun q => decide (key a ≤ key q)
theorem aHL {α : Type} {l : List α} {i : Nat} (hi : i < l.length) (h0 : 0 < i) : ∃ q, l[i - 1]? = some q :=
 ⟨l[i - 1], List.getElem?_eq_getElem (by omega)⟩
theorem aM5 {α : Type} (key : α → Int) (l : List α) : (∀ i a, l[i]? = some a → aBP key l i a = false) ↔ l.Pairwise (fun a b => key a < key b) := by
 rw [List.pairwise_iff_getElem]
 constructor
 ·intro h
  have step : ∀ i (h1 : i + 1 < l.length), key l[i] < key l[i + 1] := by
   intro i h1
   have := h (i + 1) l[i + 1] (List.getElem?_eq_getElem h1)
   simp only [aBP, Nat.add_sub_cancel, Nat.succ_pos, decide_true, Bool.true_and, List.getElem?_eq_getElem (show i < l.length by omega), Option.any_some, decide_eq_false_iff_not] at this
   omega
  intro i j hi hj hij
  induction j with
  | zero => omega
  | succ j ih =>
    have := step j hj
    rcases Nat.lt_or_ge i j with hlt | hge
    ·have := ih (by omega) hlt; omega
    ·have : i = j := by omega
     subst this; assumption
 ·intro h i a ha
  obtain ⟨hi, rfl⟩ := List.getElem?_eq_some_iff.1 ha
  unfold aBP
  cases i with
  | zero => rfl
  | succ i =>
    have := h i (i + 1) (by omega) hi (by omega)
    simp only [Nat.add_sub_cancel, Nat.succ_pos, decide_true, Bool.true_and, List.getElem?_eq_getElem (show i < l.length by omega), Option.any_some, decide_eq_false_iff_not]
    omega
def apl (l : List acO) (i : Nat) (g : acO) : Option Int :=
 if !arb g then some 1 else if aBP (fun g => g.1) l i g then some 6 else none
def ai3 (b : acq) : Int := (aeN (apl b.2.1) 0 b.2.1).getD 0
theorem aDk {b : acq} (hr : ∀ g ∈ b.2.1, I64 g.2.2.2.2.1.1) (hn : b.2.1.length ≤ 1000) : aeE b = some (ai3 b) := by
 unfold aeE aj0
 refine Eq.trans (al6 b.2.1 (apl b.2.1) some (some 0) (fun i a hi ha kn => ?_) (fun kn => ?_)) ?_
 ·try dsimp only
  unfold afX
  rw [acm hi, acg ha, aNV (hr a (List.mem_of_getElem? ha)), ab1]
  unfold apl
  cases hg : arb a with
  | false => simp
  | true =>
    simp only [Bool.not_true, acM, Bool.false_eq_true, if_false]
    rcases Nat.eq_zero_or_pos i with h0 | h0
    ·subst h0
     have : igt ((0 : Nat) : Int) 0 = false := by simp [igt]
     rw [ack this, aci hi (by omega)]
     simp [aBP]
    ·obtain ⟨q, hq⟩ := aHL hi h0
     have h1 : igt (i : Int) 0 = true := by simp [igt]; omega
     rw [acv h1, aQn h0 (by omega), aJo h0 hq]
     simp only [aBP, h0, decide_true, Bool.true_and, hq, Option.any_some]
     unfold ile
     cases h2 : decide (a.1 ≤ q.1) with
     | true => simp
     | false =>
       rw [acM, aci hi (by omega)]
       simp
 ·try dsimp only
  unfold afX
  rw [acJ]
 ·unfold ai3
  cases aeN (apl b.2.1) 0 b.2.1 <;> rfl
def aHA (l : List acO) : List (Int × acO) := l.foldl (fun m g => ayy (k := tI) (v := ace) g.1 g m) []
def ajJ (b : acq) : List (Int × acO) := aHA b.2.1
theorem aDA {b : acq} (hn : b.2.1.length ≤ 1000) : ae7 b = some (ajJ b) := by
 unfold ae7 ar1
 refine ada b.2.1 (fun i => aHA (b.2.1.take i)) _ rfl (fun i a hi ha kn => ?_) (fun kn => ?_)
 ·try dsimp only
  unfold ail
  rw [acm hi, acg ha, aci hi (by omega), take_succ ha]
  simp only [aHA, List.foldl_append, List.foldl_cons, List.foldl_nil]
 ·try dsimp only
  unfold ail
  rw [acJ, List.take_length]
  rfl
theorem aIc (x y : Int) (g : acO) : ∀ m : List (Int × acO), alH (k := tI) (v := ace) x (ayy (k := tI) (v := ace) y g m) = if x = y then some g else alH (k := tI) (v := ace) x m
 | [] => by
   unfold ayy alH agT alH
   by_cases h : x = y <;> simp [h]
 | e :: m => by
   unfold ayy
   by_cases h : y = e.1
   ·have : agT tI y e.1 = true := by simp [agT, h]
    rw [this]
    try dsimp only
    unfold alH agT
    by_cases h2 : x = y
    ·simp [h2]
    ·have : ¬ x = e.1 := fun h3 => h2 (h3.trans h.symm)
     simp [h2, this]
   ·have : agT tI y e.1 = false := by simp [agT, h]
    rw [this]
    try dsimp only
    have ih := aIc x y g m
    unfold alH
    by_cases h2 : x = e.1
    ·have : agT tI x e.1 = true := by simp [agT, h2]
     rw [this]
     have : ¬ x = y := fun h3 => h (h3.symm.trans h2)
     simp [this]
    ·have : agT tI x e.1 = false := by simp [agT, h2]
     rw [this]
     exact ih
def ahr (b : acq) (id : Int) : Option acO := b.2.1.find? fun g => g.1 == id
theorem aKG (x : Int) (l : List acO) : alH (k := tI) (v := ace) x (aHA l) = l.reverse.find? fun g => g.1 == x := by
 unfold aHA
 rw [← List.foldr_reverse]
 induction l.reverse with
 | nil => rfl
 | cons g t ih =>
   rw [List.foldr_cons, aIc, ih, List.find?_cons]
   by_cases h : x = g.1
   ·simp [h]
   ·have : (g.1 == x) = false := by simp; exact fun h2 => h h2.symm
    simp [h, this]
theorem aJA {l : List acO} (h : l.Pairwise fun a b => a.1 < b.1) (x : Int) : l.reverse.find? (fun g => g.1 == x) = l.find? fun g => g.1 == x := by
 induction l with
 | nil => rfl
 | cons g t ih =>
   rw [List.pairwise_cons] at h
   rw [List.reverse_cons, List.find?_append, ih h.2, List.find?_cons]
   by_cases hx : g.1 = x
   ·have : t.find? (fun g => g.1 == x) = none := List.find?_eq_none.2 fun y hy => by have : g.1 < y.1 := h.1 y hy; simp; omega
    rw [this]; simp [hx]
   ·have : (g.1 == x) = false := by simp [hx]
    simp [this]
theorem aDS {b : acq} (h : b.2.1.Pairwise fun a b => a.1 < b.1) (x : Int) : alH (k := tI) (v := ace) x (ajJ b) = ahr b x := by
 unfold ajJ ahr
 rw [aKG, aJA h]
def ak5 (s : List (Int × acO)) (id day : Int) : Int :=
 match alH (k := tI) (v := ace) id s with
 | some g => if day < g.2.1 then 4 else 0
 | none => 5
theorem aKI (s : List (Int × acO)) (id day : Int) : afO s id day = some (ak5 s id day) := by
 unfold afO alm ak5
 cases h : alH (k := tI) (v := ace) id s with
 | none => simp only [aHi, h]
 | some g =>
   simp only [aHi, h]
   rw [adJ]
   by_cases h2 : day < g.2.1 <;> simp [h2]
def aQ9 (s : List (Int × acO)) (id day : Int) : Int := if !aLu day then 1 else ak5 s id day
theorem aHS (s : List (Int × acO)) (id day : Int) : adG id day s = some (aQ9 s id day) := by
 unfold adG ar4 aQ9
 rw [aGK, ab1, aKI, ab1]
 cases aLu day <;> rfl
def aLg (b : acq) (s : List (Int × acO)) (i : Nat) (l : ayO) : Int :=
 if !akl l.2.1 0 20000 then 1 else if !inP l.2.2 0 1048576 then 1 else if ak5 s l.1 l.2.1.1 != 0 then ak5 s l.1 l.2.1.1 else
 if (b.2.2.2.1.take i).any (fun x => x.1 == l.1 && (decide (x.2.1.1 ≤ l.2.1.2) && decide (l.2.1.1 ≤ x.2.1.2))) then 9 else
 if b.2.2.1.any (fun u => u.1 == l.1 && inP u.2 l.2.1.1 l.2.1.2) then 9 else 0
theorem aJL {b : acq} (hn : b.2.2.2.1.length ≤ 1000) (hu : b.2.2.1.length ≤ 1000) (s : List (Int × acO)) {i : Nat} {l : ayO} (hl : b.2.2.2.1[i]? = some l) : aeX b s i = some (aLg b s i l) := by
 unfold aeX anb aLg
 have hi : i < b.2.2.2.1.length := (List.getElem?_eq_some_iff.1 hl).1
 rw [acg hl, auy, ab1, afh, ab1, aKI, ab1]
 cases akl l.2.1 0 20000 with
 | false => rfl
 | true =>
 cases inP l.2.2 0 1048576 with
 | false => rfl
 | true =>
 cases hm : (ak5 s l.1 l.2.1.1 != 0) with
 | true =>
   have : ine (ak5 s l.1 l.2.1.1) 0 = true := hm
   simp [this]
 | false =>
 have hm' : ine (ak5 s l.1 l.2.1.1) 0 = false := hm
 have hg : ((ile (0 : Int) (i : Int)) && (ile (i : Int) (adD b.2.2.2.1))) = true := by simp [ile, adD]; omega
 simp only [Bool.not_true, acM, hm', Bool.false_eq_true, if_false]
 rw [adI hg, Int.toNat_natCast]
 have inner : ∀ (k : Int → Option Int), acj (fun (v : Int) kk => aeT b.2.2.1 (acx b.2.2.1) l.1 l.2.1.1 l.2.1.2 v (fun u => kk u) (fun z => ifb (ige z 0) (k 9) (k 0)) (fun _ => k 0)) (0 : Int) = if b.2.2.1.any (fun u => u.1 == l.1 && inP u.2 l.2.1.1 l.2.1.2) then k 9 else k 0 := by
  intro k
  refine agG b.2.2.1 _ (fun z => ifb (ige z 0) (k 9) (k 0)) (k 9) (k 0) (fun j => ?_) (fun j a hj ha kn => ?_) (fun kn => ?_)
  ·have : ige (j : Int) 0 = true := by simp [ige]
   rw [acv this]
  ·try dsimp only
   unfold aeT
   rw [acm hj, acg ha, afh, ab1, aci hj (by omega)]
   cases h1 : (a.1 == l.1) with
   | false =>
     have : ieq a.1 l.1 = false := h1
     simp [this]
   | true =>
     have : ieq a.1 l.1 = true := h1
     rw [this]
     cases inP a.2 l.2.1.1 l.2.1.2 <;> simp
  ·try dsimp only
   unfold aeT
   rw [acJ]
 rw [inner]
 refine Eq.trans (agG (b.2.2.2.1.take i) (fun x => x.1 == l.1 && (decide (x.2.1.1 ≤ l.2.1.2) && decide (l.2.1.1 ≤ x.2.1.2))) (fun z => ifb (ige z 0) (some 9) (if b.2.2.1.any (fun u => u.1 == l.1 && inP u.2 l.2.1.1 l.2.1.2) then some 9 else some 0)) (some 9) (if b.2.2.1.any (fun u => u.1 == l.1 && inP u.2 l.2.1.1 l.2.1.2) then some 9 else some 0) (fun j => ?_) (fun j a hj ha kn => ?_) (fun kn => ?_)) ?_
 ·have : ige (j : Int) 0 = true := by simp [ige]
  rw [acv this]
 ·try dsimp only
  unfold agF
  have hj' : j ≤ 1000 := by rw [List.length_take] at hj; omega
  rw [acm hj, acg ha, aci hj (by rw [List.length_take]; omega)]
  cases h1 : (a.1 == l.1) with
  | false =>
    have : ieq a.1 l.1 = false := h1
    simp [this]
  | true =>
    have : ieq a.1 l.1 = true := h1
    rw [this]
    cases h2 : decide (a.2.1.1 ≤ l.2.1.2) <;> cases h3 : decide (l.2.1.1 ≤ a.2.1.2) <;> simp [ile, h2, h3, adJ] <;> simp_all
 ·try dsimp only
  unfold agF
  rw [acJ]
 ·cases List.any (b.2.2.2.1.take i) _ <;> cases b.2.2.1.any _ <;> rfl
end Go.Proofs.ZzM
end
noncomputable section
namespace Go.Proofs.ZzM
open Go Go.Am
theorem aQW {l : List Int} (hn : l.length ≤ 1000000) (x : Int) : agn l x = some (match l.findIdx? (· == x) with | some j => (j : Int) | none => -1) := by
 unfold agn ahR
 refine Eq.trans (af7 l (· == x) some (some (-1)) (fun i a hi ha kn => ?_) (fun kn => ?_)) ?_
 ·try dsimp only
  unfold afe
  rw [acm hi, acg ha, aci hi (by omega), adJ]
  by_cases h : x = a
  ·subst h; simp [ieq]
  ·have h2 : ¬ a = x := fun e => h e.symm
   simp [ieq, h, h2]
 ·try dsimp only
  unfold afe
  rw [acJ]
 ·cases l.findIdx? (· == x) <;> rfl
theorem aiU {l : List Int} (hn : l.length ≤ 1000000) (x : Int) : adp l x = some (l.contains x) := by
 unfold adp agt
 rw [aQW hn, ab1]
 congr 1
 cases h : l.findIdx? (· == x) with
 | none =>
   have : l.contains x = false := by
    rw [Bool.eq_false_iff]
    intro hc
    have := List.findIdx?_eq_none_iff.1 h x (by simpa using hc)
    simp at this
   rw [this]; rfl
 | some j =>
   obtain ⟨hj, hp, _⟩ := List.findIdx?_eq_some_iff_getElem.1 h
   have : l.contains x = true := by
    have h2 : l[j] = x := by simpa using hp
    rw [← h2]; simp
   rw [this]
   simp [ige]
def ac6 (a b : List Int) : List Int := a.filter fun x => !b.contains x
theorem alo {a b : List Int} (ha : a.length ≤ 1000000) (hb : b.length ≤ 1000000) : aej a b = some (ac6 a b) := by
 unfold aej aGm
 rw [acn (by omega), Am.iff_true]
 have second : ∀ z : Nat, z < a.length → ac6 (a.take z) b = a.take z → b.contains (a[z]?.getD 0) = true →
  acj (fun (v13 : (Val (.pair tI (.pair tI (.slice tI))))) kk17 => agR b v13.1 v13.2.1 v13.2.2 (fun u14 u15 u16 => kk17 (u14, u15, u16)) (fun z12 => acS ((ile (0 : Int) z12.1) && (ile z12.1 (adD z12.2))) (acS ((ile (0 : Int) z12.1) && (ile z12.1 (adD (List.take (Int.toNat z12.1) z12.2 ++ List.replicate (List.length z12.2 - (Int.toNat z12.1)) (0 : Int) ++ List.drop ((Int.toNat z12.1) + (List.length z12.2 - (Int.toNat z12.1))) z12.2)))) (some (List.take (Int.toNat z12.1) (List.drop 0 (List.take (Int.toNat z12.1) z12.2 ++ List.replicate (List.length z12.2 - (Int.toNat z12.1)) (0 : Int) ++ List.drop ((Int.toNat z12.1) + (List.length z12.2 - (Int.toNat z12.1))) z12.2))))))) ((z : Int), ((z : Int) + 1), a) = some (ac6 a b) := by
  intro z hz hp hc
  refine afE (fun x : Int × Int × List Int => ∃ i j : Nat, x.1 = i ∧ x.2.1 = j ∧ i < j ∧ j ≤ a.length ∧ x.2.2.length = a.length ∧ x.2.2.take i = ac6 (a.take j) b ∧ x.2.2.drop j = a.drop j) (fun x => a.length - x.2.1.toNat) ?_
   ⟨z, z + 1, rfl, by simp, by omega, by omega, rfl, ?_, rfl⟩
  ·rintro ⟨x1, x2, s⟩ ⟨i, j, h1, h2, hij, hja, hl, ht, hd⟩
   simp only at h1 h2 hl ht hd
   subst h1 h2
   rcases Nat.lt_or_ge j a.length with hj | hj
   ·refine .inr ?_
    have hsj : s[j]? = some a[j] := by
     have h3 : (s.drop j)[0]? = (a.drop j)[0]? := by rw [hd]
     rw [List.getElem?_drop, List.getElem?_drop] at h3
     simpa [List.getElem?_eq_getElem hj] using h3
    have hjs : j < s.length := by omega
    have hta : ac6 (a.take (j + 1)) b = ac6 (a.take j) b ++ if b.contains a[j] then [] else [a[j]] := by
     rw [take_succ (List.getElem?_eq_getElem hj), ac6, ac6, List.filter_append]
     congr 1
     cases h : b.contains a[j] with
     | true => simp only [List.filter_cons, h, Bool.not_true, Bool.false_eq_true, if_false, List.filter_nil, if_true]
     | false => simp only [List.filter_cons, h, Bool.not_false, Bool.false_eq_true, if_false, List.filter_nil, if_true]
    cases h : b.contains a[j] with
    | true =>
      refine ⟨(i, (j : Int) + 1, s), ⟨i, j + 1, rfl, by simp, by omega, by omega, hl, ?_, ?_⟩, by simp; omega, fun kn => ?_⟩
      ·rw [hta, h]; simpa using ht
      ·have := congrArg (List.drop 1) hd
       simpa [List.drop_drop, Nat.add_comm] using this
      ·try dsimp only
       unfold agR
       rw [acm hjs, afR hjs, aep hsj, aiU hb, ab1, h]
       simp only [Bool.not_true, acM]
       rw [aci hjs (by omega)]
    | false =>
      have his : i < s.length := by omega
      refine ⟨((i : Int) + 1, (j : Int) + 1, s.set i a[j]), ⟨i + 1, j + 1, by simp, by simp, by omega, by omega, by simpa using hl, ?_, ?_⟩, by simp; omega, fun kn => ?_⟩
      ·show List.take (i + 1) (s.set i a[j]) = _
       rw [hta, h, List.take_succ, List.getElem?_set, List.take_set_of_le (Nat.le_refl i), ht]
       simp [his]
      ·show List.drop (j + 1) (s.set i a[j]) = _
       rw [List.drop_set_of_lt (by omega)]
       have := congrArg (List.drop 1) hd
       simpa [List.drop_drop, Nat.add_comm] using this
      ·try dsimp only
       unfold agR
       rw [acm hjs, afR hjs, aep hsj, aiU hb, ab1, h]
       simp only [Bool.not_false, aei]
       rw [afR his, aep (List.getElem?_eq_getElem his), aci his (by omega), aci hjs (by omega), Int.toNat_natCast]
   ·refine .inl fun kn => ?_
    have hje : j = s.length := by omega
    try dsimp only
    unfold agR
    rw [hje, acJ]
    dsimp only
    have g1 : ((ile (0 : Int) (i : Int)) && (ile (i : Int) (adD s))) = true := by simp [ile, adD]; omega
    rw [adI g1]
    have g2 : ((ile (0 : Int) (i : Int)) && (ile (i : Int) (adD (List.take (Int.toNat (i : Int)) s ++ List.replicate (List.length s - (Int.toNat (i : Int))) (0 : Int) ++ List.drop ((Int.toNat (i : Int)) + (List.length s - (Int.toNat (i : Int)))) s)))) = true := by
     simp [ile, adD]; omega
    rw [adI g2, Int.toNat_natCast, List.drop_zero, List.append_assoc, List.take_append_of_le_length (by simp; omega), List.take_take, Nat.min_self, ht]
    rw [List.take_of_length_le (by omega)]
  ·show List.take z a = ac6 (a.take (z + 1)) b
   have hz' : a[z]? = some a[z] := List.getElem?_eq_getElem hz
   rw [take_succ hz', ac6, List.filter_append]
   rw [hz'] at hc
   simp only [Option.getD_some] at hc
   have : List.filter (fun x => !b.contains x) [a[z]] = [] := by simp only [List.filter_cons, hc, Bool.not_true, Bool.false_eq_true, if_false, List.filter_nil]
   rw [this, List.append_nil]
   exact hp.symm
 refine Eq.trans (af7 a (fun x => b.contains x) (fun z4 => ifb (ieq z4 (-1 : Int)) (some a) (ck (z4 + (1 : Int)) fun n5 => acj (fun (v13 : (Val (.pair tI (.pair tI (.slice tI))))) kk17 => agR b v13.1 v13.2.1 v13.2.2 (fun u14 u15 u16 => kk17 (u14, u15, u16)) (fun z12 => acS ((ile (0 : Int) z12.1) && (ile z12.1 (adD z12.2))) (acS ((ile (0 : Int) z12.1) && (ile z12.1 (adD (List.take (Int.toNat z12.1) z12.2 ++ List.replicate (List.length z12.2 - (Int.toNat z12.1)) (0 : Int) ++ List.drop ((Int.toNat z12.1) + (List.length z12.2 - (Int.toNat z12.1))) z12.2)))) (some (List.take (Int.toNat z12.1) (List.drop 0 (List.take (Int.toNat z12.1) z12.2 ++ List.replicate (List.length z12.2 - (Int.toNat z12.1)) (0 : Int) ++ List.drop ((Int.toNat z12.1) + (List.length z12.2 - (Int.toNat z12.1))) z12.2))))))) (z4, n5, a))) (some a) (fun i x hi hx kn => ?_) (fun kn => ?_)) ?_
 ·try dsimp only
  unfold am8
  rw [acm hi, afR hi, aep hx, aiU hb, ab1, aci hi (by omega), adJ]
 ·try dsimp only
  unfold am8
  rw [acJ]
 ·cases h : a.findIdx? (fun x => b.contains x) with
  | none =>
    have : ac6 a b = a := by
     rw [ac6, List.filter_eq_self]
     intro x hx
     have := List.findIdx?_eq_none_iff.1 h x hx
     simpa using this
    rw [this]
  | some z =>
    obtain ⟨hz, hc, hlt⟩ := List.findIdx?_eq_some_iff_getElem.1 h
    have h1 : ieq (z : Int) (-1) = false := by simp [ieq]
    try dsimp only
    rw [ack h1, aci hz (by omega)]
    refine second z hz ?_ ?_
    ·rw [ac6, List.filter_eq_self]
     intro x hx
     obtain ⟨j, hj, rfl⟩ := List.mem_iff_getElem.1 hx
     rw [List.length_take] at hj
     rw [List.getElem_take]
     have := hlt j (by omega)
     simpa using this
    ·rw [List.getElem?_eq_getElem hz]; exact hc
def axJ (l : List Int) (i : Nat) (a : Int) : Option Bool := if !inP a 1 1099511627776 then some false else if aBP (fun x => x) l i a then some false else none
def aje (l : List Int) : Bool := match aeN (axJ l) 0 l with | some _ => false | none => decide (l.length ≤ 6)
theorem auv {l : List Int} (hn : l.length ≤ 1000000) : aia l = some (aje l) := by
 unfold aia avX
 refine Eq.trans (al6 l (axJ l) some (some (decide (l.length ≤ 6))) (fun i a hi ha kn => ?_) (fun kn => ?_)) ?_
 ·try dsimp only
  unfold aji
  rw [acm hi, acg ha, afh, ab1]
  unfold axJ
  cases inP a 1 1099511627776 with
  | false => rfl
  | true =>
    simp only [Bool.not_true, acM, Bool.false_eq_true, if_false]
    rcases Nat.eq_zero_or_pos i with h0 | h0
    ·subst h0
     have : igt ((0 : Nat) : Int) 0 = false := by simp [igt]
     rw [ack this, aci hi (by omega)]
     simp [aBP]
    ·obtain ⟨q, hq⟩ := aHL hi h0
     have h1 : igt (i : Int) 0 = true := by simp [igt]; omega
     rw [acv h1, aQn h0 (by omega), aJo h0 hq]
     simp only [aBP, h0, decide_true, Bool.true_and, hq, Option.any_some]
     unfold ile
     cases h2 : decide (a ≤ q) with
     | true => rfl
     | false =>
       rw [acM, aci hi (by omega)]
       rfl
 ·try dsimp only
  unfold aji
  rw [acJ, acL]
  simp [ile]
  omega
 ·have hb : ∀ x, aeN (axJ l) 0 l = some x → x = false := by
   have : ∀ (m : List Int) (j : Nat) (x : Bool), aeN (axJ l) j m = some x → x = false := by
    intro m
    induction m with
    | nil => intro j x h; cases h
    | cons a m ih =>
      intro j x h
      unfold aeN at h
      cases hp : axJ l j a with
      | none => rw [hp] at h; exact ih _ _ h
      | some y =>
        rw [hp] at h
        cases h
        unfold axJ at hp
        split at hp
        ·cases hp; rfl
        ·split at hp
         ·cases hp; rfl
         ·cases hp
   exact this l 0
  unfold aje
  cases h : aeN (axJ l) 0 l with
  | none => rfl
  | some x => rw [hb x h]
theorem aHO (l : List Int) : aje l = true ↔ (∀ x ∈ l, 1 ≤ x ∧ x ≤ 1099511627776) ∧ l.Pairwise (· < ·) ∧ l.length ≤ 6 := by
 have h0 : aeN (axJ l) 0 l = none ↔ (∀ x ∈ l, 1 ≤ x ∧ x ≤ 1099511627776) ∧ l.Pairwise (· < ·) := by
  rw [ah7, ← aM5 (fun x => x) l]
  constructor
  ·intro h
   have h1 : ∀ (j : Nat) (a : Int), l[j]? = some a → inP a 1 1099511627776 = true ∧ aBP (fun x => x) l j a = false := by
    intro j a ha
    have := h j a ha
    rw [Nat.zero_add] at this
    unfold axJ at this
    split at this
    ·cases this
    ·split at this
     ·cases this
     ·rename_i h1 h2
      exact ⟨by simpa using h1, by simpa using h2⟩
   refine ⟨fun x hx => ?_, fun i a ha => (h1 i a ha).2⟩
   obtain ⟨j, hj, rfl⟩ := List.mem_iff_getElem.1 hx
   have := (h1 j l[j] (List.getElem?_eq_getElem hj)).1
   simpa [inP] using this
  ·rintro ⟨h1, h2⟩ j a ha
   rw [Nat.zero_add]
   have h3 := h1 a (List.mem_of_getElem? ha)
   have : inP a 1 1099511627776 = true := by simpa [inP] using h3
   simp [axJ, this, h2 j a ha]
 unfold aje
 cases h : aeN (axJ l) 0 l with
 | none =>
   obtain ⟨h1, h2⟩ := h0.1 h
   simp only [decide_eq_true_eq]
   exact ⟨fun h3 => ⟨h1, h2, h3⟩, fun h3 => h3.2.2⟩
 | some x =>
   constructor
   ·intro h2; cases h2
   ·rintro ⟨h1, h2, h3⟩
    rw [h0.2 ⟨h1, h2⟩] at h; cases h
theorem aQX {a b : List Int} (ha : a.length ≤ 1000000) (hb : b.length ≤ 1000000) : acB [a, b] = some (a ++ b) := by
 have hk : ∀ n : Nat, n ≤ 4000000 → ∀ (f : Int → Option (List Int)), ck (n : Int) f = f n := fun n h f => acs (by omega) (by omega) f
 have second : acj (fun (v9 : (Val (.pair tI (.slice tI)))) kk12 => acG [a, b] (acx [a, b]) v9.1 v9.2 (fun u10 u11 => kk12 (u10, u11)) (fun z8 => some z8)) ((0 : Int), ([] : List Int)) = some (a ++ b) := by
  refine ada [a, b] (fun i => ([a, b].take i).flatten) (some (a ++ b)) (f := fun (v9 : (Val (.pair tI (.slice tI)))) kk12 => acG [a, b] (acx [a, b]) v9.1 v9.2 (fun u10 u11 => kk12 (u10, u11)) (fun z8 => some z8)) rfl (fun i x hi hx kn => ?_) (fun kn => ?_)
  ·try dsimp only
   unfold acG
   rw [acm hi, acg hx, aci hi (by simp), take_succ hx, List.flatten_append]
   have : acK ((List.take i [a, b]).flatten.length + x.length) = true := by
    refine acn ?_
    have h1 : x.length ≤ 1000000 := by
     have := List.mem_of_getElem? hx
     simp at this
     rcases this with rfl | rfl <;> assumption
    have h2 : (List.take i [a, b]).flatten.length ≤ 2000000 := by
     have : i = 0 ∨ i = 1 := by simp at hi; omega
     rcases this with rfl | rfl <;> simp <;> omega
    omega
   rw [adI this]
   simp
  ·try dsimp only
   unfold acG
   rw [acJ]
   simp
 unfold acB afV
 refine afE (fun x : Int × Int => ∃ i : Nat, i ≤ 2 ∧ x = ((([a, b].take i).flatten.length : Int), (i : Int))) (fun x => 2 - x.2.toNat) ?_ ⟨0, by omega, rfl⟩
 rintro x ⟨i, hi, rfl⟩
 rcases Nat.lt_or_ge i 2 with h2 | h2
 ·refine .inr ⟨((([a, b].take (i + 1)).flatten.length : Int), (i : Int) + 1), ⟨i + 1, h2, by simp⟩, by simp; omega, fun kn => ?_⟩
  have hi' : i < [a, b].length := h2
  obtain ⟨x, hx⟩ : ∃ x, [a, b][i]? = some x := ⟨_, List.getElem?_eq_getElem hi'⟩
  have hxl : x.length ≤ 1000000 := by
   have := List.mem_of_getElem? hx
   simp at this
   rcases this with rfl | rfl <;> assumption
  have h3 : (List.take i [a, b]).flatten.length ≤ 2000000 := by
   have : i = 0 ∨ i = 1 := by omega
   rcases this with rfl | rfl <;> simp <;> omega
  try dsimp only
  unfold adv
  rw [acm hi', acg hx, acL]
  have e1 : (((List.take i [a, b]).flatten.length : Int) + (x.length : Int)) = ((List.take i [a, b]).flatten.length + x.length : Nat) := by omega
  rw [e1, hk _ (by omega)]
  have : ilt ((((List.take i [a, b]).flatten.length + x.length : Nat)) : Int) 0 = false := by simp [ilt]; omega
  rw [ack this, aci hi' (by simp), take_succ hx]
  simp
 ·refine .inl fun kn => ?_
  obtain rfl : i = 2 := by omega
  try dsimp only
  unfold adv
  rw [show ((2 : Nat) : Int) = (([a, b].length : Nat) : Int) from rfl, acJ]
  have e1 : ((List.take 2 [a, b]).flatten.length : Int) = ((a.length + b.length : Nat) : Int) := by simp
  have e2 : ilt (((a.length + b.length : Nat)) : Int) 0 = false := by simp [ilt]; omega
  rw [e1]
  dsimp only
  rw [ack e2, Int.sub_zero, hk _ (by omega)]
  rcases Nat.eq_zero_or_pos (a.length + b.length) with h0 | h0
  ·have : igt (((a.length + b.length : Nat)) : Int) 0 = false := by simp [igt]; omega
   rw [ack this]
   exact second
  ·have : igt (((a.length + b.length : Nat)) : Int) 0 = true := by simp [igt]; omega
   rw [acv this]
   have : ((ilt (0 : Int) (((a.length + b.length : Nat)) : Int)) && (acK (Int.toNat (((a.length + b.length : Nat)) : Int)))) = true := by
    rw [Int.toNat_natCast, acn (by omega)]
    simp [ilt]; omega
   rw [adI this]
   have : ile 0 (adD (List.replicate (Int.toNat (((a.length + b.length : Nat)) : Int)) (0 : Int))) = true := by simp [ile]
   rw [adI this]
   exact second
def ayj (b : acq) (id day : Int) : Option ayO := b.2.2.2.1.find? fun l => l.1 == id && inP day l.2.1.1 l.2.1.2
theorem aMM {α : Type} (p : α → Bool) : ∀ l : List α, l.find? p = (match l.findIdx? p with | some j => l[j]? | none => none)
 | [] => rfl
 | a :: l => by
   rw [List.find?_cons, List.findIdx?_cons]
   cases h : p a with
   | true => simp
   | false =>
     simp only [Bool.false_eq_true, if_false]
     rw [aMM p l]
     cases l.findIdx? p <;> simp
theorem aTK {b : acq} (hn : b.2.2.2.1.length ≤ 1000) (id day : Int) : ap8 b id day = some (match ayj b id day with | some l => (l, true) | none => ((0, (0, 0), 0), false)) := by
 unfold ap8 aGw
 refine Eq.trans (af7 b.2.2.2.1 (fun l => l.1 == id && inP day l.2.1.1 l.2.1.2) (fun z5 => ifb (ilt z5 (0 : Int)) (some (((0 : Int), ((0 : Int), (0 : Int)), (0 : Int)), false)) (adO b.2.2.2.1 z5 fun e6 => some (e6, true))) (some ((0, (0, 0), 0), false)) (fun i a hi ha kn => ?_) (fun kn => ?_)) ?_
 ·try dsimp only
  unfold anc
  rw [acm hi, acg ha, afh, ab1, aci hi (by omega)]
  cases h1 : (a.1 == id) with
  | false =>
    have : ieq a.1 id = false := h1
    simp [this]
  | true =>
    have : ieq a.1 id = true := h1
    rw [this]
    cases inP day a.2.1.1 a.2.1.2 <;> simp
 ·try dsimp only
  unfold anc
  rw [acJ]
 ·unfold ayj
  rw [aMM]
  cases h : b.2.2.2.1.findIdx? (fun l => l.1 == id && inP day l.2.1.1 l.2.1.2) with
  | none => rfl
  | some j =>
    obtain ⟨hj, _, _⟩ := List.findIdx?_eq_some_iff_getElem.1 h
    have : ilt (j : Int) 0 = false := by simp [ilt]
    try dsimp only
    rw [ack this, acg (List.getElem?_eq_getElem hj), List.getElem?_eq_getElem hj]
end Go.Proofs.ZzM
end
noncomputable section
namespace Go.Proofs.ZzM
open Go Go.Am
def aTm (a : Int) : List Int → List Int
 | [] => [a]
 | b :: t => if a ≤ b then a :: b :: t else b :: aTm a t
def aEf : List Int → List Int
 | [] => []
 | a :: t => aTm a (aEf t)
def aod (p : Option Int) : List Int → List Int
 | [] => []
 | a :: t => if p = some a then aod (some a) t else a :: aod (some a) t
def aKb (l : List Int) : List Int := aod none (aEf l)
theorem aA1 (a : Int) : ∀ l, (aTm a l).Perm (a :: l)
 | [] => List.Perm.refl _
 | b :: t => by
   unfold aTm
   split
   ·exact List.Perm.refl _
   ·exact ((aA1 a t).cons b).trans (List.Perm.swap a b t)
theorem ani : ∀ l, (aEf l).Perm l
 | [] => List.Perm.refl _
 | a :: t => (aA1 a _).trans ((ani t).cons a)
theorem aA0 (a : Int) : ∀ {l : List Int}, l.Pairwise (· ≤ ·) → (aTm a l).Pairwise (· ≤ ·)
 | [], _ => by simp [aTm]
 | b :: t, h => by
   rw [List.pairwise_cons] at h
   unfold aTm
   split
   ·rename_i hab
    refine List.pairwise_cons.2 ⟨fun x hx => ?_, List.pairwise_cons.2 h⟩
    rcases List.mem_cons.1 hx with rfl | hx
    ·exact hab
    ·have := h.1 x hx; omega
   ·rename_i hab
    refine List.pairwise_cons.2 ⟨fun x hx => ?_, aA0 a h.2⟩
    rcases List.mem_cons.1 ((aA1 a t).mem_iff.1 hx) with rfl | hx
    ·omega
    ·exact h.1 x hx
theorem anh : ∀ l : List Int, (aEf l).Pairwise (· ≤ ·)
 | [] => List.Pairwise.nil
 | a :: t => aA0 a (anh t)
theorem aRf (l : List Int) : asw l = aEf l := by
 have h1 : (asw l).Pairwise (· ≤ ·) := by
  have := List.pairwise_mergeSort (le := fun a b : Int => decide (a ≤ b)) (fun a b c h1 h2 => by simp at *; omega) (fun a b => by simp; omega) l
  exact this.imp fun h => by simpa using h
 exact List.Perm.eq_of_pairwise (le := (· ≤ ·)) (fun a b _ _ h1 h2 => by omega) h1 (anh l) ((List.mergeSort_perm l _).trans (ani l).symm)
theorem aDt (a : Int) : ∀ (l : List Int) (p : Option Int), aod p (l ++ [a]) = aod p l ++ (if (match l.getLast? with | some b => some b | none => p) = some a then [] else [a])
 | [], p => by simp only [List.nil_append, aod, List.getLast?_nil]; rfl
 | b :: t, p => by
   have ih := aDt a t (some b)
   have e : (match (b :: t).getLast? with | some c => some c | none => p) = (match t.getLast? with | some c => some c | none => some b) := by
    cases t with
    | nil => rfl
    | cons c t =>
      rw [List.getLast?_cons_cons]
      cases h : (c :: t).getLast? with
      | none => simp at h
      | some x => rfl
   rw [e]
   simp only [List.cons_append, aod, ih]
   split <;> simp
theorem arc (l : List Int) : ∀ m, m ≤ l.length → Lib.compactUpTo l.toArray m = aod none (l.take m)
 | 0, _ => by simp [Lib.compactUpTo, aod]
 | m + 1, h => by
   have hm : m < l.length := h
   rw [Lib.compactUpTo_succ, arc l m (by omega), take_succ (List.getElem?_eq_getElem hm), aDt]
   congr 1
   have e1 : l.toArray[m]! = l[m] := by simp [getElem!_pos, hm]
   rw [e1]
   unfold Lib.keeps
   rw [e1]
   cases m with
   | zero => simp
   | succ m =>
     have hm' : m < l.length := by omega
     have e2 : l.toArray[m + 1 - 1]! = l[m] := by simp [getElem!_pos, hm']
     rw [e2]
     have e3 : (l.take (m + 1)).getLast? = some l[m] := by rw [take_succ (List.getElem?_eq_getElem hm'), List.getLast?_append]; rfl
     rw [e3]
     by_cases hne : l[m + 1] = l[m]
     ·simp [hne]
     ·have : ¬ l[m] = l[m + 1] := fun h => hne h.symm
      simp [hne, this]
theorem aLy (l : List Int) : aqc l = aod none l := by
 unfold aqc Lib.compact
 rw [arc l l.length (Nat.le_refl _), List.take_length]
theorem aOP (l : List Int) : aqc (asw l) = aKb l := by rw [aRf, aLy]; rfl
theorem aHq : ∀ {l : List Int} {p : Option Int} {x : Int}, p ≠ some x → (x ∈ aod p l ↔ x ∈ l)
 | [], _, _, _ => Iff.rfl
 | a :: t, p, x, hp => by
   unfold aod
   by_cases hx : x = a
   ·subst hx
    rw [if_neg hp]; simp
   ·have ih := aHq (l := t) (p := some a) (x := x) (fun e => hx (by cases e; rfl))
    split <;> simp [ih, hx]
theorem aL2 : ∀ {l : List Int} {p : Option Int}, l.Pairwise (· ≤ ·) → (∀ q, p = some q → ∀ x ∈ l, q ≤ x) → (aod p l).Pairwise (· < ·) ∧ ∀ q, p = some q → ∀ x ∈ aod p l, q < x
 | [], p, _, _ => ⟨List.Pairwise.nil, fun _ _ _ h => by cases h⟩
 | a :: t, p, h, hp => by
   rw [List.pairwise_cons] at h
   obtain ⟨i1, i2⟩ := aL2 (l := t) (p := some a) h.2 (fun q hq x hx => by cases hq; exact h.1 x hx)
   unfold aod
   split
   ·rename_i e
    exact ⟨i1, fun q hq x hx => by rw [e] at hq; cases hq; exact i2 _ rfl x hx⟩
   ·rename_i e
    refine ⟨List.pairwise_cons.2 ⟨fun x hx => i2 _ rfl x hx, i1⟩, fun q hq x hx => ?_⟩
    have := hp q hq a (by simp)
    have hne : q ≠ a := fun h => e (by rw [hq, h])
    rcases List.mem_cons.1 hx with rfl | hx
    ·omega
    ·have := i2 _ rfl x hx; omega
theorem apQ {l : List Int} {x : Int} : x ∈ aKb l ↔ x ∈ l := by
 unfold aKb
 rw [aHq (by simp), (ani l).mem_iff]
theorem aKn (l : List Int) : (aKb l).Pairwise (· < ·) := (aL2 (anh l) (fun q hq => by cases hq)).1
theorem aHr : ∀ (l : List Int) (p : Option Int), (aod p l).length ≤ l.length
 | [], _ => Nat.le_refl _
 | a :: t, p => by
   have := aHr t (some a)
   unfold aod
   split <;> simp <;> omega
theorem ays (l : List Int) : (aKb l).length ≤ l.length := by
 unfold aKb
 have := aHr (aEf l) none
 rwa [(ani l).length_eq] at this
theorem aTL {l m : List Int} (hl : l.Pairwise (· < ·)) (hm : m.Pairwise (· < ·)) (h : ∀ x, x ∈ l ↔ x ∈ m) : l = m := by
 induction l generalizing m with
 | nil =>
   cases m with
   | nil => rfl
   | cons a t => have := (h a).2 (by simp); cases this
 | cons a t ih =>
   rw [List.pairwise_cons] at hl
   cases m with
   | nil => have := (h a).1 (by simp); cases this
   | cons b u =>
     rw [List.pairwise_cons] at hm
     have hab : a = b := by
      rcases List.mem_cons.1 ((h a).1 (by simp)) with h1 | h1
      ·exact h1
      ·rcases List.mem_cons.1 ((h b).2 (by simp)) with h2 | h2
       ·exact h2.symm
       ·have := hm.1 a h1; have := hl.1 b h2; omega
     subst hab
     rw [ih hl.2 hm.2 fun x => ?_]
     constructor
     ·intro hx
      rcases List.mem_cons.1 ((h x).1 (by simp [hx])) with h1 | h1
      ·have := hl.1 x hx; omega
      ·exact h1
     ·intro hx
      rcases List.mem_cons.1 ((h x).2 (by simp [hx])) with h1 | h1
      ·have := hm.1 x hx; omega
      ·exact h1
end Go.Proofs.ZzM
end
noncomputable section
namespace Go.Proofs.ZzM
open Go Go.Am
def awK (b : acq) (s : List (Int × acO)) (c : Cmp) : Int :=
 if (c.2.2.1 ++ c.2.2.2.1).any (fun id => ak5 s id c.2.1 == 5) then 5 else
 if (c.2.2.1 ++ c.2.2.2.1).any (fun id => ak5 s id c.2.1 == 4) then 4 else
 if (c.2.2.1 ++ c.2.2.2.1).any (fun id => (ayj b id c.2.1).isSome) then 9 else
 if 1 < (ac6 c.2.2.1 c.2.2.2.1).length then 1 else if 1 < (ac6 c.2.2.2.1 c.2.2.1).length then 1 else
 if (ac6 c.2.2.1 c.2.2.2.1).length + (ac6 c.2.2.2.1 c.2.2.1).length = 0 then 1 else 0
def aNB (c : Cmp) : Bool :=
 inP c.1 1 1099511627776 && (aLu c.2.1 && (inP c.2.2.2.2.1 (-1125899906842624) 1125899906842624 && (inP c.2.2.2.2.2.1 0 1073741824 && (akl c.2.2.2.2.2.2 (-10000) 10000 && (aje c.2.2.1 && aje c.2.2.2.1)))))
def aqb (b : acq) (s : List (Int × acO)) (i : Nat) (c : Cmp) : Int :=
 if !aNB c then 1 else if (b.2.2.2.2.1.take i).any (fun x => x.1 == c.1) then 6 else awK b s c
theorem aJh (a b : List Int) : (ac6 a b).length ≤ a.length := List.length_filter_le _ _
set_option maxHeartbeats 1000000 in
theorem aBy {b : acq} (hn : b.2.2.2.2.1.length ≤ 1000) (hl : b.2.2.2.1.length ≤ 1000) (s : List (Int × acO)) {i : Nat} {c : Cmp} (hA : c.2.2.1.length ≤ 1000) (hB : c.2.2.2.1.length ≤ 1000)
 (hc : b.2.2.2.2.1[i]? = some c) : adK b s i = some (aqb b s i c) := by
 have hi : i < b.2.2.2.2.1.length := (List.getElem?_eq_some_iff.1 hc).1
 unfold adK ai0 aqb aNB
 rw [acg hc, afh, ab1]
 cases inP c.1 1 1099511627776 with
 | false => rfl
 | true =>
 rw [aGK, ab1]
 cases aLu c.2.1 with
 | false => rfl
 | true =>
 rw [afh, ab1]
 cases inP c.2.2.2.2.1 (-1125899906842624) 1125899906842624 with
 | false => rfl
 | true =>
 rw [afh, ab1]
 cases inP c.2.2.2.2.2.1 0 1073741824 with
 | false => rfl
 | true =>
 rw [auy, ab1]
 cases akl c.2.2.2.2.2.2 (-10000) 10000 with
 | false => rfl
 | true =>
 rw [auv (by omega), ab1]
 cases aje c.2.2.1 with
 | false => rfl
 | true =>
 rw [auv (by omega), ab1]
 cases aje c.2.2.2.1 with
 | false => rfl
 | true =>
 have hg : ((ile (0 : Int) (i : Int)) && (ile (i : Int) (adD b.2.2.2.2.1))) = true := by simp [ile, adD]; omega
 simp only [Bool.not_true, acM, Bool.and_self, Bool.false_eq_true, if_false]
 rw [adI hg, Int.toNat_natCast]
 -- what comes behind the IDs
 have rest : (ab4 (acB ([c.2.2.1, c.2.2.2.1])) fun r12 => acj (fun (v36 : Int) kk38 => adW s r12 (acx ([(5 : Int), (4 : Int)])) c.2.1 ([(5 : Int), (4 : Int)]) v36 (fun u37 => kk38 u37) (fun z23 => some z23) (fun _ => acj (fun (v33 : Int) kk35 => adV r12 (acx r12) b.1.1 b.1.2 b.2.1 b.2.2.1 b.2.2.2.1 b.2.2.2.2.1 b.2.2.2.2.2 c.2.1 v33 (fun u34 => kk35 u34) (fun z28 => some z28) (fun _ => ab4 (aej c.2.2.1 c.2.2.2.1) fun r30 => ab4 (aej c.2.2.2.1 c.2.2.1) fun r31 => ifb (igt (acx r30) (1 : Int)) (some (1 : Int)) (ifb (igt (acx r31) (1 : Int)) (some (1 : Int)) (ck ((acx r30) + (acx r31)) fun n32 => ifb (ieq n32 (0 : Int)) (some (1 : Int)) (some (0 : Int)))))) (0 : Int))) (0 : Int)) = some (awK b s c) := by
  rw [aQX (by omega) (by omega), ab1]
  have hall : (c.2.2.1 ++ c.2.2.2.1).length ≤ 2000 := by simp; omega
  have last : (ab4 (aej c.2.2.1 c.2.2.2.1) fun r30 => ab4 (aej c.2.2.2.1 c.2.2.1) fun r31 => ifb (igt (acx r30) (1 : Int)) (some (1 : Int)) (ifb (igt (acx r31) (1 : Int)) (some (1 : Int)) (ck ((acx r30) + (acx r31)) fun n32 => ifb (ieq n32 (0 : Int)) (some (1 : Int)) (some (0 : Int))))) =
   some (if 1 < (ac6 c.2.2.1 c.2.2.2.1).length then 1 else if 1 < (ac6 c.2.2.2.1 c.2.2.1).length then 1 else if (ac6 c.2.2.1 c.2.2.2.1).length + (ac6 c.2.2.2.1 c.2.2.1).length = 0 then 1 else 0) := by
   rw [alo (by omega) (by omega), ab1, alo (by omega) (by omega), ab1]
   have l1 := aJh c.2.2.1 c.2.2.2.1
   have l2 := aJh c.2.2.2.1 c.2.2.1
   rw [acL, acL, acs (by omega) (by omega)]
   by_cases c1 : 1 < (ac6 c.2.2.1 c.2.2.2.1).length
   ·rw [acv (by simp [igt]; omega), if_pos c1]
   rw [ack (by simp [igt]; omega), if_neg c1]
   by_cases c2 : 1 < (ac6 c.2.2.2.1 c.2.2.1).length
   ·rw [acv (by simp [igt]; omega), if_pos c2]
   rw [ack (by simp [igt]; omega), if_neg c2]
   by_cases c3 : (ac6 c.2.2.1 c.2.2.2.1).length + (ac6 c.2.2.2.1 c.2.2.1).length = 0
   ·rw [acv (by simp [ieq]; omega), if_pos c3]
   rw [ack (by simp [ieq]; omega), if_neg c3]
  refine Eq.trans (al6 [(5 : Int), 4] (fun _ want => if (c.2.2.1 ++ c.2.2.2.1).any (fun id => ak5 s id c.2.1 == want) then some want else none) some (some (if (c.2.2.1 ++ c.2.2.2.1).any (fun id => (ayj b id c.2.1).isSome) then 9 else if 1 < (ac6 c.2.2.1 c.2.2.2.1).length then 1 else if 1 < (ac6 c.2.2.2.1 c.2.2.1).length then 1 else if (ac6 c.2.2.1 c.2.2.2.1).length + (ac6 c.2.2.2.1 c.2.2.1).length = 0 then 1 else 0)) (fun j want hj hw kn => ?_) (fun kn => ?_)) ?_
  ·try dsimp only
   unfold adW
   rw [acm hj, afR hj, aep hw]
   refine Eq.trans (agG (c.2.2.1 ++ c.2.2.2.1) (fun id => ak5 s id c.2.1 == want) (fun _ => some want) (some want) (kn ((j : Int) + 1)) (fun _ => rfl) (fun k a hk ha kn' => ?_) (fun kn' => ?_)) ?_
   ·try dsimp only
    unfold afB
    rw [acm hk, acg ha, aKI, ab1, aci hk (by omega), adJ]
   ·try dsimp only
    unfold afB
    rw [acJ, aci hj (by simp)]
   ·cases List.any (c.2.2.1 ++ c.2.2.2.1) (fun id => ak5 s id c.2.1 == want) <;> rfl
  ·try dsimp only
   unfold adW
   rw [acJ]
   refine Eq.trans (agG (c.2.2.1 ++ c.2.2.2.1) (fun id => (ayj b id c.2.1).isSome) (fun _ => some 9) (some 9) (some (if 1 < (ac6 c.2.2.1 c.2.2.2.1).length then 1 else if 1 < (ac6 c.2.2.2.1 c.2.2.1).length then 1 else if (ac6 c.2.2.1 c.2.2.2.1).length + (ac6 c.2.2.2.1 c.2.2.1).length = 0 then 1 else 0)) (fun _ => rfl) (fun k a hk ha kn' => ?_) (fun kn' => ?_)) ?_
   ·try dsimp only
    unfold adV
    have haw := aTK hl a c.2.1
    rw [acm hk, acg ha, aci hk (by omega)]
    rw [show ap8 ((b.1.1, b.1.2), b.2.1, b.2.2.1, b.2.2.2.1, b.2.2.2.2.1, b.2.2.2.2.2) a c.2.1 = ap8 b a c.2.1 from rfl, haw, ab1]
    cases ayj b a c.2.1 <;> rfl
   ·try dsimp only
    unfold adV
    rw [acJ, last]
   ·cases List.any (c.2.2.1 ++ c.2.2.2.1) (fun id => (ayj b id c.2.1).isSome) <;> rfl
  ·unfold awK aeN aeN aeN
   try dsimp only
   cases List.any (c.2.2.1 ++ c.2.2.2.1) (fun id => ak5 s id c.2.1 == 5) with
   | true => rfl
   | false =>
   cases List.any (c.2.2.1 ++ c.2.2.2.1) (fun id => ak5 s id c.2.1 == 4) <;> rfl
 refine Eq.trans (agG (b.2.2.2.2.1.take i) (fun x => x.1 == c.1) (fun z11 => ifb (ige z11 (0 : Int)) (some 6) (some (awK b s c))) (some 6) (some (awK b s c)) (fun j => ?_) (fun j a hj ha kn => ?_) (fun kn => ?_)) ?_
 ·have : ige (j : Int) 0 = true := by simp [ige]
  rw [acv this]
 ·try dsimp only
  unfold afC
  rw [rest, acm hj, acg ha, aci hj (by rw [List.length_take]; omega), adJ]
 ·try dsimp only
  unfold afC
  rw [acJ, rest]
 ·cases List.any (b.2.2.2.2.1.take i) (fun x => x.1 == c.1) <;> rfl
def aDj (b : acq) (g : acO) : List Int :=
 [g.2.1] ++ (b.2.2.2.2.1.filter fun c => !(c.2.2.1.contains g.1 == c.2.2.2.1.contains g.1)).map (fun c => c.2.1) ++ (b.2.2.2.2.2.filter fun n => n.1 == g.1).map (fun n => n.2)
def acu (b : acq) (g : acO) : List Int := aKb (aDj b g)
structure ahx (b : acq) : Prop where
 gauges : b.2.1.length ≤ 1000
 uses : b.2.2.1.length ≤ 1000
 loans : b.2.2.2.1.length ≤ 1000
 compares : b.2.2.2.2.1.length ≤ 1000
 looks : b.2.2.2.2.2.length ≤ 1000
 piles : ∀ c ∈ b.2.2.2.2.1, c.2.2.1.length ≤ 1000 ∧ c.2.2.2.1.length ≤ 1000
theorem aHx (l : List Int) : (asw l).length = l.length := List.length_mergeSort l
theorem aJH {b : acq} (hs : ahx b) (g : acO) : (aDj b g).length ≤ 2001 := by
 have h1 := hs.compares
 have h2 := hs.looks
 have h3 := List.length_filter_le (fun c : Cmp => !(c.2.2.1.contains g.1 == c.2.2.2.1.contains g.1)) b.2.2.2.2.1
 have h4 := List.length_filter_le (fun n : Int × Int => n.1 == g.1) b.2.2.2.2.2
 simp only [aDj, List.length_append, List.length_map, List.length_singleton]
 omega
theorem aQe {b : acq} (hs : ahx b) (g : acO) : ajp b g = some (acu b g) := by
 unfold ajp aGu
 have hr := aJH hs g
 have hd : (acu b g).length ≤ 2001 := by
  unfold acu
  have := ays (aDj b g)
  omega
 have hcl := hs.compares
 have hll := hs.looks
 refine ada b.2.2.2.2.1 (fun i => [g.2.1] ++ ((b.2.2.2.2.1.take i).filter fun c => !(c.2.2.1.contains g.1 == c.2.2.2.1.contains g.1)).map (fun c => c.2.1)) _ rfl (fun i c hi hc kn => ?_) (fun kn => ?_)
 ·try dsimp only
  unfold ana
  obtain ⟨p1, p2⟩ := hs.piles c (List.mem_of_getElem? hc)
  rw [acm hi, acg hc, aiU (by omega), ab1, aiU (by omega), ab1, aci hi (by omega), aci hi (by omega), take_succ hc, List.filter_append, List.map_append]
  have hlen : ([g.2.1] ++ ((b.2.2.2.2.1.take i).filter fun c => !(c.2.2.1.contains g.1 == c.2.2.2.1.contains g.1)).map (fun c => c.2.1)).length ≤ 1001 := by
   have h3 := List.length_filter_le (fun c : Cmp => !(c.2.2.1.contains g.1 == c.2.2.2.1.contains g.1)) (b.2.2.2.2.1.take i)
   rw [List.length_take] at h3
   simp only [List.length_append, List.length_map, List.length_singleton]
   omega
  rw [acn (by simp only [List.length_singleton]; omega), Am.iff_true]
  cases h : (c.2.2.1.contains g.1 == c.2.2.2.1.contains g.1) with
  | true => simp only [Bool.not_true, acM, List.filter_cons, h, Bool.false_eq_true, if_false, List.filter_nil, List.map_nil, List.append_nil]
  | false => simp only [Bool.not_false, aei, List.filter_cons, h, if_true, List.filter_nil, List.map_cons, List.map_nil, List.append_assoc]
 ·try dsimp only
  unfold ana
  rw [acJ, List.take_length]
  refine ada b.2.2.2.2.2 (fun i => [g.2.1] ++ (b.2.2.2.2.1.filter fun c => !(c.2.2.1.contains g.1 == c.2.2.2.1.contains g.1)).map (fun c => c.2.1) ++ ((b.2.2.2.2.2.take i).filter fun n => n.1 == g.1).map (fun n => n.2)) _ (by simp) (fun i n hi hn kn => ?_) (fun kn => ?_)
  ·try dsimp only
   unfold am9
   rw [acm hi, acg hn, aci hi (by omega), aci hi (by omega), take_succ hn, List.filter_append, List.map_append]
   have hlen : ([g.2.1] ++ (b.2.2.2.2.1.filter fun c => !(c.2.2.1.contains g.1 == c.2.2.2.1.contains g.1)).map (fun c => c.2.1) ++ ((b.2.2.2.2.2.take i).filter fun n => n.1 == g.1).map (fun n => n.2)).length ≤ 2001 := by
    have h3 := List.length_filter_le (fun c : Cmp => !(c.2.2.1.contains g.1 == c.2.2.2.1.contains g.1)) b.2.2.2.2.1
    have h4 := List.length_filter_le (fun n : Int × Int => n.1 == g.1) (b.2.2.2.2.2.take i)
    rw [List.length_take] at h4
    simp only [List.length_append, List.length_map, List.length_singleton]
    omega
   rw [acn (by simp only [List.length_singleton]; omega), Am.iff_true]
   cases h : (n.1 == g.1) with
   | true =>
     have : ieq n.1 g.1 = true := h
     simp [h, this]
   | false =>
     have : ieq n.1 g.1 = false := h
     simp [h, this]
  ·try dsimp only
   unfold am9
   rw [acJ, List.take_length]
   rw [show ([g.2.1] ++ (b.2.2.2.2.1.filter fun c => !(c.2.2.1.contains g.1 == c.2.2.2.1.contains g.1)).map (fun c => c.2.1) ++ (b.2.2.2.2.2.filter fun n => n.1 == g.1).map (fun n => n.2)) = aDj b g from rfl]
   dsimp only
   rw [acn (by omega), Am.iff_true, acn (by rw [aHx]; omega), Am.iff_true, aOP]
   rfl
def acd (b : acq) : List (Int × Int) := b.2.1.flatMap fun g => (acu b g).map fun d => ((g.1, d) : Int × Int)
theorem aBt {b : acq} (hs : ahx b) (g : acO) : (acu b g).length ≤ 2001 := by
 unfold acu
 have := ays (aDj b g)
 have := aJH hs g
 omega
theorem asj {α β : Type} (f : α → List β) (n : Nat) (h : ∀ a, (f a).length ≤ n) : ∀ l : List α, (l.flatMap f).length ≤ l.length * n
 | [] => by simp
 | a :: l => by
   have := asj f n h l
   have := h a
   simp only [List.flatMap_cons, List.length_append, List.length_cons, Nat.add_mul, Nat.one_mul]
   omega
theorem aFc {b : acq} (hs : ahx b) : akb b = some (acd b) := by
 unfold akb aAI
 have hg := hs.gauges
 have hlen : ∀ l : List acO, (l.flatMap fun g => (acu b g).map fun d => ((g.1, d) : Int × Int)).length ≤ l.length * 2001 := fun l =>
  asj _ 2001 (fun g => by rw [List.length_map]; exact aBt hs g) l
 refine ada b.2.1 (fun i => (b.2.1.take i).flatMap fun g => (acu b g).map fun d => ((g.1, d) : Int × Int)) _ rfl (fun i g hi hg' kn => ?_) (fun kn => ?_)
 ·try dsimp only
  unfold akT
  rw [acm hi, acg hg']
  rw [show ajp ((b.1.1, b.1.2), b.2.1, b.2.2.1, b.2.2.2.1, b.2.2.2.2.1, b.2.2.2.2.2) g = ajp b g from rfl, aQe hs, ab1]
  have hd := aBt hs g
  have hi2 := hlen (b.2.1.take i)
  have htl : (b.2.1.take i).length ≤ 1000 := by rw [List.length_take]; omega
  refine ada (acu b g) (fun j => ((b.2.1.take i).flatMap fun g => (acu b g).map fun d => ((g.1, d) : Int × Int)) ++ ((acu b g).take j).map fun d => ((g.1, d) : Int × Int)) _ (by simp) (fun j d hj hd' kn' => ?_) (fun kn' => ?_)
  ·try dsimp only
   unfold akS
   rw [acm hj, acg hd', aci hj (by omega), take_succ hd', List.map_append]
   rw [acn (by simp only [List.length_append, List.length_map, List.length_take, List.length_singleton]; omega), Am.iff_true]
   simp
  ·try dsimp only
   unfold akS
   rw [acJ, List.take_length]
   dsimp only
   rw [aci hi (by omega), take_succ hg', List.flatMap_append]
   simp
 ·try dsimp only
  unfold akT
  rw [acJ, List.take_length]
  rfl
def awL (b : acq) (s : List (Int × acO)) : List Int :=
 b.2.2.1.map (fun u => aQ9 s u.1 u.2) ++ (b.2.2.2.1.mapIdx (fun i l => aLg b s i l) ++ (b.2.2.2.2.1.mapIdx (fun i c => aqb b s i c) ++ b.2.2.2.2.2.map (fun u => aQ9 s u.1 u.2)))
theorem aIi {α : Type} {f : Int → Option Int} {g : Nat → α → Int} (l : List α) (h : ∀ (i : Nat) (a : α), l[i]? = some a → f i = some (g i a)) : azw f (aoc l.length) = some (l.mapIdx g) := by
 have h1 : ∀ i, i < l.length → f (i : Int) = some ((l.mapIdx g)[i]?.getD 0) := by
  intro i hi
  rw [h i l[i] (List.getElem?_eq_getElem hi)]
  simp [hi]
 have h2 : ∀ x ∈ aoc l.length, f x = some ((l.mapIdx g)[x.toNat]?.getD 0) := by
  intro x hx
  unfold aoc at hx
  obtain ⟨i, hi, rfl⟩ := List.mem_map.1 hx
  rw [h1 i (by simpa using hi)]
  rfl
 rw [asU h2]
 congr 1
 refine List.ext_getElem (by simp [aoc]) fun i h3 h4 => ?_
 have h5 : i < l.length := by simpa using h4
 simp [aoc, h5]
theorem aRo {b : acq} (hs : ahx b) (s : List (Int × acO)) : aiK b s = some (awL b s) := by
 unfold aiK awL
 rw [asU (fun u _ => aHS s u.1 u.2), ab1, aIi b.2.2.2.1 (fun i l hl => aJL hs.loans hs.uses s hl), ab1,
  aIi b.2.2.2.2.1 (fun i c hc => aBy hs.compares hs.loans s (hs.piles c (List.mem_of_getElem? hc)).1 (hs.piles c (List.mem_of_getElem? hc)).2 hc), ab1, asU (fun u _ => aHS s u.1 u.2), ab1]
def acy (b : acq) : Int :=
 if !akl b.1 0 1000000 then 1 else
 if 12 < b.2.1.length then 2 else if 40 < b.2.2.1.length then 2 else if 12 < b.2.2.2.1.length then 2 else if 40 < b.2.2.2.2.1.length then 2 else if 10 < b.2.2.2.2.2.length then 2 else
 if ai3 b != 0 then ai3 b else
 match (awL b (ajJ b)).find? (fun e => e != 0) with
 | some e => e
 | none => if 59 < (acd b).length then 2 else if 300 < 2 * b.2.1.length + 2 * ((acd b).length - b.2.1.length : Int) + 2 * b.2.2.2.2.1.length then 2 else 0
theorem aDM {b : acq} (hs : ahx b) : (acd b).length ≤ 2001000 := by
 have := asj (fun g : acO => (acu b g).map fun d => ((g.1, d) : Int × Int)) 2001 (fun g => by rw [List.length_map]; exact aBt hs g) b.2.1
 have h2 := hs.gauges
 unfold acd
 omega
theorem afZ {b : acq} (hs : ahx b) (hr : ∀ g ∈ b.2.1, I64 g.2.2.2.2.1.1) : acR b = some (acy b) := by
 unfold acR aAT acy
 rw [auy, ab1]
 cases akl b.1 0 1000000 with
 | false => rfl
 | true =>
 have h1 := hs.gauges
 have h2 := hs.compares
 have h3 := aDM hs
 rw [ack (show (!true) = false from rfl), if_neg (by simp)]
 simp only [acL]
 by_cases c0 : 12 < b.2.1.length
 ·rw [acv (by simp [igt]; omega), if_pos c0]
 rw [ack (by simp [igt]; omega), if_neg c0]
 by_cases c1 : 40 < b.2.2.1.length
 ·rw [acv (by simp [igt]; omega), if_pos c1]
 rw [ack (by simp [igt]; omega), if_neg c1]
 by_cases c2 : 12 < b.2.2.2.1.length
 ·rw [acv (by simp [igt]; omega), if_pos c2]
 rw [ack (by simp [igt]; omega), if_neg c2]
 by_cases c3 : 40 < b.2.2.2.2.1.length
 ·rw [acv (by simp [igt]; omega), if_pos c3]
 rw [ack (by simp [igt]; omega), if_neg c3]
 by_cases c4 : 10 < b.2.2.2.2.2.length
 ·rw [acv (by simp [igt]; omega), if_pos c4]
 rw [ack (by simp [igt]; omega), if_neg c4]
 rw [aDk hr h1, ab1]
 cases hm : (ai3 b != 0) with
 | true =>
   have : ine (ai3 b) 0 = true := hm
   rw [acv this, if_pos rfl]
 | false =>
 have : ine (ai3 b) 0 = false := hm
 rw [ack this, if_neg (by simp)]
 rw [aDA h1, ab1]
 unfold aHJ
 rw [aRo hs, ab1]
 cases (awL b (ajJ b)).find? (fun e => e != 0) with
 | some e => rfl
 | none =>
 dsimp only
 rw [aFc hs, ab1]
 by_cases c5 : 59 < (acd b).length
 ·rw [acv (by simp [igt]; omega), if_pos c5]
 rw [ack (by simp [igt]; omega), if_neg c5]
 rw [acs (by omega) (by omega), acs (by omega) (by omega), acs (by omega) (by omega), acs (by omega) (by omega), acs (by omega) (by omega), acs (by omega) (by omega)]
 by_cases c6 : 300 < 2 * b.2.1.length + 2 * ((acd b).length - b.2.1.length : Int) + 2 * b.2.2.2.2.1.length
 ·rw [acv (by simp [igt]; omega), if_pos c6]
 rw [ack (by simp [igt]; omega), if_neg c6]
end Go.Proofs.ZzM
end
noncomputable section
namespace Go.Proofs.ZzM
open Go Go.Am
theorem wrapU {n : Nat} (h : n < 18446744073709551616) : IntKind.wrap .u64 (n : Int) = n := by
 simp only [IntKind.wrap, IntKind.bits, IntKind.signed]
 simp
 omega
theorem wrapI {n : Nat} (h : n < 9223372036854775808) : IntKind.wrap .i64 (n : Int) = n := by
 simp only [IntKind.wrap, IntKind.bits, IntKind.signed]
 simp
 omega
def ags (l : List (Int × Int)) (x d : Int) : Option Nat := l.findIdx? fun n => decide (x = n.1) && decide (d = n.2)
theorem aJ5 {l : List (Int × Int)} (hn : l.length ≤ 100000000) (x d : Int) : acN l (x, d) = some (match ags l x d with | some j => (j : Int) | none => -1) := by
 unfold acN aeA
 refine Eq.trans (af7 l (fun n => decide (x = n.1) && decide (d = n.2)) some (some (-1)) (fun i a hi ha kn => ?_) (fun kn => ?_)) ?_
 ·try dsimp only
  unfold adq
  rw [acm hi, acg ha, aci hi (by omega), adJ, Bool.and_true]
 ·try dsimp only
  unfold adq
  rw [acJ]
 ·unfold ags
  cases List.findIdx? (fun n => decide (x = n.1) && decide (d = n.2)) l <;> rfl
def atP (l : List (Int × Int)) (p : List Int) (d : Int) : Int :=
 match p with
 | [] => 0
 | x :: _ => match ags l x d with | some j => (j : Int) + 1 | none => 0
theorem agW {l : List (Int × Int)} {x d : Int} {j : Nat} (h : ags l x d = some j) : j < l.length ∧ l[j]? = some (x, d) := by
 unfold ags at h
 obtain ⟨hj, hp, _⟩ := List.findIdx?_eq_some_iff_getElem.1 h
 refine ⟨hj, ?_⟩
 rw [List.getElem?_eq_getElem hj]
 simp only [Bool.and_eq_true, decide_eq_true_eq] at hp
 congr 1
 exact Prod.ext hp.1.symm hp.2.symm
theorem aQK (m : Maker) (p : List Int) (d : Int) (hn : m.2.1.length ≤ 100000000) : afx m p d = some (atP m.2.1 p d) := by
 unfold afx ao4 atP
 cases p with
 | nil => simp [acL, ieq]
 | cons x p =>
   have h : ieq (acx (x :: p)) 0 = false := by
    rw [acL]
    simp only [ieq, List.length_cons, beq_eq_false_iff_ne, ne_eq]
    omega
   rw [h, acM, show (0 : Int) = ((0 : Nat) : Int) from rfl, acg (a := x) rfl, aJ5 hn, ab1]
   cases hx : ags m.2.1 x d with
   | none => dsimp only; rw [acs (by omega) (by omega)]; simp only [hx]; rfl
   | some j =>
     have := (agW hx).1
     dsimp only
     rw [acs (by omega) (by omega)]
     simp only [hx]
def axI (s : List (Int × acO)) (p : List Int) : Int × Int :=
 match p with
 | [] => (0, 1)
 | x :: _ => match alH (k := tI) (v := ace) x s with
   | some g => g.2.2.2.2.1
   | none => (0, 0)
theorem aHI (s : List (Int × acO)) (p : List Int) : afM s p = some (axI s p) := by
 unfold afM aiZ axI
 cases p with
 | nil => simp [acL, ieq]
 | cons x p =>
   have h : ieq (acx (x :: p)) 0 = false := by
    rw [acL]
    simp only [ieq, List.length_cons, beq_eq_false_iff_ne, ne_eq]
    omega
   rw [h, acM, show (0 : Int) = ((0 : Nat) : Int) from rfl, acg (a := x) rfl]
   cases hx : alH (k := tI) (v := ace) x s with
   | none => simp only [aHi, hx]
   | some g => simp only [aHi, hx]
theorem aLZ {l : List (Int × Int)} (hr : ∀ r ∈ l, I64 r.1) (hn : l.length ≤ 1000) : agB l = some (if l.any (fun r => !aB5 r) then 1 else 0) := by
 unfold agB aAm
 refine Eq.trans (agG l (fun r => !aB5 r) (fun _ => some 1) (some 1) (some 0) (fun _ => rfl) (fun i a hi ha kn => ?_) (fun kn => ?_)) ?_
 ·try dsimp only
  unfold akO
  rw [acm hi, acg ha, aHb (hr a (List.mem_of_getElem? ha)), ab1, aci hi (by omega), adJ]
 ·try dsimp only
  unfold akO
  rw [acJ]
 ·cases l.any (fun r => !aB5 r) <;> rfl
def anG (n d : Int) : Int × Int := (n / (Nat.gcd n.natAbs d.natAbs : Nat), d / (Nat.gcd n.natAbs d.natAbs : Nat))
theorem ajd (r : Int × Int) : aB5 r = true ↔ 1 ≤ r.2 ∧ r.2 ≤ 2147483647 ∧ (r.1.natAbs : Int) ≤ 2147483647 ∧ Nat.gcd r.1.natAbs r.2.natAbs = 1 := by
 simp [aB5]
theorem aEZ {n d : Int} (hd : 0 < d) : ∃ g : Nat, 0 < g ∧ g = Nat.gcd n.natAbs d.natAbs ∧ n = (anG n d).1 * g ∧ d = (anG n d).2 * g := by
 have hg : 0 < Nat.gcd n.natAbs d.natAbs := Nat.gcd_pos_of_pos_right _ (by omega)
 refine ⟨_, hg, rfl, ?_, ?_⟩
 ·exact (Int.ediv_mul_cancel (Int.ofNat_dvd_left.2 (Nat.gcd_dvd_left _ _))).symm
 ·exact (Int.ediv_mul_cancel (Int.ofNat_dvd_left.2 (Nat.gcd_dvd_right _ _))).symm
theorem aKx {n d : Int} (hd : 0 < d) (hn : n.natAbs ≤ 2147483647) (hd2 : d ≤ 2147483647) : aB5 (anG n d) = true := by
 obtain ⟨g, h0, hg, h1, h2⟩ := aEZ (n := n) hd
 rw [ajd]
 have a1 : n.natAbs = (anG n d).1.natAbs * g := by conv => lhs; rw [h1]; rw [Int.natAbs_mul, Int.natAbs_natCast]
 have a2 : d.natAbs = (anG n d).2.natAbs * g := by conv => lhs; rw [h2]; rw [Int.natAbs_mul, Int.natAbs_natCast]
 have p2 : 0 < (anG n d).2 := by
  rcases Int.lt_trichotomy (anG n d).2 0 with h | h | h
  ·have := Int.mul_neg_of_neg_of_pos h (show (0 : Int) < g by omega); omega
  ·rw [h] at h2; simp at h2; omega
  ·exact h
 have b1 : (anG n d).1.natAbs ≤ n.natAbs := by rw [a1]; exact Nat.le_mul_of_pos_right _ h0
 have b2 : (anG n d).2.natAbs ≤ d.natAbs := by rw [a2]; exact Nat.le_mul_of_pos_right _ h0
 refine ⟨by omega, by omega, by omega, ?_⟩
 have := Nat.gcd_mul_right (anG n d).1.natAbs g (anG n d).2.natAbs
 rw [← a1, ← a2, ← hg] at this
 have h3 : (Nat.gcd (anG n d).1.natAbs (anG n d).2.natAbs) * g = 1 * g := by omega
 exact Nat.eq_of_mul_eq_mul_right h0 h3
theorem aDD {n d : Int} (hd : 0 < d) (hn : n.natAbs ≤ 2147483647) (hd2 : d ≤ 2147483647) : aka n d = some (anG n d, 0) := by
 obtain ⟨g, h0, hg, h1, h2⟩ := aEZ (n := n) hd
 have hr := (ajd _).1 (aKx hd hn hd2)
 unfold aka arZ
 rw [aET ⟨by omega, by omega⟩, ab1, aET ⟨by omega, by omega⟩, ab1, aSC, ab1, ← hg]
 have a1 : n.natAbs = (anG n d).1.natAbs * g := by conv => lhs; rw [h1]; rw [Int.natAbs_mul, Int.natAbs_natCast]
 have a2 : d.natAbs = (anG n d).2.natAbs * g := by conv => lhs; rw [h2]; rw [Int.natAbs_mul, Int.natAbs_natCast]
 have q1 : Int.tdiv (n.natAbs : Int) (g : Int) = ((anG n d).1.natAbs : Int) := by
  rw [a1, Int.natCast_mul]; exact Int.mul_tdiv_cancel _ (by omega)
 have q2 : Int.tdiv (d.natAbs : Int) (g : Int) = ((anG n d).2.natAbs : Int) := by
  rw [a2, Int.natCast_mul]; exact Int.mul_tdiv_cancel _ (by omega)
 have z : aeH (g : Int) 0 = false := by simp [aeH]; omega
 have g1 : igt ((anG n d).1.natAbs : Int) 2147483647 = false := by simp [igt]; omega
 have g2 : igt ((anG n d).2.natAbs : Int) 2147483647 = false := by simp [igt]; omega
 rw [ack z, ack z, q1, q2, wrapU (by omega), wrapU (by omega), wrapI (by omega), wrapI (by omega), ack g1, ack g2]
 have hd0 : ilt d 0 = false := by simp [ilt]; omega
 rw [hd0]
 have e2 : ((anG n d).2.natAbs : Int) = (anG n d).2 := by omega
 rw [e2]
 by_cases hneg : n < 0
 ·have hn0 : ilt n 0 = true := by simp [ilt, hneg]
  have : (anG n d).1 ≤ 0 := by
   rcases Int.lt_or_le 0 (anG n d).1 with h | h
   ·have := Int.mul_pos h (show (0 : Int) < g by omega); omega
   ·exact h
  rw [hn0]
  rw [show (!true == false) = true from rfl, aei, acs (by omega) (by omega)]
  have : 0 - ((anG n d).1.natAbs : Int) = (anG n d).1 := by omega
  rw [this]
 ·have hn0 : ilt n 0 = false := by simp [ilt]; omega
  have : 0 ≤ (anG n d).1 := by
   rcases Int.lt_or_le (anG n d).1 0 with h | h
   ·have := Int.mul_neg_of_neg_of_pos h (show (0 : Int) < g by omega); omega
   ·exact h
  rw [hn0]
  rw [show (!false == false) = false from rfl, acM]
  have : ((anG n d).1.natAbs : Int) = (anG n d).1 := by omega
  rw [this]
structure amq (r : Int × Int) (n d : Int) : Prop where
 rat : aB5 r = true
 num : -n ≤ r.1 ∧ r.1 ≤ n
 den : r.2 ≤ d
theorem amq.pos {r : Int × Int} {n d : Int} (h : amq r n d) : 1 ≤ r.2 := ((ajd r).1 h.rat).1
theorem amq.i64 {r : Int × Int} {n d : Int} (h : amq r n d) : I64 r.1 := by
 have := ((ajd r).1 h.rat).2.2.1
 exact ⟨by omega, by omega⟩
theorem aOC {x y : Int × Int} (hx : aB5 x = true) (hy : aB5 y = true) : agB [x, y] = some 0 := by
 rw [aLZ]
 ·simp [hx, hy]
 ·intro r hr
  have : aB5 r = true := by simp at hr; rcases hr with rfl | rfl <;> assumption
  have := ((ajd r).1 this).2.2.1
  exact ⟨by omega, by omega⟩
 ·simp
theorem akt {a b m n : Int} (h1 : -m ≤ a ∧ a ≤ m) (h2 : -n ≤ b ∧ b ≤ n) : -(m * n) ≤ a * b ∧ a * b ≤ m * n := by
 have hm : 0 ≤ m := by omega
 have hn : 0 ≤ n := by omega
 have h3 : (a * b).natAbs ≤ (m * n).natAbs := by
  rw [Int.natAbs_mul, Int.natAbs_mul]
  exact Nat.mul_le_mul (by omega) (by omega)
 have h4 : 0 ≤ m * n := Int.mul_nonneg hm hn
 omega
def subP (x y : Int × Int) : Int × Int := anG (x.1 * y.2 - y.1 * x.2) (x.2 * y.2)
theorem aDw {x y : Int × Int} (hx : amq x 1000 100) (hy : amq y 1000 100) : (x.1 * y.2 - y.1 * x.2).natAbs ≤ 200000 ∧ 0 < x.2 * y.2 ∧ x.2 * y.2 ≤ 10000 := by
 have h1 := akt hx.num (show -100 ≤ y.2 ∧ y.2 ≤ 100 from ⟨by have := hy.pos; omega, hy.den⟩)
 have h2 := akt hy.num (show -100 ≤ x.2 ∧ x.2 ≤ 100 from ⟨by have := hx.pos; omega, hx.den⟩)
 have h3 := akt (show -100 ≤ x.2 ∧ x.2 ≤ 100 from ⟨by have := hx.pos; omega, hx.den⟩) (show -100 ≤ y.2 ∧ y.2 ≤ 100 from ⟨by have := hy.pos; omega, hy.den⟩)
 have h4 := Int.mul_pos (show 0 < x.2 by have := hx.pos; omega) (show 0 < y.2 by have := hy.pos; omega)
 refine ⟨by omega, h4, by omega⟩
theorem Sub_ok {x y : Int × Int} (hx : amq x 1000 100) (hy : amq y 1000 100) : aGQ x y = some (subP x y, 0) := by
 obtain ⟨b1, b2, b3⟩ := aDw hx hy
 have h1 := akt hx.num (show -100 ≤ y.2 ∧ y.2 ≤ 100 from ⟨by have := hy.pos; omega, hy.den⟩)
 have h2 := akt hy.num (show -100 ≤ x.2 ∧ x.2 ≤ 100 from ⟨by have := hx.pos; omega, hx.den⟩)
 unfold aGQ aK3
 rw [aOC hx.rat hy.rat, ab1]
 rw [show ine (0 : Int) 0 = false from rfl, acM, acs (by omega) (by omega), acs (by omega) (by omega), acs (by omega) (by omega), acs (by omega) (by omega), aDD b2 (by omega) (by omega), ab1]
 rfl
theorem aO0 {n d : Int} (hd : 0 < d) : (anG n d).1.natAbs ≤ n.natAbs ∧ (anG n d).2 ≤ d := by
 obtain ⟨g, h0, hg, h1, h2⟩ := aEZ (n := n) hd
 have a1 : n.natAbs = (anG n d).1.natAbs * g := by conv => lhs; rw [h1]; rw [Int.natAbs_mul, Int.natAbs_natCast]
 have a2 : d.natAbs = (anG n d).2.natAbs * g := by conv => lhs; rw [h2]; rw [Int.natAbs_mul, Int.natAbs_natCast]
 have b1 : (anG n d).1.natAbs ≤ n.natAbs := by rw [a1]; exact Nat.le_mul_of_pos_right _ h0
 have b2 : (anG n d).2.natAbs ≤ d.natAbs := by rw [a2]; exact Nat.le_mul_of_pos_right _ h0
 exact ⟨b1, by omega⟩
theorem aEO {x y : Int × Int} (hx : amq x 1000 100) (hy : amq y 1000 100) : amq (subP x y) 200000 10000 := by
 obtain ⟨b1, b2, b3⟩ := aDw hx hy
 obtain ⟨c1, c2⟩ := aO0 (n := x.1 * y.2 - y.1 * x.2) b2
 exact ⟨aKx b2 (by omega) (by omega), by unfold subP; omega, by unfold subP; omega⟩
def aOr (k : Int × Int) (n : Int) : Int × Int := anG (k.1 * n) k.2
theorem aDR {k : Int × Int} (hk : amq k 200000 10000) {n : Int} (hn : -10000 ≤ n ∧ n ≤ 10000) : (k.1 * n).natAbs ≤ 2000000000 := by
 have := akt hk.num hn
 omega
theorem aLi {n : Int} (hn : -10000 ≤ n ∧ n ≤ 10000) : aB5 (n, 1) = true := by
 rw [ajd]
 exact ⟨by simp, by simp, by simp; omega, by simp⟩
theorem aSP {k : Int × Int} (hk : amq k 200000 10000) {n : Int} (hn : -10000 ≤ n ∧ n ≤ 10000) : aBn k (n, 1) = some (aOr k n, 0) := by
 have b := aDR hk hn
 have p := hk.pos
 have q := hk.den
 unfold aBn aK5
 rw [aOC hk.rat (aLi hn), ab1]
 rw [show ine (0 : Int) 0 = false from rfl, acM, acs (by simp only; omega) (by simp only; omega), Int.mul_one, acs (by omega) (by omega), aDD (by omega) (by simp only; omega) (by omega), ab1]
 rfl
theorem aFg {k : Int × Int} (hk : amq k 200000 10000) {n : Int} (hn : -10000 ≤ n ∧ n ≤ 10000) : amq (aOr k n) 2000000000 10000 := by
 have b := aDR hk hn
 have p := hk.pos
 have q := hk.den
 obtain ⟨c1, c2⟩ := aO0 (n := k.1 * n) (show 0 < k.2 by omega)
 exact ⟨aKx (by omega) (by omega) (by omega), by unfold aOr; omega, by unfold aOr; omega⟩
def cmpP (x y : Int × Int) : Int := if x = y then 0 else if x.1 * y.2 < y.1 * x.2 then -1 else if y.1 * x.2 < x.1 * y.2 then 1 else 0
theorem aSH {x y : Int × Int} {m d : Int} (hx : amq x m d) (hy : amq y m d) (hm : m ≤ 2000000000) (hd : d ≤ 10000) : aBl x y = some (cmpP x y) := by
 have h1 := akt hx.num (show -d ≤ y.2 ∧ y.2 ≤ d from ⟨by have := hy.pos; have := hy.den; omega, hy.den⟩)
 have h2 := akt hy.num (show -d ≤ x.2 ∧ x.2 ≤ d from ⟨by have := hx.pos; have := hx.den; omega, hx.den⟩)
 have h0 : 0 ≤ m ∧ 0 ≤ d := ⟨by have := hx.num; omega, by have := hx.pos; have := hx.den; omega⟩
 have h3 : m * d ≤ 2000000000 * 10000 := Int.mul_le_mul hm hd h0.2 (by omega)
 unfold aBl aK1 cmpP
 rw [acs (by omega) (by omega), acs (by omega) (by omega)]
 simp only [adJ, Bool.and_true, Bool.and_eq_true, decide_eq_true_eq, aeH, ilt, igt, gt_iff_lt]
 have : (x.1 = y.1 ∧ x.2 = y.2) ↔ x = y := ⟨fun h => Prod.ext h.1 h.2, fun h => by rw [h]; exact ⟨rfl, rfl⟩⟩
 simp only [this]
 (repeat' split) <;> rfl
def aNv (k : Int × Int) (heat : Int × Int) : (Int × Int) × (Int × Int) :=
 if 0 < cmpP (aOr k heat.1) (aOr k heat.2) then (aOr k heat.2, aOr k heat.1) else (aOr k heat.1, aOr k heat.2)
theorem aTa {k heat : Int × Int} (hk : amq k 200000 10000) (hh : akl heat (-10000) 10000 = true) : ajo k heat = some (aNv k heat) := by
 simp only [akl, Bool.and_eq_true, decide_eq_true_eq] at hh
 obtain ⟨h1, h2, h3⟩ := hh
 have n1 : -10000 ≤ heat.1 ∧ heat.1 ≤ 10000 := ⟨by omega, by omega⟩
 have n2 : -10000 ≤ heat.2 ∧ heat.2 ≤ 10000 := ⟨by omega, by omega⟩
 have r1 : amq (heat.1, 1) 10000 10000 := ⟨aLi n1, n1, by simp⟩
 have r2 : amq (heat.2, 1) 10000 10000 := ⟨aLi n2, n2, by simp⟩
 unfold ajo am0 aBm aAw alr alk
 rw [aOC r1.rat r2.rat, ab1]
 have : ieq 0 0 = true := rfl
 rw [acv this, aSH r1 r2 (by omega) (by omega), ab1]
 have hc : ile (cmpP (heat.1, 1) (heat.2, 1)) 0 = true := by
  unfold cmpP
  simp only [ile, decide_eq_true_eq, Int.mul_one]
  split
  ·omega
  ·split
   ·omega
   ·rw [if_neg (by omega)]; omega
 rw [hc, ab1]
 simp only [Bool.not_true, acM]
 rw [aHb hk.i64, hk.rat, ab1]
 simp only [Bool.not_true, acM]
 rw [aSP hk n1, ab1, aSP hk n2, ab1]
 simp only [show ine (0 : Int) 0 = false from rfl, acM]
 rw [aSH (aFg hk n1) (aFg hk n2) (by omega) (by omega), ab1]
 unfold aNv
 rw [adJ]
 by_cases h : 0 < cmpP (aOr k heat.1) (aOr k heat.2)
 ·rw [if_pos h, if_pos (by simpa [igt] using h)]; rfl
 ·rw [if_neg h, if_neg (by simpa [igt] using h)]; rfl
def rateK (s : List (Int × acO)) (c : Cmp) : Int × Int := subP (axI s (ac6 c.2.2.1 c.2.2.2.1)) (axI s (ac6 c.2.2.2.1 c.2.2.1))
def adQ (b : acq) (c : Cmp) : (Int × Int) × (Int × Int) := aNv (rateK (ajJ b) c) c.2.2.2.2.2.2
theorem aJt {b : acq} (hs : ahx b) {c : Cmp} (hA : c.2.2.1.length ≤ 1000) (hB : c.2.2.2.1.length ≤ 1000)
 (h1 : amq (axI (ajJ b) (ac6 c.2.2.1 c.2.2.2.1)) 1000 100) (h2 : amq (axI (ajJ b) (ac6 c.2.2.2.1 c.2.2.1)) 1000 100) (hh : akl c.2.2.2.2.2.2 (-10000) 10000 = true) : ajD b c = some (adQ b c) := by
 unfold ajD avZ
 rw [aDA hs.gauges, ab1, alo (by omega) (by omega), ab1, aHI, ab1, alo (by omega) (by omega), ab1, aHI, ab1]
 unfold anq am1
 rw [Sub_ok h1 h2, ab1, ab1]
 try dsimp only
 rw [aTa (aEO h1 h2) hh, ab1]
 rfl
def ag2 (b : acq) (c : Cmp) : Int × Int :=
 (((c.2.2.1.length - 1 : Nat) : Int) * b.1.1 - ((c.2.2.2.1.length - 1 : Nat) : Int) * b.1.2, ((c.2.2.1.length - 1 : Nat) : Int) * b.1.2 - ((c.2.2.2.1.length - 1 : Nat) : Int) * b.1.1)
theorem aMN {b : acq} {c : Cmp} (hA : c.2.2.1.length ≤ 1000) (hB : c.2.2.2.1.length ≤ 1000) (h1 : 0 ≤ b.1.1) (h2 : b.1.1 ≤ 1000000) (h3 : 0 ≤ b.1.2) (h4 : b.1.2 ≤ 1000000) : amk b c = some (ag2 b c) := by
 unfold amk aAP ag2
 have e : ∀ n : Nat, aKd 0 ((n : Int) - 1) = ((n - 1 : Nat) : Int) := by
  intro n
  unfold aKd
  split <;> omega
 have bd : ∀ (n : Nat) (x : Int), n ≤ 1000 → 0 ≤ x → x ≤ 1000000 → 0 ≤ ((n - 1 : Nat) : Int) * x ∧ ((n - 1 : Nat) : Int) * x ≤ 1000000000 := by
  intro n x hn h0 hx
  refine ⟨Int.mul_nonneg (by omega) h0, ?_⟩
  have := Int.mul_le_mul (show ((n - 1 : Nat) : Int) ≤ 1000 by omega) hx h0 (by omega)
  omega
 have b1 := bd _ _ hA h1 h2
 have b2 := bd _ _ hA h3 h4
 have b3 := bd _ _ hB h1 h2
 have b4 := bd _ _ hB h3 h4
 simp only [acL]
 rw [acs (by omega) (by omega), acs (by omega) (by omega)]
 simp only [e]
 rw [acs (by omega) (by omega), acs (by omega) (by omega), acs (by omega) (by omega), acs (by omega) (by omega), acs (by omega) (by omega), acs (by omega) (by omega)]
theorem aML {n d : Int} (hd : 1 ≤ d) (hn : -4000000000 ≤ n ∧ n ≤ 4000000000) : apt n d = some (n / d) := by
 unfold apt aAr
 have z : aeH d 0 = false := by simp [aeH]; omega
 rw [ack z]
 have t := Int.mul_tdiv_add_tmod n d
 have b1 : -4000000000 ≤ Int.tdiv n d ∧ Int.tdiv n d ≤ 4000000000 := by
  have := Int.natAbs_tdiv_le_natAbs n d
  omega
 rw [acs (by omega) (by omega), ack z, adJ]
 by_cases h : Int.tmod n d < 0
 ·rw [if_pos (by simpa [ilt] using h), acs (by omega) (by omega)]
  congr 1
  have h5 : -d < Int.tmod n d := by
   have h6 := Int.natAbs_tmod n d
   have h7 := Nat.mod_lt n.natAbs (show 0 < d.natAbs by omega)
   omega
  refine (Int.ediv_eq_iff_of_pos (by omega)).2 ⟨?_, ?_⟩ |>.symm
  ·rw [Int.sub_mul, Int.mul_comm]; omega
  ·rw [Int.sub_mul, Int.mul_comm (Int.tdiv n d)]; omega
 ·rw [if_neg (by simpa [ilt] using h)]
  congr 1
  have h5 : Int.tmod n d < d := by
   have h6 := Int.natAbs_tmod n d
   have h7 := Nat.mod_lt n.natAbs (show 0 < d.natAbs by omega)
   omega
  refine (Int.ediv_eq_iff_of_pos (by omega)).2 ⟨?_, ?_⟩ |>.symm
  ·rw [Int.mul_comm]; omega
  ·rw [Int.mul_comm (Int.tdiv n d)]; omega
theorem aSv {x : Int × Int} (hx : aB5 x = true) : agB [x] = some 0 := by
 rw [aLZ]
 ·simp [hx]
 ·intro r hr
  have : aB5 r = true := by simp at hr; subst hr; assumption
  have := ((ajd r).1 this).2.2.1
  exact ⟨by omega, by omega⟩
 ·simp
def aBC (r : Int × Int) : Int := -(-r.1 / r.2)
theorem aNe {r : Int × Int} (h : aB5 r = true) : apu r = some (r.1 / r.2, 0) := by
 unfold apu aAz
 have := (ajd r).1 h
 rw [aSv h, ab1]
 rw [show ine (0 : Int) 0 = false from rfl, acM, aML (by omega) (by omega), ab1]
theorem awn {n d : Int} (hd : 1 ≤ d) : (n / d).natAbs ≤ n.natAbs := by
 exact Int.natAbs_ediv_le_natAbs n d
theorem aQY {r : Int × Int} (h : aB5 r = true) : auN r = some (aBC r, 0) := by
 unfold auN aF7 aBC
 have := (ajd r).1 h
 rw [aSv h, ab1]
 rw [show ine (0 : Int) 0 = false from rfl, acM, acs (by omega) (by omega), aML (by omega) (by omega), ab1]
 have hb := awn (n := 0 - r.1) (show 1 ≤ r.2 by omega)
 rw [acs (by omega) (by omega), Int.zero_sub, Int.zero_sub]
def adY (b : acq) (c : Cmp) : Int × Int :=
 (c.2.2.2.2.1 - c.2.2.2.2.2.1 - (ag2 b c).2 - (adQ b c).2.1 / (adQ b c).2.2, c.2.2.2.2.1 + c.2.2.2.2.2.1 - (ag2 b c).1 - aBC (adQ b c).1)
end Go.Proofs.ZzM
end
noncomputable section
namespace Go.Proofs.ZzM
open Go Go.Am
structure adk (b : acq) : Prop where
 film : 0 ≤ b.1.1 ∧ b.1.1 ≤ b.1.2 ∧ b.1.2 ≤ 1000000
 nG : b.2.1.length ≤ 12
 nU : b.2.2.1.length ≤ 40
 nL : b.2.2.2.1.length ≤ 12
 nC : b.2.2.2.2.1.length ≤ 40
 nK : b.2.2.2.2.2.length ≤ 10
 gauge : ∀ g ∈ b.2.1, arb g = true
 ids : b.2.1.Pairwise fun a b => a.1 < b.1
 uses : ∀ u ∈ b.2.2.1, aQ9 (ajJ b) u.1 u.2 = 0
 loans : ∀ i l, b.2.2.2.1[i]? = some l → aLg b (ajJ b) i l = 0
 compares : ∀ i c, b.2.2.2.2.1[i]? = some c → aqb b (ajJ b) i c = 0
 looks : ∀ u ∈ b.2.2.2.2.2, aQ9 (ajJ b) u.1 u.2 = 0
 nodes : (acd b).length ≤ 59
 links : 2 * (acd b).length + 2 * b.2.2.2.2.1.length ≤ 300
theorem aA7 (b : acq) : ai3 b = 0 ↔ (∀ g ∈ b.2.1, arb g = true) ∧ b.2.1.Pairwise fun a b => a.1 < b.1 := by
 have h0 : aeN (apl b.2.1) 0 b.2.1 = none ↔ (∀ g ∈ b.2.1, arb g = true) ∧ b.2.1.Pairwise fun a b => a.1 < b.1 := by
  rw [ah7, ← aM5 (fun g : acO => g.1) b.2.1]
  constructor
  ·intro h
   have h1 : ∀ (j : Nat) (a : acO), b.2.1[j]? = some a → arb a = true ∧ aBP (fun g : acO => g.1) b.2.1 j a = false := by
    intro j a ha
    have := h j a ha
    rw [Nat.zero_add] at this
    unfold apl at this
    split at this
    ·cases this
    ·split at this
     ·cases this
     ·rename_i h1 h2
      exact ⟨by simpa using h1, by simpa using h2⟩
   refine ⟨fun x hx => ?_, fun i a ha => (h1 i a ha).2⟩
   obtain ⟨j, hj, rfl⟩ := List.mem_iff_getElem.1 hx
   exact (h1 j _ (List.getElem?_eq_getElem hj)).1
  ·rintro ⟨h1, h2⟩ j a ha
   rw [Nat.zero_add]
   simp [apl, h1 a (List.mem_of_getElem? ha), h2 j a ha]
 rw [← h0]
 unfold ai3
 cases h : aeN (apl b.2.1) 0 b.2.1 with
 | none => simp
 | some e =>
   have : ∀ (m : List acO) (j : Nat) (x : Int), aeN (apl b.2.1) j m = some x → x ≠ 0 := by
    intro m
    induction m with
    | nil => intro j x h; cases h
    | cons a m ih =>
      intro j x h
      unfold aeN at h
      cases hp : apl b.2.1 j a with
      | none => rw [hp] at h; exact ih _ _ h
      | some y =>
        rw [hp] at h
        cases h
        unfold apl at hp
        split at hp
        ·cases hp; omega
        ·split at hp
         ·cases hp; omega
         ·cases hp
   simp [this _ _ _ h]
theorem aco (b : acq) : acy b = 0 ↔ adk b := by
 unfold acy
 constructor
 ·intro h
  split at h
  ·omega
  rename_i h1
  (repeat' split at h) <;> try omega
  ·rename_i hg
   have hg' : ai3 b ≠ 0 := by simpa using hg
   exact (hg' h).elim
  ·rename_i hf
   have := List.find?_some hf
   rename_i e
   simp at this
   exact (this h).elim
  ·rename_i hn1 hn2 hn3 hn4 hn5 hg e hf hn6 hn7
   have hg0 : ai3 b = 0 := by simpa using hg
   obtain ⟨g1, g2⟩ := (aA7 b).1 hg0
   have hall : ∀ x ∈ awL b (ajJ b), x = 0 := fun x hx => by
    have := List.find?_eq_none.1 hf x hx
    simpa using this
   simp only [awL, List.mem_append] at hall
   have hs : akl b.1 0 1000000 = true := by simpa using h1
   simp only [akl, Bool.and_eq_true, decide_eq_true_eq] at hs
   refine ⟨⟨hs.1, hs.2.1, hs.2.2⟩, by omega, by omega, by omega, by omega, by omega, g1, g2, fun u hu => hall _ (.inl (List.mem_map.2 ⟨u, hu, rfl⟩)), fun i l hl => ?_, fun i c hc => ?_, fun u hu => hall _ (.inr (.inr (.inr (List.mem_map.2 ⟨u, hu, rfl⟩)))), by omega, by omega⟩
   ·obtain ⟨hi, rfl⟩ := List.getElem?_eq_some_iff.1 hl
    exact hall _ (.inr (.inl (List.mem_mapIdx.2 ⟨i, hi, rfl⟩)))
   ·obtain ⟨hi, rfl⟩ := List.getElem?_eq_some_iff.1 hc
    exact hall _ (.inr (.inr (.inl (List.mem_mapIdx.2 ⟨i, hi, rfl⟩))))
 ·intro h
  have hs : akl b.1 0 1000000 = true := by simp [akl, h.film.1, h.film.2.1, h.film.2.2]
  have hg : ai3 b = 0 := (aA7 b).2 ⟨h.gauge, h.ids⟩
  have hall : (awL b (ajJ b)).find? (fun e => e != 0) = none := by
   rw [List.find?_eq_none]
   intro x hx
   simp only [awL, List.mem_append, List.mem_map, List.mem_mapIdx] at hx
   have : x = 0 := by
    rcases hx with ⟨u, hu, rfl⟩ | ⟨i, hi, rfl⟩ | ⟨i, hi, rfl⟩ | ⟨u, hu, rfl⟩
    ·exact h.uses u hu
    ·exact h.loans i _ (List.getElem?_eq_getElem hi)
    ·exact h.compares i _ (List.getElem?_eq_getElem hi)
    ·exact h.looks u hu
   simp [this]
  have := h.nG; have := h.nU; have := h.nL; have := h.nC; have := h.nK; have := h.nodes; have := h.links
  rw [hs, hg, hall]
  simp only [Bool.not_true, Bool.false_eq_true, if_false, bne_self_eq_false]
  rw [if_neg (by omega), if_neg (by omega), if_neg (by omega), if_neg (by omega), if_neg (by omega), if_neg (by omega), if_neg (by omega)]
section
variable {b : acq}
theorem aeV {l : List Int} (h : aje l = true) : l.length ≤ 6 := ((aHO l).1 h).2.2
theorem adk.nums (h : adk b) {c : Cmp} (hc : c ∈ b.2.2.2.2.1) : aNB c = true := by
 obtain ⟨i, hi, rfl⟩ := List.mem_iff_getElem.1 hc
 have := h.compares i _ (List.getElem?_eq_getElem hi)
 unfold aqb at this
 split at this
 ·omega
 ·rename_i h; simpa using h
theorem adk.pilesOf (h : adk b) {c : Cmp} (hc : c ∈ b.2.2.2.2.1) : awK b (ajJ b) c = 0 := by
 obtain ⟨i, hi, rfl⟩ := List.mem_iff_getElem.1 hc
 have := h.compares i _ (List.getElem?_eq_getElem hi)
 unfold aqb at this
 split at this
 ·omega
 ·split at this
  ·omega
  ·exact this
theorem ahd (c : Cmp) : aNB c = true ↔ (1 ≤ c.1 ∧ c.1 ≤ 1099511627776) ∧ (0 ≤ c.2.1 ∧ c.2.1 ≤ 20000) ∧ (-1125899906842624 ≤ c.2.2.2.2.1 ∧ c.2.2.2.2.1 ≤ 1125899906842624) ∧ (0 ≤ c.2.2.2.2.2.1 ∧ c.2.2.2.2.2.1 ≤ 1073741824) ∧ akl c.2.2.2.2.2.2 (-10000) 10000 = true ∧ aje c.2.2.1 = true ∧ aje c.2.2.2.1 = true := by
 simp [aNB, inP, aLu, and_assoc]
theorem adk.size (h : adk b) : ahx b := by
 have h1 := h.nG; have h2 := h.nU; have h3 := h.nL; have h4 := h.nC; have h5 := h.nK
 refine ⟨by omega, by omega, by omega, by omega, by omega, fun c hc => ?_⟩
 have := (ahd c).1 (h.nums hc)
 have a := aeV this.2.2.2.2.2.1
 have b := aeV this.2.2.2.2.2.2
 omega
theorem aEl (g : acO) : arb g = true ↔ aB5 g.2.2.2.2.1 = true ∧ (-1000 ≤ g.2.2.2.2.1.1 ∧ g.2.2.2.2.1.1 ≤ 1000) ∧ g.2.2.2.2.1.2 ≤ 100 ∧ (1 ≤ g.1 ∧ g.1 ≤ 1099511627776) ∧ (0 ≤ g.2.1 ∧ g.2.1 ≤ 20000) ∧ (1 ≤ g.2.2.1 ∧ g.2.2.1 ≤ 1125899906842624) ∧ (-1073741824 ≤ g.2.2.2.1.1 ∧ g.2.2.2.1.1 ≤ g.2.2.2.1.2 ∧ g.2.2.2.1.2 ≤ 1073741824) ∧ (0 ≤ g.2.2.2.2.2 ∧ g.2.2.2.2.2 ≤ 1048576) := by
 simp [arb, inP, aLu, akl, and_assoc]
theorem akX {id : Int} {g : acO} (h : ahr b id = some g) : g ∈ b.2.1 ∧ g.1 = id := by
 unfold ahr at h
 exact ⟨List.mem_of_find?_eq_some h, by simpa using List.find?_some h⟩
theorem ase (hi : b.2.1.Pairwise fun a b => a.1 < b.1) {g : acO} (hg : g ∈ b.2.1) : ahr b g.1 = some g := by
 unfold ahr
 induction hl : b.2.1 generalizing b with
 | nil => rw [hl] at hg; cases hg
 | cons a t ih =>
   rw [hl] at hg hi
   rw [List.pairwise_cons] at hi
   rw [List.find?_cons]
   rcases List.mem_cons.1 hg with rfl | hg
   ·simp
   ·have h1 := hi.1 g hg
    have : (a.1 == g.1) = false := by simp; omega
    rw [this]
    have := ih (b := (b.1, t, b.2.2)) hi.2 hg rfl
    exact this
theorem avh (h : adk b) {id day : Int} (hm : ak5 (ajJ b) id day = 0) : ∃ g, ahr b id = some g ∧ g.2.1 ≤ day := by
 unfold ak5 at hm
 rw [aDS h.ids] at hm
 split at hm
 ·rename_i g hg
  split at hm
  ·omega
  ·exact ⟨g, hg, by omega⟩
 ·omega
theorem aKJ (s : List (Int × acO)) (id day : Int) : ak5 s id day = 0 ∨ ak5 s id day = 4 ∨ ak5 s id day = 5 := by
 unfold ak5
 split
 ·split <;> simp
 ·simp
theorem adk.pile (h : adk b) {c : Cmp} (hc : c ∈ b.2.2.2.2.1) {x : Int} (hx : x ∈ c.2.2.1 ++ c.2.2.2.1) : (∃ g, ahr b x = some g ∧ g.2.1 ≤ c.2.1) ∧ ayj b x c.2.1 = none := by
 have hp := h.pilesOf hc
 unfold awK at hp
 split at hp
 ·omega
 rename_i h5
 split at hp
 ·omega
 rename_i h4
 split at hp
 ·omega
 rename_i h9
 have a5 := (List.any_eq_false.1 (Bool.eq_false_iff.2 h5)) x hx
 have a4 := (List.any_eq_false.1 (Bool.eq_false_iff.2 h4)) x hx
 have a9 := (List.any_eq_false.1 (Bool.eq_false_iff.2 h9)) x hx
 simp at a5 a4 a9
 refine ⟨avh h ?_, a9⟩
 rcases aKJ (ajJ b) x c.2.1 with h0 | h0 | h0
 ·exact h0
 ·exact (a4 h0).elim
 ·exact (a5 h0).elim
theorem adk.lefts (h : adk b) {c : Cmp} (hc : c ∈ b.2.2.2.2.1) : (ac6 c.2.2.1 c.2.2.2.1).length ≤ 1 ∧ (ac6 c.2.2.2.1 c.2.2.1).length ≤ 1 ∧ (ac6 c.2.2.1 c.2.2.2.1).length + (ac6 c.2.2.2.1 c.2.2.1).length ≠ 0 := by
 have hp := h.pilesOf hc
 unfold awK at hp
 (repeat' split at hp) <;> first | omega | exact ⟨by omega, by omega, by omega⟩
theorem aiJ {a c : List Int} {x : Int} : x ∈ ac6 a c ↔ x ∈ a ∧ x ∉ c := by
 simp [ac6]
theorem adk.rate (h : adk b) {p : List Int} (hp : ∀ x ∈ p, ∃ g, ahr b x = some g) : amq (axI (ajJ b) p) 1000 100 := by
 unfold axI
 cases p with
 | nil =>
   have : amq (0, 1) 1000 100 := ⟨by decide, by decide, by decide⟩
   exact this
 | cons x t =>
   obtain ⟨g, hg⟩ := hp x (by simp)
   try dsimp only
   rw [aDS h.ids, hg]
   have := (aEl g).1 (h.gauge g (akX hg).1)
   exact ⟨this.1, this.2.1, this.2.2.1⟩
theorem adk.rates (h : adk b) {c : Cmp} (hc : c ∈ b.2.2.2.2.1) : amq (axI (ajJ b) (ac6 c.2.2.1 c.2.2.2.1)) 1000 100 ∧ amq (axI (ajJ b) (ac6 c.2.2.2.1 c.2.2.1)) 1000 100 := by
 constructor
 ·exact h.rate fun x hx => by
   obtain ⟨⟨g, hg, _⟩, _⟩ := h.pile hc (List.mem_append_left _ (aiJ.1 hx).1)
   exact ⟨g, hg⟩
 ·exact h.rate fun x hx => by
   obtain ⟨⟨g, hg, _⟩, _⟩ := h.pile hc (List.mem_append_right _ (aiJ.1 hx).1)
   exact ⟨g, hg⟩
theorem adk.growth (h : adk b) {c : Cmp} (hc : c ∈ b.2.2.2.2.1) : ajD b c = some (adQ b c) := by
 obtain ⟨r1, r2⟩ := h.rates hc
 have hn := (ahd c).1 (h.nums hc)
 have a := aeV hn.2.2.2.2.2.1
 have b := aeV hn.2.2.2.2.2.2
 exact aJt h.size (by omega) (by omega) r1 r2 hn.2.2.2.2.1
theorem adk.films (h : adk b) {c : Cmp} (hA : c.2.2.1.length ≤ 1000) (hB : c.2.2.2.1.length ≤ 1000) : amk b c = some (ag2 b c) := by
 have := h.film
 exact aMN hA hB (by omega) (by omega) (by omega) (by omega)
theorem aFa {k heat : Int × Int} (hk : amq k 200000 10000) (hh : akl heat (-10000) 10000 = true) : amq (aNv k heat).1 2000000000 10000 ∧ amq (aNv k heat).2 2000000000 10000 := by
 simp only [akl, Bool.and_eq_true, decide_eq_true_eq] at hh
 have r1 := aFg hk (n := heat.1) ⟨by omega, by omega⟩
 have r2 := aFg hk (n := heat.2) ⟨by omega, by omega⟩
 unfold aNv
 split
 ·exact ⟨r2, r1⟩
 ·exact ⟨r1, r2⟩
theorem asl {c : Cmp} (hA : c.2.2.1.length ≤ 1000) (hB : c.2.2.2.1.length ≤ 1000) (h1 : 0 ≤ b.1.1) (h2 : b.1.1 ≤ 1000000) (h3 : 0 ≤ b.1.2) (h4 : b.1.2 ≤ 1000000) :
 (-1000000000 ≤ (ag2 b c).1 ∧ (ag2 b c).1 ≤ 1000000000) ∧ (-1000000000 ≤ (ag2 b c).2 ∧ (ag2 b c).2 ≤ 1000000000) := by
 have bd : ∀ (n : Nat) (x : Int), n ≤ 1000 → 0 ≤ x → x ≤ 1000000 → 0 ≤ ((n - 1 : Nat) : Int) * x ∧ ((n - 1 : Nat) : Int) * x ≤ 1000000000 := by
  intro n x hn h0 hx
  refine ⟨Int.mul_nonneg (by omega) h0, ?_⟩
  have := Int.mul_le_mul (show ((n - 1 : Nat) : Int) ≤ 1000 by omega) hx h0 (by omega)
  omega
 have b1 := bd _ _ hA h1 h2
 have b2 := bd _ _ hA h3 h4
 have b3 := bd _ _ hB h1 h2
 have b4 := bd _ _ hB h3 h4
 unfold ag2
 try dsimp only
 omega
theorem ash {r : Int × Int} (h : amq r 2000000000 10000) : -2000000000 ≤ r.1 / r.2 ∧ r.1 / r.2 ≤ 2000000000 := by
 have := awn (n := r.1) h.pos
 have := h.num
 omega
theorem awu {r : Int × Int} (h : amq r 2000000000 10000) : -2000000000 ≤ aBC r ∧ aBC r ≤ 2000000000 := by
 have := awn (n := -r.1) h.pos
 have := h.num
 unfold aBC
 omega
theorem adk.says (h : adk b) {c : Cmp} (hc : c ∈ b.2.2.2.2.1) : anp b c = some (adY b c) := by
 obtain ⟨r1, r2⟩ := h.rates hc
 have hn := (ahd c).1 (h.nums hc)
 have ha := aeV hn.2.2.2.2.2.1
 have hb := aeV hn.2.2.2.2.2.2
 have hf := h.film
 obtain ⟨g1, g2⟩ := aFa (aEO r1 r2) hn.2.2.2.2.1
 have fb := asl (b := b) (c := c) (by omega) (by omega) (by omega) (by omega) (by omega) (by omega)
 have q1 : amq (adQ b c).1 2000000000 10000 := g1
 have q2 : amq (adQ b c).2 2000000000 10000 := g2
 have c1 := awu q1
 have c2 := ash q2
 unfold anp aGb adY
 rw [h.growth hc, ab1, h.films (by omega) (by omega), ab1, aNe q2.rat, ab1, aQY q1.rat, ab1]
 try dsimp only
 have n3 := hn.2.2.1
 have n4 := hn.2.2.2.1
 rw [acs (by omega) (by omega), acs (by omega) (by omega), acs (by omega) (by omega), acs (by omega) (by omega), acs (by omega) (by omega), acs (by omega) (by omega)]
end
def adb (l : ayO) (f t : Int) : Int := min l.2.1.2 (t - 1) - max l.2.1.1 f + 1
def adz (id f t : Int) : List ayO → Int
 | [] => 0
 | l :: r => (if l.1 = id ∧ 0 < adb l f t then adb l f t * l.2.2 else 0) + adz id f t r
theorem ape (id f t : Int) : ∀ (x y : List ayO), adz id f t (x ++ y) = adz id f t x + adz id f t y
 | [], y => by simp [adz]
 | l :: r, y => by
   simp only [List.cons_append, adz, ape id f t r y]
   omega
def afP (b : acq) (id f t : Int) : List Int := (b.2.2.1.filter fun u => u.1 == id && inP u.2 f (t - 1)).map fun u => u.2
def agS (b : acq) (g : acO) (f t : Int) : Int := adz g.1 f t b.2.2.2.1 + (aKb (afP b g.1 f t)).length * g.2.2.2.2.2
theorem aA3 (a c : Int) : aKc a c = min a c := by unfold aKc; split <;> omega
theorem aLl (a c : Int) : aKd a c = max a c := by unfold aKd; split <;> omega
theorem av6 {b : acq} (h : adk b) {l : ayO} (hl : l ∈ b.2.2.2.1) : (0 ≤ l.2.1.1 ∧ l.2.1.1 ≤ l.2.1.2 ∧ l.2.1.2 ≤ 20000) ∧ (0 ≤ l.2.2 ∧ l.2.2 ≤ 1048576) := by
 obtain ⟨i, hi, rfl⟩ := List.mem_iff_getElem.1 hl
 have := h.loans i _ (List.getElem?_eq_getElem hi)
 unfold aLg at this
 split at this
 ·omega
 rename_i h1
 split at this
 ·omega
 rename_i h2
 simp only [Bool.not_eq_true', Bool.not_eq_false, akl, inP, Bool.and_eq_true, decide_eq_true_eq] at h1 h2
 exact ⟨h1, h2⟩
theorem aD8 {l : ayO} (h : (0 ≤ l.2.1.1 ∧ l.2.1.1 ≤ l.2.1.2 ∧ l.2.1.2 ≤ 20000) ∧ (0 ≤ l.2.2 ∧ l.2.2 ≤ 1048576)) {f t : Int} (hf : 0 ≤ f) (hd : 0 < adb l f t) : 0 ≤ adb l f t * l.2.2 ∧ adb l f t * l.2.2 ≤ 20001 * 1048576 := by
 refine ⟨Int.mul_nonneg (by omega) h.2.1, Int.mul_le_mul ?_ h.2.2 h.2.1 (by omega)⟩
 unfold adb
 omega
theorem aln {id f t : Int} (hf : 0 ≤ f) : ∀ {x : List ayO}, (∀ l ∈ x, (0 ≤ l.2.1.1 ∧ l.2.1.1 ≤ l.2.1.2 ∧ l.2.1.2 ≤ 20000) ∧ (0 ≤ l.2.2 ∧ l.2.2 ≤ 1048576)) → 0 ≤ adz id f t x ∧ adz id f t x ≤ x.length * (20001 * 1048576)
 | [], _ => by simp [adz]
 | l :: r, h => by
   have ih := aln (id := id) (t := t) hf (x := r) fun l hl => h l (by simp [hl])
   simp only [adz, List.length_cons, Int.natCast_succ, Int.add_mul, Int.one_mul]
   split
   ·rename_i hc
    have := aD8 (h l (by simp)) hf hc.2
    omega
   ·omega
theorem aTj {b : acq} (h : adk b) {g : acO} (hg : 0 ≤ g.2.2.2.2.2 ∧ g.2.2.2.2.2 ≤ 1048576) {f t : Int} (hf : 0 ≤ f ∧ f ≤ 100000) (ht : 0 ≤ t ∧ t ≤ 100000) : ap7 b g f t = some (agS b g f t) := by
 have hL := h.nL
 have hU := h.nU
 have hlb : ∀ i, 0 ≤ adz g.1 f t (b.2.2.2.1.take i) ∧ adz g.1 f t (b.2.2.2.1.take i) ≤ 12 * (20001 * 1048576) := by
  intro i
  have h1 := aln (id := g.1) (t := t) hf.1 (x := b.2.2.2.1.take i) fun l hl => av6 h (List.mem_of_mem_take hl)
  have h2 : ((b.2.2.2.1.take i).length : Int) * (20001 * 1048576) ≤ 12 * (20001 * 1048576) := Int.mul_le_mul_of_nonneg_right (by rw [List.length_take]; omega) (by omega)
  omega
 unfold ap7 aGj
 refine afE (fun x : Int × Int => ∃ i : Nat, i ≤ b.2.2.2.1.length ∧ x = (adz g.1 f t (b.2.2.2.1.take i), (i : Int))) (fun x => b.2.2.2.1.length - x.2.toNat) ?_ ⟨0, by omega, rfl⟩
 rintro x ⟨i, hi, rfl⟩
 rcases Nat.lt_or_ge i b.2.2.2.1.length with hlt | hge
 ·have hl : b.2.2.2.1[i]? = some b.2.2.2.1[i] := List.getElem?_eq_getElem hlt
  have hz := av6 h (List.mem_of_getElem? hl)
  refine .inr ⟨(adz g.1 f t (b.2.2.2.1.take (i + 1)), (i : Int) + 1), ⟨i + 1, hlt, by simp⟩, by simp; omega, fun kn => ?_⟩
  try dsimp only
  unfold am7
  have b1 := hlb i
  have b2 := hlb (i + 1)
  have e1 : adz g.1 f t (b.2.2.2.1.take (i + 1)) = adz g.1 f t (b.2.2.2.1.take i) + (if b.2.2.2.1[i].1 = g.1 ∧ 0 < adb b.2.2.2.1[i] f t then adb b.2.2.2.1[i] f t * b.2.2.2.1[i].2.2 else 0) := by
   rw [take_succ hl, ape]; simp [adz]
  rw [acm hlt, acg hl, acs (by omega) (by omega), aA3, aLl, acs (by omega) (by omega), acs (by omega) (by omega)]
  rw [show min b.2.2.2.1[i].2.1.2 (t - 1) - max b.2.2.2.1[i].2.1.1 f + 1 = adb b.2.2.2.1[i] f t from rfl, adJ]
  by_cases hid : b.2.2.2.1[i].1 = g.1
  ·rw [if_pos (by simpa [ieq] using hid), adJ]
   by_cases hd : 0 < adb b.2.2.2.1[i] f t
   ·have lb := aD8 hz hf.1 hd
    rw [if_pos ⟨hid, hd⟩] at e1
    rw [if_pos (by simpa [igt] using hd), acs (by omega) (by omega), acs (by omega) (by omega), aci hlt (by omega), e1]
   ·rw [if_neg (fun hc => hd hc.2)] at e1
    rw [if_neg (by simpa [igt] using hd), aci hlt (by omega), e1, Int.add_zero]
  ·rw [if_neg (fun hc => hid hc.1)] at e1
   rw [if_neg (by simpa [ieq] using hid), aci hlt (by omega), e1, Int.add_zero]
 ·refine .inl fun kn => ?_
  have : i = b.2.2.2.1.length := by omega
  subst this
  try dsimp only
  unfold am7
  rw [acJ, List.take_length]
  have hud : ∀ x : List (Int × Int), x.length ≤ 40 → ((x.filter fun u => u.1 == g.1 && inP u.2 f (t - 1)).map fun u => u.2).length ≤ 40 := by
   intro x hx
   rw [List.length_map]
   exact Nat.le_trans (List.length_filter_le _ _) hx
  refine ada b.2.2.1 (fun i => ((b.2.2.1.take i).filter fun u => u.1 == g.1 && inP u.2 f (t - 1)).map fun u => u.2) _ rfl (fun i u hi hu kn' => ?_) (fun kn' => ?_)
  ·try dsimp only
   unfold am6
   have hx := hud (b.2.2.1.take i) (by rw [List.length_take]; omega)
   rw [acm hi, acg hu, acs (by omega) (by omega), afh, ab1, acn (by simp only [List.length_singleton]; omega), Am.iff_true, aci hi (by omega), aci hi (by omega), take_succ hu, List.filter_append, List.map_append]
   cases h1 : (u.1 == g.1) with
   | false =>
     have : ieq u.1 g.1 = false := h1
     simp only [this, acM, List.filter_cons, h1, Bool.false_and, Bool.false_eq_true, if_false, List.filter_nil, List.map_nil, List.append_nil]
   | true =>
     have : ieq u.1 g.1 = true := h1
     rw [this]
     cases h2 : inP u.2 f (t - 1) with
     | false => simp only [aei, acM, List.filter_cons, h1, h2, Bool.true_and, Bool.false_eq_true, if_false, List.filter_nil, List.map_nil, List.append_nil]
     | true => simp only [aei, List.filter_cons, h1, h2, Bool.true_and, if_true, List.filter_nil, List.map_nil, List.map_cons]
  ·try dsimp only
   unfold am6
   rw [acJ, List.take_length]
   rw [show ((b.2.2.1.filter fun u => u.1 == g.1 && inP u.2 f (t - 1)).map fun u => u.2) = afP b g.1 f t from rfl]
   have h40 : (afP b g.1 f t).length ≤ 40 := hud _ hU
   have hc40 : (aKb (afP b g.1 f t)).length ≤ 40 := by
    have := ays (afP b g.1 f t)
    omega
   have hm : 0 ≤ ((aKb (afP b g.1 f t)).length : Int) * g.2.2.2.2.2 ∧ ((aKb (afP b g.1 f t)).length : Int) * g.2.2.2.2.2 ≤ 40 * 1048576 :=
    ⟨Int.mul_nonneg (by omega) hg.1, Int.mul_le_mul (by omega) hg.2 hg.1 (by omega)⟩
   have b1 := hlb b.2.2.2.1.length
   rw [List.take_length] at b1
   dsimp only
   rw [acn (by omega), Am.iff_true, acn (by rw [aHx]; omega), Am.iff_true, aOP, acL, acs (by omega) (by omega), acs (by omega) (by omega)]
   rfl
end Go.Proofs.ZzM
end
noncomputable section
namespace Go.Proofs.ZzM
open Go Go.Am
abbrev Lk : Type := Int × Int × Int
inductive Wl (L : List Lk) (S : Int → Prop) : List Int → Int → Int → Prop
 | nil {v : Int} : S v → Wl L S [] v 0
 | step {vs : List Int} {u v m d : Int} : Wl L S vs u d → (u, v, m) ∈ L → Wl L S (u :: vs) v (d + m)
def Pot (L : List Lk) (p : Int → Int) : Prop := ∀ u v m, (u, v, m) ∈ L → p v ≤ p u + m
def InR (L : List Lk) (N : Nat) : Prop := ∀ l ∈ L, (0 ≤ l.1 ∧ l.1 < N) ∧ (0 ≤ l.2.1 ∧ l.2.1 < N)
section
variable {L : List Lk} {S : Int → Prop} {N : Nat} {p : Int → Int}
theorem Wl.cut (hp : Pot L p) {vs : List Int} {v d : Int} (h : Wl L S vs v d) : ∀ x ∈ vs, ∃ vs1 d1, Wl L S vs1 x d1 ∧ (x :: vs1) <:+ vs ∧ d1 + (p v - p x) ≤ d := by
 induction h with
 | nil h => intro x hx; cases hx
 | @step vs u v m d hw hl ih =>
   intro x hx
   have h1 := hp u v m hl
   rcases List.mem_cons.1 hx with rfl | hx
   ·exact ⟨vs, d, hw, List.suffix_refl _, by omega⟩
   ·obtain ⟨vs1, d1, g1, g2, g3⟩ := ih x hx
    exact ⟨vs1, d1, g1, g2.trans (List.suffix_cons _ _), by omega⟩
theorem Wl.simple (hp : Pot L p) {vs : List Int} {v d : Int} (h : Wl L S vs v d) : ∃ vs' d', Wl L S vs' v d' ∧ d' ≤ d ∧ (v :: vs').Nodup := by
 induction h with
 | nil h => exact ⟨[], 0, .nil h, Int.le_refl _, by simp⟩
 | @step vs u v m d hw hl ih =>
   obtain ⟨vs1, d1, g1, g2, g3⟩ := ih
   have hw1 := Wl.step g1 hl
   by_cases hv : v ∈ u :: vs1
   ·obtain ⟨vs2, d2, k1, k2, k3⟩ := hw1.cut hp v hv
    exact ⟨vs2, d2, k1, by omega, g3.sublist k2.sublist⟩
   ·exact ⟨u :: vs1, d1 + m, hw1, by omega, List.nodup_cons.2 ⟨hv, g3⟩⟩
theorem Wl.range (hL : InR L N) (hS : ∀ v, S v → 0 ≤ v ∧ v < N) {vs : List Int} {v d : Int} (h : Wl L S vs v d) : (0 ≤ v ∧ v < N) ∧ ∀ u ∈ vs, 0 ≤ u ∧ u < N := by
 induction h with
 | nil h => exact ⟨hS _ h, fun u hu => by cases hu⟩
 | @step vs u v m d hw hl ih =>
   refine ⟨(hL _ hl).2, fun w hw' => ?_⟩
   rcases List.mem_cons.1 hw' with rfl | h
   ·exact ih.1
   ·exact ih.2 w h
theorem aMh : ∀ (N : Nat) (l : List Int), l.Nodup → (∀ x ∈ l, 0 ≤ x ∧ x < N) → l.length ≤ N
 | 0, l, _, h => by
   cases l with
   | nil => simp
   | cons a l => have := h a (by simp); omega
 | N + 1, l, hn, h => by
   have h1 : (l.erase (N : Int)).length ≤ N := aMh N _ (hn.erase _) fun x hx => by
    have h2 := (hn.mem_erase_iff).1 hx
    have := h x h2.2
    have := h2.1
    omega
   have := List.length_erase (a := (N : Int)) (l := l)
   split at this <;> omega
theorem Wl.short (hL : InR L N) (hS : ∀ v, S v → 0 ≤ v ∧ v < N) {vs : List Int} {v d : Int} (h : Wl L S vs v d) (hn : (v :: vs).Nodup) : vs.length + 1 ≤ N := by
 have := h.range hL hS
 exact aMh N (v :: vs) hn fun x hx => by
  rcases List.mem_cons.1 hx with rfl | hx
  ·exact this.1
  ·exact this.2 x hx
def axM (f : Lk → Bool) : List Lk → Int
 | [] => 0
 | l :: t => (if f l then min l.2.2 0 else 0) + axM f t
theorem aPk (f : Lk → Bool) : ∀ L : List Lk, axM (fun _ => true) L ≤ axM f L
 | [] => Int.le_refl _
 | l :: t => by
   have := aPk f t
   simp only [axM, if_true]
   split <;> omega
theorem amy (f : Lk → Bool) : ∀ L : List Lk, axM f L ≤ 0
 | [] => Int.le_refl _
 | l :: t => by
   have := amy f t
   simp only [axM]
   split <;> omega
theorem aMr {f : Lk → Bool} {l : Lk} (hf : f l = true) : ∀ {L : List Lk}, l ∈ L → axM f L ≤ l.2.2
 | a :: t, h => by
   simp only [axM]
   rcases List.mem_cons.1 h with rfl | h
   ·have := amy f t
    rw [if_pos hf]; omega
   ·have := aMr hf h
    split <;> omega
theorem aPj {f g : Lk → Bool} (h : ∀ l, f l = true → g l = false) : ∀ L : List Lk, axM (fun l => f l || g l) L = axM f L + axM g L
 | [] => rfl
 | l :: t => by
   have ih := aPj h t
   simp only [axM, ih]
   by_cases hf : f l = true
   ·simp [hf, h l hf]; omega
   ·have hf' : f l = false := by simpa using hf
    by_cases hg : g l = true
    ·simp [hf', hg]; omega
    ·simp [hf', hg]
theorem Wl.low {vs : List Int} {v d : Int} (h : Wl L S vs v d) : vs.Nodup → axM (fun l => vs.contains l.1) L ≤ d := by
 induction h with
 | nil h => intro _; exact amy _ _
 | @step vs u v m d hw hl ih =>
   intro hn
   rw [List.nodup_cons] at hn
   have h1 := ih hn.2
   have h2 : axM (fun l => l.1 == u) L ≤ m := aMr (f := fun l => l.1 == u) (l := (u, v, m)) (by simp) hl
   have h3 := aPj (f := fun l : Lk => l.1 == u) (g := fun l => vs.contains l.1) (fun l hf => by
    simp only [beq_iff_eq] at hf
    rw [hf]
    simpa using hn.1) L
   have h4 : (fun l : Lk => (u :: vs).contains l.1) = fun l => (l.1 == u) || vs.contains l.1 := by funext l; rw [List.contains_cons]
   rw [h4, h3]
   omega
def ayw (L : List Lk) : Int := axM (fun _ => true) L
theorem Wl.low' (hp : Pot L p) {vs : List Int} {v d : Int} (h : Wl L S vs v d) : ayw L ≤ d := by
 obtain ⟨vs', d', h1, h2, h3⟩ := h.simple hp
 have := h1.low (List.nodup_cons.1 h3).2
 have := aPk (fun l => vs'.contains l.1) L
 unfold ayw
 omega
theorem Wl.high {M : Int} (hM : ∀ l ∈ L, l.2.2 ≤ M) {vs : List Int} {v d : Int} (h : Wl L S vs v d) : d ≤ vs.length * M := by
 induction h with
 | nil h => simp
 | @step vs u v m d hw hl ih =>
   have := hM _ hl
   simp only [List.length_cons, Int.natCast_succ, Int.add_mul, Int.one_mul]
   simp only at this
   omega
theorem Wl.mono {S' : Int → Prop} (hS : ∀ v, S v → S' v) {vs : List Int} {v d : Int} (h : Wl L S vs v d) : Wl L S' vs v d := by
 induction h with
 | nil h => exact .nil (hS _ h)
 | step hw hl ih => exact .step ih hl
theorem Wl.sub {L' : List Lk} (hL : ∀ l ∈ L, l ∈ L') {vs : List Int} {v d : Int} (h : Wl L S vs v d) : Wl L' S vs v d := by
 induction h with
 | nil h => exact .nil h
 | step hw hl ih => exact .step ih (hL _ hl)
theorem Wl.pot (hp : Pot L p) {vs : List Int} {v d : Int} (h : Wl L S vs v d) : ∃ s, S s ∧ p v - p s ≤ d := by
 induction h with
 | @nil v h => exact ⟨v, h, by omega⟩
 | @step vs u v m d hw hl ih =>
   obtain ⟨s, h1, h2⟩ := ih
   have := hp u v m hl
   exact ⟨s, h1, by omega⟩
end
abbrev afr : Int := 1152921504606846976
structure aOv (L : List Lk) (S : Int → Prop) (N : Nat) (x : Int → Int) : Prop where
 att : ∀ v : Int, 0 ≤ v → v < N → x v ≠ afr → ∃ vs, Wl L S vs v (x v)
 low : ∀ v vs d, Wl L S vs v d → x v ≤ d
 bd : ∀ v : Int, 0 ≤ v → v < N → x v ≤ afr
theorem aOv.uniq {L : List Lk} {S : Int → Prop} {N : Nat} {x y : Int → Int} (hx : aOv L S N x) (hy : aOv L S N y) {v : Int} (h0 : 0 ≤ v) (h1 : v < N) : x v = y v := by
 have key : ∀ {x y : Int → Int}, aOv L S N x → aOv L S N y → x v ≤ y v := by
  intro x y hx hy
  by_cases h : y v = afr
  ·rw [h]; exact hx.bd v h0 h1
  ·obtain ⟨vs, hw⟩ := hy.att v h0 h1 h
   exact hx.low v vs _ hw
 exact Int.le_antisymm (key hx hy) (key hy hx)
def gv (x : List Int) (v : Int) : Int := x[v.toNat]?.getD 0
theorem aME {x : List Int} {v : Int} (h : v.toNat < x.length) : x[v.toNat]? = some (gv x v) := by
 unfold gv; rw [List.getElem?_eq_getElem h]; rfl
theorem apk {x : List Int} {u v : Int} (hu : 0 ≤ u) (hv : 0 ≤ v) (h : u.toNat < x.length) (y : Int) : gv (x.set u.toNat y) v = if v = u then y else gv x v := by
 unfold gv
 rw [List.getElem?_set]
 by_cases hvu : v = u
 ·subst hvu; simp [h]
 ·have : ¬ u.toNat = v.toNat := by omega
  simp [hvu, this]
theorem aMF {x y : List Int} (hl : x.length = y.length) (h : ∀ v : Int, 0 ≤ v → v < x.length → gv x v = gv y v) : x = y := by
 refine List.ext_getElem hl fun i h1 h2 => ?_
 have := h i (by omega) (by omega)
 unfold gv at this
 simpa [h1, h2] using this
def ahG (x : List Int) (l : Lk) : List Int := if gv x l.1 < afr ∧ gv x l.1 + l.2.2 < gv x l.2.1 then x.set l.2.1.toNat (gv x l.1 + l.2.2) else x
def axK (L : List Lk) (x : List Int) : List Int := L.foldl ahG x
def ahc (L : List Lk) : Nat → List Int → List Int
 | 0, x => x
 | n + 1, x => ahc L n (axK L x)
theorem ajc (x : List Int) (l : Lk) : (ahG x l).length = x.length := by unfold ahG; split <;> simp
theorem aol (L : List Lk) : ∀ x : List Int, (axK L x).length = x.length := by
 induction L with
 | nil => intro x; rfl
 | cons l t ih => intro x; show (axK t (ahG x l)).length = _; rw [ih, ajc]
theorem aeg (L : List Lk) : ∀ (n : Nat) (x : List Int), (ahc L n x).length = x.length
 | 0, x => rfl
 | n + 1, x => by rw [ahc, aeg L n, aol]
theorem arp (L : List Lk) : ∀ (n : Nat) (x : List Int), ahc L (n + 1) x = axK L (ahc L n x)
 | 0, x => rfl
 | n + 1, x => by rw [ahc, arp L n]; rfl
section
variable {L0 : List Lk} {S : Int → Prop} {N : Nat}
theorem aHH {x : List Int} {l : Lk} (hl : (0 ≤ l.1 ∧ l.1 < N) ∧ (0 ≤ l.2.1 ∧ l.2.1 < N)) (hx : x.length = N) (v : Int) (hv : 0 ≤ v) : gv (ahG x l) v ≤ gv x v := by
 unfold ahG
 split
 ·rename_i h
  rw [apk hl.2.1 hv (by omega)]
  split
  ·rename_i h2; subst h2; omega
  ·exact Int.le_refl _
 ·exact Int.le_refl _
theorem asB : ∀ {L : List Lk}, InR L N → ∀ {x : List Int}, x.length = N → ∀ v, 0 ≤ v → gv (axK L x) v ≤ gv x v
 | [], _, x, _, v, _ => Int.le_refl _
 | l :: t, hL, x, hx, v, hv => by
   have h1 := aHH (hL l (by simp)) hx v hv
   have h2 := asB (L := t) (fun l hl => hL l (by simp [hl])) (x := ahG x l) (by rw [ajc, hx]) v hv
   show gv (axK t (ahG x l)) v ≤ _
   omega
theorem avb : ∀ {L : List Lk}, InR L N → ∀ {x : List Int}, x.length = N → ∀ u v m, (u, v, m) ∈ L → gv x u < afr → gv (axK L x) v ≤ gv x u + m
 | l :: t, hL, x, hx, u, v, m, hm, hf => by
   have ht : InR t N := fun l hl => hL l (by simp [hl])
   have hx' : (ahG x l).length = N := by rw [ajc, hx]
   show gv (axK t (ahG x l)) v ≤ _
   rcases List.mem_cons.1 hm with rfl | hm
   ·have hl := hL (u, v, m) (by simp)
    have h2 := asB ht hx' v hl.2.1
    have h3 : gv (ahG x (u, v, m)) v ≤ gv x u + m := by
     unfold ahG
     split
     ·rw [apk hl.2.1 hl.2.1 (by simp only at hl; simp only; omega), if_pos rfl]; exact Int.le_refl _
     ·rename_i h; simp only [not_and, Int.not_lt] at h; exact h hf
    omega
   ·have hl := hL (u, v, m) (by simp [hm])
    have h1 := aHH (hL l (by simp)) hx u hl.1.1
    have := avb ht hx' u v m hm (by omega)
    omega
def Att (L0 : List Lk) (S : Int → Prop) (N : Nat) (x : List Int) : Prop := ∀ v : Int, 0 ≤ v → v < N → gv x v < afr → ∃ vs, Wl L0 S vs v (gv x v)
theorem aNt {x : List Int} {l : Lk} (hl : (0 ≤ l.1 ∧ l.1 < N) ∧ (0 ≤ l.2.1 ∧ l.2.1 < N)) (hm : l ∈ L0) (hx : x.length = N) (h : Att L0 S N x) : Att L0 S N (ahG x l) := by
 unfold ahG
 split
 ·rename_i hc
  intro v h0 h1 hf
  rw [apk hl.2.1 h0 (by omega)] at hf ⊢
  split
  ·rename_i h2
   obtain ⟨vs, hw⟩ := h l.1 hl.1.1 hl.1.2 hc.1
   exact ⟨_, h2 ▸ Wl.step hw hm⟩
  ·rename_i h2
   rw [if_neg h2] at hf
   exact h v h0 h1 hf
 ·exact h
theorem aHR : ∀ {L : List Lk}, InR L N → (∀ l ∈ L, l ∈ L0) → ∀ {x : List Int}, x.length = N → Att L0 S N x → Att L0 S N (axK L x)
 | [], _, _, _, _, h => h
 | l :: t, hL, hsub, x, hx, h => aHR (L := t) (fun l hl => hL l (by simp [hl])) (fun l hl => hsub l (by simp [hl])) (x := ahG x l) (by rw [ajc, hx]) (aNt (hL l (by simp)) (hsub l (by simp)) hx h)
theorem aDG (hL : InR L0 N) : ∀ (n : Nat) {x : List Int}, x.length = N → Att L0 S N x → Att L0 S N (ahc L0 n x)
 | 0, _, _, h => h
 | n + 1, x, hx, h => aDG hL n (by rw [aol, hx]) (aHR hL (fun _ h => h) hx h)
theorem asA (hL : InR L0 N) : ∀ (n : Nat) {x : List Int}, x.length = N → ∀ v, 0 ≤ v → gv (ahc L0 n x) v ≤ gv x v
 | 0, _, _, _, _ => Int.le_refl _
 | n + 1, x, hx, v, hv => Int.le_trans (asA hL n (by rw [aol, hx]) v hv) (asB hL hx v hv)
def ams (S : Int → Bool) (N : Nat) : List Int := (List.range N).map fun (i : Nat) => if S i then 0 else afr
theorem afS (S : Int → Bool) {N : Nat} {v : Int} (h0 : 0 ≤ v) (h1 : v < N) : gv (ams S N) v = if S v then 0 else afr := by
 unfold gv ams
 have : v.toNat < N := by omega
 rw [List.getElem?_map, List.getElem?_range this]
 simp only [Option.map_some, Option.getD_some]
 rw [Int.toNat_of_nonneg h0]
theorem acZ (S : Int → Bool) (N : Nat) : (ams S N).length = N := by simp [ams]
end
theorem ava {L : List Lk} {S : Int → Bool} {N : Nat} {M : Int} (hL : InR L N) (hS : ∀ v, S v = true → 0 ≤ v ∧ v < N) (hM : ∀ l ∈ L, l.2.2 ≤ M) : ∀ (n : Nat), n * M < afr → 0 ≤ M → ∀ vs v d, Wl L (fun v => S v = true) vs v d → vs.length ≤ n → gv (ahc L n (ams S N)) v ≤ d
 | 0, _, _, vs, v, d, hw, hl => by
   cases hw with
   | nil h =>
     have := hS v h
     rw [ahc, afS S this.1 this.2, if_pos h]; exact Int.le_refl _
   | step => simp at hl
 | n + 1, hn, hM0, vs, v, d, hw, hl => by
   have hn' : n * M < afr := by rw [Int.natCast_succ, Int.add_mul, Int.one_mul] at hn; omega
   have hlen : (ahc L n (ams S N)).length = N := by rw [aeg, acZ]
   rw [arp]
   cases hw with
   | nil h =>
     have h1 := asB hL hlen v (hS v h).1
     have h2 := ava hL hS hM n hn' hM0 [] v 0 (.nil h) (by simp)
     omega
   | @step vs u _ m d hw hlk =>
     have h2 := ava hL hS hM n hn' hM0 vs u d hw (by simpa using hl)
     have h3 := hw.high hM
     have h4 : (vs.length : Int) * M ≤ n * M := Int.mul_le_mul_of_nonneg_right (by simp at hl; omega) hM0
     have := avb hL hlen u v m hlk (by omega)
     omega
theorem azd {L : List Lk} {S : Int → Bool} {N : Nat} {M : Int} {p : Int → Int} (hp : Pot L p) (hL : InR L N) (hS : ∀ v, S v = true → 0 ≤ v ∧ v < N) (hM : ∀ l ∈ L, l.2.2 ≤ M) (hM0 : 0 ≤ M) (hN : N * M < afr) (n : Nat) (hn : N ≤ n + 1) : aOv L (fun v => S v = true) N (gv (ahc L n (ams S N))) := by
 have hatt : Att L (fun v => S v = true) N (ams S N) := fun v h0 h1 hf => by
  rw [afS S h0 h1] at hf ⊢
  split
  ·rename_i h; exact ⟨[], .nil h⟩
  ·rename_i h; rw [if_neg h] at hf; omega
 have hbd : ∀ v : Int, 0 ≤ v → v < N → gv (ahc L n (ams S N)) v ≤ afr := fun v h0 h1 => by
  have := asA hL n (acZ S N) v h0
  rw [afS S h0 h1] at this
  have hF : (0 : Int) ≤ afr := by decide
  split at this <;> omega
 have hlow : ∀ (n : Nat), N ≤ n + 1 → ∀ v vs d, Wl L (fun v => S v = true) vs v d → gv (ahc L n (ams S N)) v ≤ d := by
  intro n hn v vs d hw
  obtain ⟨vs', d', h1, h2, h3⟩ := hw.simple hp
  have h4 := h1.short hL hS h3
  have hpos : 0 < N := by omega
  obtain ⟨k, rfl⟩ : ∃ k, N = k + 1 := ⟨N - 1, by omega⟩
  have hk : (k : Int) * M < afr := by rw [Int.natCast_succ, Int.add_mul, Int.one_mul] at hN; omega
  have h5 := ava hL hS hM k hk hM0 vs' v d' h1 (by omega)
  obtain ⟨j, rfl⟩ : ∃ j, n = k + j := ⟨n - k, by omega⟩
  have h6 : ∀ (j : Nat), gv (ahc L (k + j) (ams S (k + 1))) v ≤ gv (ahc L k (ams S (k + 1))) v := by
   intro j
   induction j with
   | zero => exact Int.le_refl _
   | succ j ih =>
     rw [← Nat.add_assoc, arp]
     have := asB hL (x := ahc L (k + j) (ams S (k + 1))) (by rw [aeg, acZ]) v (h1.range hL hS).1.1
     omega
  have := h6 j
  omega
 exact ⟨fun v h0 h1 hne => aDG hL n (acZ S N) hatt v h0 h1 (by have := hbd v h0 h1; omega), hlow n hn, hbd⟩
theorem aOv.pot {L : List Lk} {S : Int → Prop} {N : Nat} {x : Int → Int} (h : aOv L S N x) (hL : InR L N) {u v m : Int} (hl : (u, v, m) ∈ L) (hf : x u ≠ afr) : x v ≤ x u + m := by
 obtain ⟨vs, hw⟩ := h.att u (hL _ hl).1.1 (hL _ hl).1.2 hf
 exact h.low v _ _ (.step hw hl)
end Go.Proofs.ZzM
end
noncomputable section
namespace Go.Proofs.ZzM
open Go Go.Am
def ac2 (b : acq) (g : acO) : List Lk :=
 [(0, atP (acd b) [g.1] g.2.1, g.2.2.1 + g.2.2.2.1.2), (atP (acd b) [g.1] g.2.1, 0, -(g.2.2.1 + g.2.2.2.1.1))] ++
 (List.range ((acu b g).length - 1)).flatMap fun (k : Nat) => [(atP (acd b) [g.1] g.2.1 + k, atP (acd b) [g.1] g.2.1 + k + 1, 0), (atP (acd b) [g.1] g.2.1 + k + 1, atP (acd b) [g.1] g.2.1 + k, agS b g ((acu b g)[k]?.getD 0) ((acu b g)[k + 1]?.getD 0))]
def cx (b : acq) (c : Cmp) : Int := atP (acd b) (ac6 c.2.2.1 c.2.2.2.1) c.2.1
def cy (b : acq) (c : Cmp) : Int := atP (acd b) (ac6 c.2.2.2.1 c.2.2.1) c.2.1
def acQ (b : acq) (c : Cmp) : List Lk := [(cy b c, cx b c, (adY b c).2), (cx b c, cy b c, -(adY b c).1)]
def acp (b : acq) : List Lk := b.2.1.flatMap (ac2 b) ++ b.2.2.2.2.1.flatMap (acQ b)
def adw (b : acq) (i : Nat) (g : acO) : List (Int × Int) := [(1, (i : Int)), (1, (i : Int))] ++ (List.range ((acu b g).length - 1)).flatMap fun _ => [(2, (i : Int)), (2, (i : Int))]
def aeG (b : acq) : List (Int × Int) := (b.2.1.mapIdx (adw b)).flatten ++ (b.2.2.2.2.1.mapIdx fun i _ => [(3, (i : Int)), (3, (i : Int))]).flatten
section
variable {b : acq}
theorem aOD (h : adk b) {id day : Int} (hu : aQ9 (ajJ b) id day = 0) : (0 ≤ day ∧ day ≤ 20000) ∧ ∃ g, ahr b id = some g ∧ g.2.1 ≤ day := by
 unfold aQ9 at hu
 split at hu
 ·omega
 ·rename_i hd
  simp only [Bool.not_eq_true', Bool.not_eq_false, aLu, inP, Bool.and_eq_true, decide_eq_true_eq] at hd
  exact ⟨hd, avh h hu⟩
theorem aiR {g : acO} {d : Int} : d ∈ acu b g ↔ d = g.2.1 ∨ (∃ c ∈ b.2.2.2.2.1, (c.2.2.1.contains g.1) ≠ (c.2.2.2.1.contains g.1) ∧ c.2.1 = d) ∨ (∃ n ∈ b.2.2.2.2.2, n.1 = g.1 ∧ n.2 = d) := by
 unfold acu
 rw [apQ, aDj]
 simp only [List.mem_append, List.mem_singleton, List.mem_map, List.mem_filter]
 constructor
 ·rintro ((h | ⟨c, ⟨h1, h2⟩, h3⟩) | ⟨n, ⟨h1, h2⟩, h3⟩)
  ·exact .inl h
  ·exact .inr (.inl ⟨c, h1, by simpa using h2, h3⟩)
  ·exact .inr (.inr ⟨n, h1, by simpa using h2, h3⟩)
 ·rintro (h | ⟨c, h1, h2, h3⟩ | ⟨n, h1, h2, h3⟩)
  ·exact .inl (.inl h)
  ·exact .inl (.inr ⟨c, ⟨h1, by simpa using h2⟩, h3⟩)
  ·exact .inr ⟨n, ⟨h1, by simpa using h2⟩, h3⟩
theorem adk.gaugeR (h : adk b) {g : acO} (hg : g ∈ b.2.1) : aB5 g.2.2.2.2.1 = true ∧ (-1000 ≤ g.2.2.2.2.1.1 ∧ g.2.2.2.2.1.1 ≤ 1000) ∧ g.2.2.2.2.1.2 ≤ 100 ∧ (1 ≤ g.1 ∧ g.1 ≤ 1099511627776) ∧ (0 ≤ g.2.1 ∧ g.2.1 ≤ 20000) ∧ (1 ≤ g.2.2.1 ∧ g.2.2.1 ≤ 1125899906842624) ∧ (-1073741824 ≤ g.2.2.2.1.1 ∧ g.2.2.2.1.1 ≤ g.2.2.2.1.2 ∧ g.2.2.2.1.2 ≤ 1073741824) ∧ (0 ≤ g.2.2.2.2.2 ∧ g.2.2.2.2.2 ≤ 1048576) := (aEl g).1 (h.gauge g hg)
theorem adk.day (h : adk b) {g : acO} (hg : g ∈ b.2.1) {d : Int} (hd : d ∈ acu b g) : g.2.1 ≤ d ∧ 0 ≤ d ∧ d ≤ 20000 := by
 have hr := h.gaugeR hg
 have hgo := ase h.ids hg
 rcases aiR.1 hd with rfl | ⟨c, hc, h1, rfl⟩ | ⟨n, hn, h1, rfl⟩
 ·have := hr.2.2.2.2.1; omega
 ·have hn := (ahd c).1 (h.nums hc)
  have hx : g.1 ∈ c.2.2.1 ++ c.2.2.2.1 := by
   rw [List.mem_append]
   by_cases h2 : g.1 ∈ c.2.2.1
   ·exact .inl h2
   ·refine .inr ?_
    have e1 : c.2.2.1.contains g.1 = false := by simpa using h2
    rw [e1] at h1
    have : c.2.2.2.1.contains g.1 = true := by cases hh : c.2.2.2.1.contains g.1 <;> simp_all
    simpa using this
  obtain ⟨⟨g', h3, h4⟩, _⟩ := h.pile hc hx
  rw [hgo] at h3; cases h3
  have := hn.2.1
  omega
 ·obtain ⟨h2, g', h3, h4⟩ := aOD h (h.looks n hn)
  rw [h1, hgo] at h3; cases h3
  omega
theorem aip (g : acO) : g.2.1 ∈ acu b g := aiR.2 (.inl rfl)
theorem aGS (h : adk b) {g : acO} (hg : g ∈ b.2.1) : (acu b g).length ≤ 59 := by
 have h1 : ∀ l : List acO, g ∈ l → (acu b g).length ≤ (l.flatMap fun g => (acu b g).map fun d => ((g.1, d) : Int × Int)).length := by
  intro l
  induction l with
  | nil => intro hg; cases hg
  | cons a t ih =>
    intro hg
    rw [List.flatMap_cons, List.length_append, List.length_map]
    rcases List.mem_cons.1 hg with rfl | hg
    ·omega
    ·have := ih hg; omega
 have := h1 b.2.1 hg
 have := h.nodes
 unfold acd at this
 omega
theorem aQL {p : List Int} {d : Int} : 0 ≤ atP (acd b) p d ∧ atP (acd b) p d ≤ (acd b).length := by
 unfold atP
 cases p with
 | nil => simp
 | cons x t =>
   try dsimp only
   cases h : ags (acd b) x d with
   | none => simp
   | some j => have := (agW h).1; dsimp only; omega
theorem ay5 (h : adk b) {c : Cmp} (hc : c ∈ b.2.2.2.2.1) : (-1125904000000000 ≤ (adY b c).1 ∧ (adY b c).1 ≤ 1125904000000000) ∧ (-1125904000000000 ≤ (adY b c).2 ∧ (adY b c).2 ≤ 1125904000000000) := by
 obtain ⟨r1, r2⟩ := h.rates hc
 have hn := (ahd c).1 (h.nums hc)
 have ha := aeV hn.2.2.2.2.2.1
 have hb := aeV hn.2.2.2.2.2.2
 have hf := h.film
 obtain ⟨g1, g2⟩ := aFa (aEO r1 r2) hn.2.2.2.2.1
 have fb := asl (b := b) (c := c) (by omega) (by omega) (by omega) (by omega) (by omega) (by omega)
 have q1 : amq (adQ b c).1 2000000000 10000 := g1
 have q2 : amq (adQ b c).2 2000000000 10000 := g2
 have c1 := awu q1
 have c2 := ash q2
 have n3 := hn.2.2.1
 have n4 := hn.2.2.2.1
 unfold adY
 try dsimp only
 omega
theorem ang (h : adk b) {g : acO} (hg : g ∈ b.2.1) {f t : Int} (hf : 0 ≤ f) : 0 ≤ agS b g f t ∧ agS b g f t ≤ 12 * (20001 * 1048576) + 40 * 1048576 := by
 have hr := (h.gaugeR hg).2.2.2.2.2.2.2
 have h1 := aln (id := g.1) (t := t) hf (x := b.2.2.2.1) fun l hl => av6 h hl
 have h2 : (b.2.2.2.1.length : Int) * (20001 * 1048576) ≤ 12 * (20001 * 1048576) := Int.mul_le_mul_of_nonneg_right (by have := h.nL; omega) (by omega)
 have h3 : (afP b g.1 f t).length ≤ 40 := by
  unfold afP
  rw [List.length_map]
  exact Nat.le_trans (List.length_filter_le _ _) h.nU
 have h4 := ays (afP b g.1 f t)
 have hm : 0 ≤ ((aKb (afP b g.1 f t)).length : Int) * g.2.2.2.2.2 ∧ ((aKb (afP b g.1 f t)).length : Int) * g.2.2.2.2.2 ≤ 40 * 1048576 :=
  ⟨Int.mul_nonneg (by omega) hr.1, Int.mul_le_mul (by omega) hr.2 hr.1 (by omega)⟩
 unfold agS
 omega
end
theorem ahP {α β : Type} (f : Nat → α → β) {l : List α} {i : Nat} {a : α} (h : l[i]? = some a) : (l.take (i + 1)).mapIdx f = (l.take i).mapIdx f ++ [f i a] := by
 have hi : i < l.length := (List.getElem?_eq_some_iff.1 h).1
 have : (l.take i).length = i := by rw [List.length_take]; omega
 rw [take_succ h, List.mapIdx_append]
 simp [this]
theorem au8 {α : Type} (f : Nat → List α) (j : Nat) : (List.range (j + 1)).flatMap f = (List.range j).flatMap f ++ f j := by
 rw [List.range_succ, List.flatMap_append]; simp
theorem agH {α : Type} (f : Nat → List α) (n : Nat) (h : ∀ k, (f k).length = 2) : ((List.range n).flatMap f).length = 2 * n := by
 induction n with
 | zero => rfl
 | succ n ih => rw [au8, List.length_append, ih, h]; omega
set_option maxHeartbeats 2000000 in
theorem aMw {b : acq} (h : adk b) : auP b = some (b, acd b, (((acd b).length : Int) + 1, acp b), aeG b) := by
 unfold auP aGg
 have hN := h.nodes
 have hG := h.nG
 have hC := h.nC
 rw [aFc h.size, ab1, acL, acs (by omega) (by omega)]
 -- lengths of what comes
 have gl : ∀ g ∈ b.2.1, (ac2 b g).length ≤ 120 ∧ ∀ i, (adw b i g).length ≤ 120 := by
  intro g hg
  have := aGS h hg
  constructor
  ·unfold ac2
   rw [List.length_append, agH _ _ (fun _ => rfl)]
   simp only [List.length_cons, List.length_nil]; omega
  ·intro i
   unfold adw
   rw [List.length_append, agH _ _ (fun _ => rfl)]
   simp only [List.length_cons, List.length_nil]; omega
 have gls : ∀ i, ((b.2.1.take i).flatMap (ac2 b)).length ≤ 1440 ∧ (((b.2.1.take i).mapIdx (adw b)).flatten).length ≤ 1440 := by
  intro i
  induction i with
  | zero => simp
  | succ i ih =>
    have key : ∀ i, i ≤ b.2.1.length → ((b.2.1.take i).flatMap (ac2 b)).length ≤ i * 120 ∧ (((b.2.1.take i).mapIdx (adw b)).flatten).length ≤ i * 120 := by
     intro i
     induction i with
     | zero => intro _; simp
     | succ i ih =>
       intro hi
       have ih := ih (by omega)
       have hg : b.2.1[i]? = some b.2.1[i] := List.getElem?_eq_getElem hi
       have h2 := gl _ (List.mem_of_getElem? hg)
       have h3 := h2.2 i
       rw [ahP _ hg, take_succ hg, List.flatMap_append, List.flatten_append, List.length_append, List.length_append]
       simp only [List.flatMap_cons, List.flatMap_nil, List.append_nil, List.flatten_cons, List.flatten_nil]
       omega
    rcases Nat.lt_or_ge b.2.1.length (i + 1) with h1 | h1
    ·rw [List.take_of_length_le (by omega)]
     have := key b.2.1.length (Nat.le_refl _)
     rw [List.take_length] at this
     omega
    ·have := key (i + 1) h1
     omega
 refine ada b.2.1 (fun i => ((b.2.1.take i).flatMap (ac2 b), ((b.2.1.take i).mapIdx (adw b)).flatten)) _ rfl (fun i g hi hg kn => ?_) (fun kn => ?_)
 ·try dsimp only
  unfold am5
  have hgm := List.mem_of_getElem? hg
  have hr := h.gaugeR hgm
  have hd := aGS h hgm
  have hls := gls i
  have hat := aQL (b := b) (p := [g.1]) (d := g.2.1)
  rw [acm hi, acg hg]
  rw [show ajp ((b.1.1, b.1.2), b.2.1, b.2.2.1, b.2.2.2.1, b.2.2.2.2.1, b.2.2.2.2.2) g = ajp b g from rfl, aQe h.size, ab1]
  rw [aQK _ _ _ (by dsimp only; omega), ab1]
  try dsimp only
  have r1 := hr.2.2.2.2.2.1
  have r2 := hr.2.2.2.2.2.2.1
  rw [acs (by omega) (by omega), acs (by omega) (by omega), acs (by omega) (by omega), acn (by simp only [List.length_cons, List.length_nil]; omega), Am.iff_true, acn (by simp only [List.length_cons, List.length_nil]; omega), Am.iff_true]
  refine afE (fun x : Int × List Lk × List (Int × Int) => ∃ j : Nat, j + 1 ≤ (acu b g).length ∧ x.1 = (j : Int) + 1 ∧
   x.2.1 = (b.2.1.take i).flatMap (ac2 b) ++ ([(0, atP (acd b) [g.1] g.2.1, g.2.2.1 + g.2.2.2.1.2), (atP (acd b) [g.1] g.2.1, 0, -(g.2.2.1 + g.2.2.2.1.1))] ++
    (List.range j).flatMap fun (k : Nat) => [(atP (acd b) [g.1] g.2.1 + k, atP (acd b) [g.1] g.2.1 + k + 1, 0), (atP (acd b) [g.1] g.2.1 + k + 1, atP (acd b) [g.1] g.2.1 + k, agS b g ((acu b g)[k]?.getD 0) ((acu b g)[k + 1]?.getD 0))]) ∧
   x.2.2 = ((b.2.1.take i).mapIdx (adw b)).flatten ++ ([(1, (i : Int)), (1, (i : Int))] ++ (List.range j).flatMap fun _ => [(2, (i : Int)), (2, (i : Int))])) (fun x => (acu b g).length - x.1.toNat) ?_
   ⟨0, List.length_pos_of_mem (aip g), rfl, by simp, by simp⟩
  rintro ⟨x1, ls, ss⟩ ⟨j, hj, e1, e2, e3⟩
  dsimp only at e1 e2 e3 ⊢
  subst e1
  have hlls : ls.length ≤ 1562 := by
   rw [e2, List.length_append, List.length_append, agH _ _ (fun _ => rfl)]
   simp only [List.length_cons, List.length_nil]; omega
  have hlss : ss.length ≤ 1562 := by
   rw [e3, List.length_append, List.length_append, agH _ _ (fun _ => rfl)]
   simp only [List.length_cons, List.length_nil]; omega
  rcases Nat.lt_or_ge (j + 1) (acu b g).length with hlt | hge
  ·refine .inr ⟨((j : Int) + 1 + 1, _, _), ⟨j + 1, hlt, by push_cast; rfl, rfl, rfl⟩, by dsimp only; omega, fun kn' => ?_⟩
   try dsimp only
   unfold am4
   have g1 : (acu b g)[j]? = some ((acu b g)[j]?.getD 0) := by rw [List.getElem?_eq_getElem (by omega)]; rfl
   have g2 : (acu b g)[j + 1]? = some ((acu b g)[j + 1]?.getD 0) := by rw [List.getElem?_eq_getElem hlt]; rfl
   have d1 := h.day hgm (List.mem_of_getElem? g1)
   have d2 := h.day hgm (List.mem_of_getElem? g2)
   have lb := ang h hgm (t := (acu b g)[j + 1]?.getD 0) d1.2.1
   have ec : ((j : Int) + 1) = ((j + 1 : Nat) : Int) := by push_cast; rfl
   rw [ec, acm hlt, acs (by omega) (by omega), acs (by omega) (by omega), acs (by omega) (by omega), acs (by omega) (by omega)]
   rw [show (((j + 1 : Nat) : Int) - 1) = ((j : Nat) : Int) by omega, acg g1, acg g2]
   rw [show ap7 ((b.1.1, b.1.2), b.2.1, b.2.2.1, b.2.2.2.1, b.2.2.2.2.1, b.2.2.2.2.2) (g.1, g.2.1, g.2.2.1, (g.2.2.2.1.1, g.2.2.2.1.2), (g.2.2.2.2.1.1, g.2.2.2.2.1.2), g.2.2.2.2.2) ((acu b g)[j]?.getD 0) ((acu b g)[j + 1]?.getD 0) = ap7 b g ((acu b g)[j]?.getD 0) ((acu b g)[j + 1]?.getD 0) from rfl]
   rw [aTj h hr.2.2.2.2.2.2.2 ⟨by omega, by omega⟩ ⟨by omega, by omega⟩, ab1, acs (by omega) (by omega), acs (by omega) (by omega), acn (by simp only [List.length_cons, List.length_nil]; omega), Am.iff_true, acn (by simp only [List.length_cons, List.length_nil]; omega), Am.iff_true, aci hlt (by omega)]
   rw [au8, au8, e2, e3]
   have a1 : atP (acd b) [g.1] g.2.1 + ((j + 1 : Nat) : Int) - 1 = atP (acd b) [g.1] g.2.1 + (j : Int) := by push_cast; omega
   have a2 : atP (acd b) [g.1] g.2.1 + ((j + 1 : Nat) : Int) = atP (acd b) [g.1] g.2.1 + (j : Int) + 1 := by push_cast; omega
   have a3 : 0 - (0 - agS b g ((acu b g)[j]?.getD 0) ((acu b g)[j + 1]?.getD 0)) = agS b g ((acu b g)[j]?.getD 0) ((acu b g)[j + 1]?.getD 0) := by omega
   rw [a1, a2, a3]
   simp only [List.append_assoc]
  ·refine .inl fun kn' => ?_
   have hje : j + 1 = (acu b g).length := by omega
   unfold am4
   rw [show ((j : Int) + 1) = (((acu b g).length : Nat) : Int) by rw [← hje]; push_cast; rfl, acJ]
   dsimp only
   rw [aci hi (by omega)]
   rw [ahP _ hg, take_succ hg, List.flatMap_append, List.flatten_append, e2, e3, show j = (acu b g).length - 1 by omega]
   simp only [List.flatMap_cons, List.flatMap_nil, List.append_nil, List.flatten_cons, List.flatten_nil]
   rfl
 ·try dsimp only
  unfold am5
  rw [acJ, List.take_length]
  have hls := gls b.2.1.length
  rw [List.take_length] at hls
  have cl : ∀ i, i ≤ b.2.2.2.2.1.length → ((b.2.2.2.2.1.take i).flatMap (acQ b)).length = 2 * i ∧ (((b.2.2.2.2.1.take i).mapIdx fun i _ => [((3 : Int), (i : Int)), ((3 : Int), (i : Int))]).flatten).length = 2 * i := by
   intro i
   induction i with
   | zero => intro _; simp
   | succ i ih =>
     intro hi
     have ih := ih (by omega)
     have hg : b.2.2.2.2.1[i]? = some b.2.2.2.2.1[i] := List.getElem?_eq_getElem hi
     rw [ahP _ hg, take_succ hg, List.flatMap_append, List.flatten_append, List.length_append, List.length_append]
     simp only [List.flatMap_cons, List.flatMap_nil, List.append_nil, List.flatten_cons, List.flatten_nil, acQ, List.length_cons, List.length_nil]
     omega
  refine ada b.2.2.2.2.1 (fun i => (b.2.1.flatMap (ac2 b) ++ (b.2.2.2.2.1.take i).flatMap (acQ b), (b.2.1.mapIdx (adw b)).flatten ++ ((b.2.2.2.2.1.take i).mapIdx fun i _ => [((3 : Int), (i : Int)), ((3 : Int), (i : Int))]).flatten)) _ (by simp) (fun i c hi hc kn' => ?_) (fun kn' => ?_)
  ·try dsimp only
   unfold am3
   have hcm := List.mem_of_getElem? hc
   have hn := (ahd c).1 (h.nums hcm)
   have ha := aeV hn.2.2.2.2.2.1
   have hb := aeV hn.2.2.2.2.2.2
   have sb := ay5 h hcm
   have c1 := cl i (by omega)
   rw [acm hi, acg hc, alo (by omega) (by omega), ab1, aQK _ _ _ (by dsimp only; omega), ab1, alo (by omega) (by omega), ab1, aQK _ _ _ (by dsimp only; omega), ab1]
   rw [show anp ((b.1.1, b.1.2), b.2.1, b.2.2.1, b.2.2.2.1, b.2.2.2.2.1, b.2.2.2.2.2) c = anp b c from rfl, h.says hcm, ab1]
   rw [acs (by omega) (by omega), acn (by simp only [List.length_append, List.length_cons, List.length_nil]; omega), Am.iff_true, acn (by simp only [List.length_append, List.length_cons, List.length_nil]; omega), Am.iff_true, aci hi (by omega), ahP _ hc, take_succ hc, List.flatMap_append, List.flatten_append]
   simp only [List.flatMap_cons, List.flatMap_nil, List.append_nil, List.flatten_cons, List.flatten_nil, List.append_assoc, Int.zero_sub]
   rfl
  ·try dsimp only
   unfold am3
   rw [acJ, List.take_length]
   rfl
end Go.Proofs.ZzM
end
noncomputable section
namespace Go.Proofs.ZzM
open Go Go.Am
section
variable {ρ : Type}
def wv (w : List Bool) (v : Int) : Bool := w[v.toNat]?.getD false
theorem aLU {w : List Bool} {u v : Int} (hu : 0 ≤ u) (hv : 0 ≤ v) (h : u.toNat < w.length) (y : Bool) : wv (w.set u.toNat y) v = if v = u then y else wv w v := by
 unfold wv
 rw [List.getElem?_set]
 by_cases hvu : v = u
 ·subst hvu; simp [h]
 ·have : ¬ u.toNat = v.toNat := by omega
  simp [hvu, this]
theorem agK {x : List Int} {v : Int} (h : v.toNat < x.length) (f : Int → Option ρ) : aft x v.toNat f = f (gv x v) := amx (aME h) f
theorem aFe {w : List Bool} {v : Int} (h : v.toNat < w.length) (f : Bool → Option ρ) : aft w v.toNat f = f (wv w v) := by
 refine amx ?_ f
 unfold wv; rw [List.getElem?_eq_getElem h]; rfl
theorem af8 {v : Int} {n : Nat} (h0 : 0 ≤ v) (h1 : v < n) (x : Option ρ) : acS ((ile 0 v) && (ilt v (n : Int))) x = x := by
 have : ((ile 0 v) && (ilt v (n : Int))) = true := by simp [ile, ilt, h0, h1]
 rw [this, Am.iff_true]
end
def aj1 (n least : Int) : List Lk → List Int → List Bool → List Int → Bool × List Int × List Bool × List Int
 | [], x, w, q => (true, x, w, q)
 | l :: t, x, w, q =>
   if l.1 ≠ n then aj1 n least t x w q else
   if gv x l.2.1 ≤ gv x n + l.2.2 then aj1 n least t x w q else
   if gv x n + l.2.2 < least then (false, x.set l.2.1.toNat (gv x n + l.2.2), w, q) else
   if wv w l.2.1 then aj1 n least t (x.set l.2.1.toNat (gv x n + l.2.2)) w q else aj1 n least t (x.set l.2.1.toNat (gv x n + l.2.2)) (w.set l.2.1.toNat true) (q ++ [l.2.1])
structure afH (L : List Lk) (N : Nat) (M : Int) : Prop where
 inr : InR L N
 noloop : ∀ l ∈ L, l.1 ≠ l.2.1
 most : ∀ l ∈ L, -M ≤ l.2.2 ∧ l.2.2 ≤ M
 len : L.length ≤ 400
 nodes : N ≤ 1000
 m0 : 0 ≤ M
 m1 : M ≤ 4503599627370496
set_option maxHeartbeats 1000000 in
theorem aRK {ρ : Type} {L : List Lk} {N : Nat} {M : Int} (hL : afH L N M) {n least : Int} (hn : 0 ≤ n ∧ n < N) {x : List Int} {w : List Bool} {q : List Int} (hx : x.length = N) (hw : w.length = N) (hq : q.length ≤ 1000000)
 (hb : -2305843009213693952 ≤ gv x n ∧ gv x n ≤ 2305843009213693952) (K0 : (Val (.pair .bool (.pair (.slice tI) (.pair (.slice .bool) (.slice tI))))) → Option ρ) (K1 : (Val (.pair (.slice tI) (.pair (.slice .bool) (.slice tI)))) → Option ρ) :
 acj (fun (v47 : (Val (.pair tI (.pair (.slice tI) (.pair (.slice .bool) (.slice tI)))))) kk52 => af5 [] least n L (acx L) v47.1 v47.2.1 v47.2.2.1 v47.2.2.2 (fun u48 u49 u50 u51 => kk52 (u48, u49, u50, u51)) K0 K1) ((0 : Int), x, w, q) =
  match aj1 n least L x w q with
  | (true, r) => K1 r
  | (false, r) => K0 (false, r) := by
 have hlen := hL.len
 refine ayF L (fun i (s : List Int × List Bool × List Int) t => match aj1 n least t s.1 s.2.1 s.2.2 with | (true, r) => K1 r | (false, r) => K0 (false, r))
  (fun i s => s.1.length = N ∧ s.2.1.length = N ∧ gv s.1 n = gv x n ∧ s.2.2.length ≤ 1000000 + i) (fun s hs kn => ?_) (fun i l t s hd hi hl hI kn hk => ?_) (s := (x, w, q)) ⟨hx, hw, rfl, by simpa using hq⟩
 ·try dsimp only
  unfold af5
  rw [acJ]
  rfl
 ·obtain ⟨y, u, p⟩ := s
  obtain ⟨h1, h2, h3, h4⟩ := hI
  dsimp only at h1 h2 h3 h4 hk ⊢
  have hmem : l ∈ L := List.mem_of_getElem? hl
  have hr := hL.inr l hmem
  have hm := hL.most l hmem
  have hm1 := hL.m1
  have hnl := hL.noloop l hmem
  unfold af5
  rw [acm hi, acg hl]
  unfold aj1
  by_cases hln : l.1 = n
  ·have e0 : ine l.1 n = false := by simp [ine, hln]
   rw [ack e0]
   have e1 : ∀ (f : Bool → Option ρ) (g : Option ρ), aHi (k := tI) (v := .bool) (i : Int) [] f g = g := fun f g => rfl
   rw [e1, if_neg (by simp [hln])]
   have tn : n.toNat < y.length := by omega
   have tt : l.2.1.toNat < y.length := by omega
   have tu : l.2.1.toNat < u.length := by omega
   rw [af8 hn.1 (by omega), agK tn, acs (by omega) (by omega), af8 hr.2.1 (by omega), agK tt, adJ]
   by_cases hge : gv y l.2.1 ≤ gv y n + l.2.2
   ·rw [if_pos (by simpa [ige] using hge), if_pos hge, aci hi (by omega)]
    exact hk (y, u, p) ⟨h1, h2, h3, by dsimp only; omega⟩
   ·rw [if_neg (by simpa [ige] using hge), if_neg hge]
    have hset : gv (y.set l.2.1.toNat (gv y n + l.2.2)) n = gv x n := by
     rw [apk hr.2.1 hn.1 tt, if_neg (fun h => hnl (hln.trans h)), h3]
    have hself : gv (y.set l.2.1.toNat (gv y n + l.2.2)) l.2.1 = gv y n + l.2.2 := by
     rw [apk hr.2.1 hr.2.1 tt, if_pos rfl]
    rw [af8 hn.1 (by omega), agK tn, acs (by omega) (by omega), af8 hr.2.1 (by omega), agK tt]
    rw [show (adD (List.set y l.2.1.toNat (gv y n + l.2.2))) = ((y.length : Nat) : Int) by simp [adD]]
    rw [af8 hr.2.1 (by omega), agK (by simpa using tt), hself, adJ]
    by_cases hlt : gv y n + l.2.2 < least
    ·rw [if_pos (by simpa [ilt] using hlt), if_pos hlt]
    ·rw [if_neg (by simpa [ilt] using hlt), if_neg hlt, af8 hr.2.1 (by omega), aFe tu, adJ]
     cases hwv : wv u l.2.1 with
     | true =>
       rw [if_neg (by simp), if_pos rfl, aci hi (by omega)]
       exact hk (y.set l.2.1.toNat (gv y n + l.2.2), u, p) ⟨by simpa using h1, h2, hset, by dsimp only; omega⟩
     | false =>
       rw [if_pos (by simp), if_neg (by simp), acn (by simp only [List.length_singleton]; omega), Am.iff_true, af8 hr.2.1 (by omega), aFe tu, aci hi (by omega)]
       exact hk (y.set l.2.1.toNat (gv y n + l.2.2), u.set l.2.1.toNat true, p ++ [l.2.1]) ⟨by simpa using h1, by simpa using h2, hset, by simp only [List.length_append, List.length_singleton]; omega⟩
  ·have e0 : ine l.1 n = true := by simp [ine, hln]
   rw [acv e0, if_pos hln, aci hi (by omega)]
   exact hk (y, u, p) ⟨h1, h2, h3, by dsimp only; omega⟩
structure aSu (N : Nat) (n least : Int) (L : List Lk) (x : List Int) (q : List Int) (x' : List Int) (w' : List Bool) (q' : List Int) : Prop where
 lx : x'.length = N
 lw : w'.length = N
 same : gv x' n = gv x n
 le : ∀ v : Int, 0 ≤ v → v < N → gv x' v ≤ gv x v
 link : ∀ v m, (n, v, m) ∈ L → gv x' v ≤ gv x n + m
 chg : ∀ v : Int, 0 ≤ v → v < N → gv x' v = gv x v ∨ (v ∈ q' ∧ gv x' v < gv x v ∧ ∃ m, (n, v, m) ∈ L ∧ gv x' v = gv x n + m ∧ least ≤ gv x' v)
 new : ∃ l, q' = q ++ l ∧ ∀ v ∈ l, (0 ≤ v ∧ v < N) ∧ gv x' v < gv x v
 nodup : q'.Nodup
 waits : ∀ v : Int, 0 ≤ v → v < N → (wv w' v = true ↔ v ∈ q')
theorem ag1 {N : Nat} {n least : Int} (hn : 0 ≤ n ∧ n < N) : ∀ {L : List Lk}, InR L N → (∀ l ∈ L, l.1 ≠ l.2.1) → ∀ {x : List Int} {w : List Bool} {q : List Int}, x.length = N → w.length = N → q.Nodup → (∀ v : Int, 0 ≤ v → v < N → (wv w v = true ↔ v ∈ q)) →
 ∀ {x' : List Int} {w' : List Bool} {q' : List Int}, aj1 n least L x w q = (true, x', w', q') → aSu N n least L x q x' w' q'
 | [], _, _, x, w, q, hx, hw, hq, hwq, x', w', q', h => by
   cases h
   exact ⟨hx, hw, rfl, fun _ _ _ => Int.le_refl _, fun _ _ h => (by cases h), fun _ _ _ => .inl rfl, ⟨[], by simp, fun _ h => by cases h⟩, hq, hwq⟩
 | l :: t, hL, hnl, x, w, q, hx, hw, hq, hwq, x', w', q', h => by
   have hLt : InR t N := fun l hl => hL l (by simp [hl])
   have hnt : ∀ l ∈ t, l.1 ≠ l.2.1 := fun l hl => hnl l (by simp [hl])
   have hr := hL l (by simp)
   have hl0 := hnl l (by simp)
   unfold aj1 at h
   split at h
   ·rename_i hne
    have a := ag1 hn hLt hnt hx hw hq hwq h
    exact ⟨a.lx, a.lw, a.same, a.le, fun v m hm => by
     rcases List.mem_cons.1 hm with rfl | hm
     ·exact (hne rfl).elim
     ·exact a.link v m hm, fun v h0 h1 => (a.chg v h0 h1).imp id fun ⟨g1, g2, m, g3, g4⟩ => ⟨g1, g2, m, by simp [g3], g4⟩, a.new, a.nodup, a.waits⟩
   ·rename_i hne
    have hln : l.1 = n := by simpa using hne
    split at h
    ·rename_i hle
     have a := ag1 hn hLt hnt hx hw hq hwq h
     exact ⟨a.lx, a.lw, a.same, a.le, fun v m hm => by
      rcases List.mem_cons.1 hm with rfl | hm
      ·have := a.le v hr.2.1 hr.2.2; simp only at hle; omega
      ·exact a.link v m hm, fun v h0 h1 => (a.chg v h0 h1).imp id fun ⟨g1, g2, m, g3, g4⟩ => ⟨g1, g2, m, by simp [g3], g4⟩, a.new, a.nodup, a.waits⟩
    ·rename_i hgt
     split at h
     ·cases h
     ·rename_i hls
      have tt : l.2.1.toNat < x.length := by omega
      have tw : l.2.1.toNat < w.length := by omega
      have hy : (x.set l.2.1.toNat (gv x n + l.2.2)).length = N := by simpa using hx
      have hyn : gv (x.set l.2.1.toNat (gv x n + l.2.2)) n = gv x n := by
       rw [apk hr.2.1 hn.1 tt, if_neg (fun h => hl0 (hln.trans h))]
      have hyv : ∀ v, 0 ≤ v → gv (x.set l.2.1.toNat (gv x n + l.2.2)) v = if v = l.2.1 then gv x n + l.2.2 else gv x v := fun v h0 => apk hr.2.1 h0 tt _
      have hlm : (n, l.2.1, l.2.2) ∈ l :: t := by rw [← hln]; simp
      -- what both ways have in common
      have fin : ∀ {w1 : List Bool} {q1 : List Int}, aSu N n least t (x.set l.2.1.toNat (gv x n + l.2.2)) q1 x' w' q' → l.2.1 ∈ q1 → (∃ l', q1 = q ++ l' ∧ ∀ v ∈ l', v = l.2.1) → aSu N n least (l :: t) x q x' w' q' := by
       intro w1 q1 a hmem hq1
       obtain ⟨new, hnew, hnv⟩ := a.new
       obtain ⟨l', hl', hlv⟩ := hq1
       have hto : gv x' l.2.1 ≤ gv x n + l.2.2 := by
        have := a.le l.2.1 hr.2.1 hr.2.2
        rw [hyv _ hr.2.1, if_pos rfl] at this
        exact this
       refine ⟨a.lx, a.lw, a.same.trans hyn, fun v h0 h1 => ?_, fun v m hm => ?_, fun v h0 h1 => ?_, ⟨l' ++ new, by rw [hnew, hl', List.append_assoc], fun v hv => ?_⟩, a.nodup, a.waits⟩
       ·have := a.le v h0 h1
        rw [hyv v h0] at this
        split at this
        ·rename_i e; subst e; omega
        ·exact this
       ·rcases List.mem_cons.1 hm with rfl | hm
        ·exact hto
        ·have := a.link v m hm
         rwa [hyn] at this
       ·rcases a.chg v h0 h1 with g | ⟨g1, g2, m, g3, g4, g5⟩
        ·rw [hyv v h0] at g
         split at g
         ·rename_i e
          subst e
          exact .inr ⟨by rw [hnew]; exact List.mem_append_left _ hmem, by omega, l.2.2, hlm, g, by omega⟩
         ·exact .inl g
        ·rw [hyv v h0] at g2
         rw [hyn] at g4
         refine .inr ⟨g1, ?_, m, by simp [g3], g4, g5⟩
         split at g2
         ·rename_i e; subst e; omega
         ·exact g2
       ·rcases List.mem_append.1 hv with hv | hv
        ·rw [hlv v hv]; exact ⟨hr.2, by omega⟩
        ·obtain ⟨g1, g2⟩ := hnv v hv
         rw [hyv v g1.1] at g2
         refine ⟨g1, ?_⟩
         split at g2
         ·rename_i e; subst e; omega
         ·exact g2
      split at h
      ·rename_i hwt
       exact fin (w1 := w) (ag1 hn hLt hnt hy hw hq hwq h) ((hwq _ hr.2.1 hr.2.2).1 hwt) ⟨[], by simp, fun _ h => by cases h⟩
      ·rename_i hwt
       have hnq : l.2.1 ∉ q := fun hc => hwt ((hwq _ hr.2.1 hr.2.2).2 hc)
       refine fin (w1 := w.set l.2.1.toNat true) (ag1 hn hLt hnt hy (by simpa using hw) ?_ ?_ h) (by simp) ⟨[l.2.1], rfl, fun v hv => by simpa using hv⟩
       ·rw [List.nodup_append]
        exact ⟨hq, by simp, fun a ha b hb => by simp at hb; subst hb; exact fun e => hnq (e ▸ ha)⟩
       ·intro v h0 h1
        rw [aLU hr.2.1 h0 tw]
        by_cases hv : v = l.2.1
        ·simp [hv]
        ·simp only [hv, if_false, List.mem_append, List.mem_singleton, or_false]
         exact hwq v h0 h1
theorem aiI {n least : Int} : ∀ {L : List Lk}, (∀ l ∈ L, l.1 ≠ l.2.1) → (∀ l ∈ L, 0 ≤ l.2.1) → 0 ≤ n → ∀ {x : List Int} {w : List Bool} {q : List Int} {r}, aj1 n least L x w q = (false, r) → ∃ v m, (n, v, m) ∈ L ∧ gv x n + m < least
 | [], _, _, _, x, w, q, r, h => by cases h
 | l :: t, hnl, h0, hn, x, w, q, r, h => by
   have hnt : ∀ l ∈ t, l.1 ≠ l.2.1 := fun l hl => hnl l (by simp [hl])
   have h0t : ∀ l ∈ t, 0 ≤ l.2.1 := fun l hl => h0 l (by simp [hl])
   have up : (∃ v m, (n, v, m) ∈ t ∧ gv x n + m < least) → ∃ v m, (n, v, m) ∈ l :: t ∧ gv x n + m < least := fun ⟨v, m, g1, g2⟩ => ⟨v, m, by simp [g1], g2⟩
   unfold aj1 at h
   split at h
   ·exact up (aiI hnt h0t hn h)
   ·rename_i hne
    have hln : l.1 = n := by simpa using hne
    split at h
    ·exact up (aiI hnt h0t hn h)
    ·split at h
     ·rename_i hlt
      exact ⟨l.2.1, l.2.2, by rw [← hln]; simp, hlt⟩
     ·have hyn : gv (x.set l.2.1.toNat (gv x n + l.2.2)) n = gv x n := by
       unfold gv
       rw [List.getElem?_set]
       have h1 := hnl l (by simp)
       have h2 := h0 l (by simp)
       have : ¬ l.2.1.toNat = n.toNat := by omega
       simp [this]
      split at h
      ·have := aiI hnt h0t hn h
       rw [hyn] at this
       exact up this
      ·have := aiI hnt h0t hn h
       rw [hyn] at this
       exact up this
end Go.Proofs.ZzM
end
noncomputable section
namespace Go.Proofs.ZzM
open Go Go.Am
theorem aMq {ρ : Type} {L : List Lk} {N : Nat} {M : Int} (hL : afH L N M) {n least : Int} (hn : 0 ≤ n ∧ n < N) {x : List Int} {w : List Bool} {t rest : List Int} (hx : x.length = N) (hw : w.length = N) (ht : t.length = N) (hq : rest.length ≤ 1000000)
 (hb : -2305843009213693952 ≤ gv x n ∧ gv x n ≤ 2305843009213693952) (htn : 0 ≤ gv t n ∧ gv t n ≤ 1000000) (kn : List Int → List Bool → List Int → List Int → Option ρ) (k0 : (Val (.pair .bool (.pair (.slice tI) (.pair (.slice .bool) (.pair (.slice tI) (.slice tI)))))) → Option ρ) :
 ads [] least (N : Int) L x w t (n :: rest) kn k0 =
  if (N : Int) + 1 < gv t n + 1 then k0 (false, x, w.set n.toNat false, t.set n.toNat (gv t n + 1), rest) else
  match aj1 n least L x (w.set n.toNat false) rest with
  | (true, x', w', q') => kn x' w' (t.set n.toNat (gv t n + 1)) q'
  | (false, x', w', q') => k0 (false, x', w', t.set n.toNat (gv t n + 1), q') := by
 have hN := hL.nodes
 have tn : n.toNat < x.length := by omega
 have tw : n.toNat < w.length := by omega
 have tt : n.toNat < t.length := by omega
 unfold ads
 have e0 : ieq (acx (n :: rest)) 0 = false := by
  rw [acL]
  simp only [ieq, List.length_cons, beq_eq_false_iff_ne, ne_eq]
  omega
 have e1 : ilt (0 : Int) (adD (n :: rest)) = true := by simp [ilt, adD]
 have e2 : ile (1 : Int) (adD (n :: rest)) = true := by simp [ile, adD]; omega
 have e3 : decide (1 + (List.length (n :: rest) - 1) = List.length (n :: rest)) = true := by simp; omega
 rw [ack e0, adI e1]
 rw [show aft (n :: rest) 0 = fun (f : Int → Option ρ) => f n from rfl]
 try dsimp only
 rw [adI e2, adI e3, af8 hn.1 (by omega), aFe tw, af8 hn.1 (by omega), agK tt, acs (by omega) (by omega), af8 hn.1 (by omega), agK tt]
 rw [show (adD (List.set t n.toNat (gv t n + 1))) = ((t.length : Nat) : Int) by simp [adD]]
 rw [af8 hn.1 (by omega), agK (by simpa using tt), apk hn.1 hn.1 tt, if_pos rfl, acs (by omega) (by omega), adJ]
 rw [show List.drop 1 (n :: rest) = rest from rfl]
 by_cases hlt : (N : Int) + 1 < gv t n + 1
 ·rw [if_pos (by simpa [igt] using hlt), if_pos hlt]
 ·rw [if_neg (by simpa [igt] using hlt), if_neg hlt]
  rw [aRK hL hn hx (w := w.set n.toNat false) (by simpa using hw) hq hb]
  generalize aj1 n least L x (w.set n.toNat false) rest = r
  obtain ⟨b, x', w', q'⟩ := r
  cases b <;> rfl
theorem aO4 {ρ : Type} {L : List Lk} {N : Int} {least : Int} {x : List Int} {w : List Bool} {t : List Int} (kn : List Int → List Bool → List Int → List Int → Option ρ) (k0 : (Val (.pair .bool (.pair (.slice tI) (.pair (.slice .bool) (.pair (.slice tI) (.slice tI)))))) → Option ρ) :
 ads [] least N L x w t [] kn k0 = k0 (true, x, w, t, []) := by
 unfold ads
 have e0 : ieq (acx ([] : List Int)) 0 = true := by rw [acL]; rfl
 rw [acv e0]
def aGH (N : Nat) (t : List Int) : Nat := (t.map fun a => ((N : Int) + 2 - a).toNat).sum
theorem aMz (N : Nat) : ∀ (t : List Int) (i : Nat) (a b : Int), t[i]? = some a → a < b → a < (N : Int) + 2 → aGH N (t.set i b) < aGH N t
 | a0 :: t, 0, a, b, h, h1, h2 => by
   simp at h; subst h
   simp only [aGH, List.set_cons_zero, List.map_cons, List.sum_cons]
   omega
 | a0 :: t, i + 1, a, b, h, h1, h2 => by
   have := aMz N t i a b (by simpa using h) h1 h2
   simp only [aGH] at this
   simp only [aGH, List.set_cons_succ, List.map_cons, List.sum_cons]
   omega
theorem aJg {N : Nat} {t : List Int} {n : Int} (hn : n.toNat < t.length) (h : gv t n ≤ (N : Int) + 1) : aGH N (t.set n.toNat (gv t n + 1)) < aGH N t :=
 aMz N t n.toNat (gv t n) _ (aME hn) (by omega) (by omega)
structure aOu (L : List Lk) (S : Int → Prop) (N : Nat) (M : Int) (k : Nat) (A B : List Int) (x : List Int) (w : List Bool) (t q : List Int) : Prop where
 q_eq : q = A ++ B
 lx : x.length = N
 lw : w.length = N
 lt : t.length = N
 nodup : q.Nodup
 rng : ∀ v ∈ q, 0 ≤ v ∧ v < N
 waits : ∀ v : Int, 0 ≤ v → v < N → (wv w v = true ↔ v ∈ q)
 t0 : ∀ v : Int, 0 ≤ v → v < N → 0 ≤ gv t v ∧ gv t v ≤ (k : Int) + 1
 tA : ∀ v ∈ A, gv t v ≤ k
 low : ∀ vs v d, Wl L S vs v d → vs.length ≤ k → gv x v ≤ d
 nxt : ∀ vs u d, Wl L S vs u d → vs.length ≤ k → u ∉ A → ∀ v m, (u, v, m) ∈ L → gv x v ≤ d + m
 rel : ∀ u : Int, 0 ≤ u → u < N → u ∉ q → gv x u ≠ afr → ∀ v m, (u, v, m) ∈ L → gv x v ≤ gv x u + m
 att : ∀ v : Int, 0 ≤ v → v < N → gv x v ≠ afr → ∃ vs, Wl L S vs v (gv x v)
 bd : ∀ v : Int, 0 ≤ v → v < N → gv x v = afr ∨ gv x v ≤ ((k : Int) + 1) * M
 bA : ∀ v ∈ A, gv x v ≤ (k : Int) * M
 fin : ∀ v ∈ q, gv x v < afr
 kN : k + 1 ≤ N
 last : k + 1 = N → B = []
section
variable {L : List Lk} {S : Int → Prop} {N : Nat} {M : Int} {p : Int → Int} {k : Nat} {A B x : List Int} {w : List Bool} {t q : List Int}
theorem ayx {a b : Nat} {M : Int} (h : a ≤ b) (hM : 0 ≤ M) : (a : Int) * M ≤ (b : Int) * M := Int.mul_le_mul_of_nonneg_right (by omega) hM
theorem Wl.lt_free (hL : afH L N M) (hNM : N * M < afr) {vs : List Int} {v d : Int} (hw : Wl L S vs v d) (h : vs.length ≤ N) : d < afr := by
 have h1 := hw.high fun l hl => (hL.most l hl).2
 have h2 := ayx h hL.m0
 omega
theorem aOu.next (hL : afH L N M) (hNM : N * M < afr) (hS : ∀ v, S v → 0 ≤ v ∧ v < N) (h : aOu L S N M k [] B x w t q) (hB : B ≠ []) : aOu L S N M (k + 1) B [] x w t q := by
 have hM := hL.m0
 have hq : q = B := by simpa using h.q_eq
 have hk : k + 1 ≠ N := fun e => hB (h.last e)
 have hkN := h.kN
 have low' : ∀ vs v d, Wl L S vs v d → vs.length ≤ k + 1 → gv x v ≤ d := by
  intro vs v d hw hl
  cases hw with
  | nil hs => exact h.low [] v 0 (.nil hs) (by simp)
  | @step vs u _ m d hw hlk => exact h.nxt vs u d hw (by simpa using hl) (by simp) v m hlk
 refine ⟨by simp [hq], h.lx, h.lw, h.lt, h.nodup, h.rng, h.waits, fun v h0 h1 => ⟨(h.t0 v h0 h1).1, by have := (h.t0 v h0 h1).2; push_cast; omega⟩, fun v hv => ?_, low', fun vs u d hw hl hu v m hlk => ?_, h.rel, h.att, fun v h0 h1 => ?_, fun v hv => ?_, h.fin, by omega, fun _ => rfl⟩
 ·have := h.rng v (by rw [hq]; exact hv)
  have := (h.t0 v this.1 this.2).2
  push_cast; omega
 ·have h1 := low' vs u d hw hl
  have h2 := hw.lt_free hL hNM (by omega)
  have h3 := (hw.range hL.inr hS).1
  have := h.rel u h3.1 h3.2 (by rw [hq]; exact hu) (by omega) v m hlk
  omega
 ·rcases h.bd v h0 h1 with h2 | h2
  ·exact .inl h2
  ·refine .inr ?_
   have := ayx (show k + 1 ≤ k + 1 + 1 by omega) hM
   push_cast at this ⊢
   omega
 ·have h1 := h.rng v (by rw [hq]; exact hv)
  have h2 := h.fin v (by rw [hq]; exact hv)
  rcases h.bd v h1.1 h1.2 with h3 | h3
  ·omega
  ·push_cast; exact h3
theorem aOu.step {n : Int} {A' : List Int} {least : Int} {x' : List Int} {w' : List Bool} {q' : List Int} (hL : afH L N M) (hNM : N * M < afr) (hp : Pot L p) (hS : ∀ v, S v → 0 ≤ v ∧ v < N) (h : aOu L S N M k (n :: A') B x w t q)
 (ha : aSu N n least L x (A' ++ B) x' w' q') : ∃ B', aOu L S N M k A' B' x' w' (t.set n.toNat (gv t n + 1)) q' := by
 have hM := hL.m0
 have hq : q = n :: (A' ++ B) := by simpa using h.q_eq
 have hkN := h.kN
 have hnr := h.rng n (by rw [hq]; simp)
 have hnf := h.fin n (by rw [hq]; simp)
 have hnd : n ∉ A' ++ B := by have := h.nodup; rw [hq, List.nodup_cons] at this; exact this.1
 have htn : n.toNat < t.length := by have := h.lt; omega
 have tset : ∀ v, 0 ≤ v → gv (t.set n.toNat (gv t n + 1)) v = if v = n then gv t n + 1 else gv t v := fun v h0 => apk hnr.1 h0 htn _
 have hkM : ((k : Int) + 1) * M < afr := by
  have := ayx hkN hM
  push_cast at this
  omega
 have xle : ∀ v : Int, 0 ≤ v → v < N → gv x v ≤ afr := fun v h0 h1 => by rcases h.bd v h0 h1 with h2 | h2 <;> omega
 obtain ⟨l, hl, hlv⟩ := ha.new
 have att' : ∀ v : Int, 0 ≤ v → v < N → gv x' v ≠ afr → ∃ vs, Wl L S vs v (gv x' v) := by
  intro v h0 h1 hne
  rcases ha.chg v h0 h1 with g | ⟨_, _, m, g3, g4, _⟩
  ·rw [g] at hne ⊢; exact h.att v h0 h1 hne
  ·obtain ⟨vs, hw⟩ := h.att n hnr.1 hnr.2 (by omega)
   rw [g4]; exact ⟨_, hw.step g3⟩
 refine ⟨B ++ l, by rw [hl, List.append_assoc], ha.lx, ha.lw, by rw [List.length_set]; exact h.lt, ha.nodup, fun v hv => ?_, ha.waits, fun v h0 h1 => ?_, fun v hv => ?_, fun vs v d hw hlen => ?_, fun vs u d hw hlen hu v m hlk => ?_,
  fun u h0 h1 hu hf v m hlk => ?_, att', fun v h0 h1 => ?_, fun v hv => ?_, fun v hv => ?_, hkN, fun hk => ?_⟩
 ·rw [hl] at hv
  rcases List.mem_append.1 hv with hv | hv
  ·exact h.rng v (by rw [hq]; simp only [List.mem_cons]; exact .inr hv)
  ·exact (hlv v hv).1
 ·rw [tset v h0]
  have h2 := h.t0 v h0 h1
  split
  ·have h3 := h.tA n (by simp)
   have h4 := h.t0 n hnr.1 hnr.2
   omega
  ·exact h2
 ·have h1 := h.rng v (by rw [hq]; simp [hv])
  rw [tset v h1.1, if_neg (fun e => hnd (by rw [← e]; simp [hv]))]
  exact h.tA v (by simp [hv])
 ·have h1 := h.low vs v d hw hlen
  have h2 := (hw.range hL.inr hS).1
  have := ha.le v h2.1 h2.2
  omega
 ·have hvr := (hL.inr _ hlk).2
  by_cases hun : u = n
  ·subst hun
   have h1 := ha.link v m hlk
   have h2 := h.low vs u d hw hlen
   omega
  ·have h1 := h.nxt vs u d hw hlen (by simp [hun, hu]) v m hlk
   have := ha.le v hvr.1 hvr.2
   omega
 ·have hvr := (hL.inr _ hlk).2
  have heq : gv x' u = gv x u := by
   rcases ha.chg u h0 h1 with g | ⟨g, _⟩
   ·exact g
   ·exact (hu g).elim
  by_cases hun : u = n
  ·subst hun
   have h1 := ha.link v m hlk
   omega
  ·have hur : u ∉ q := by
    rw [hq]
    intro hc
    rcases List.mem_cons.1 hc with e | hc
    ·exact hun e
    ·exact hu (by rw [hl]; exact List.mem_append_left _ hc)
   have h2 := h.rel u h0 h1 hur (by rw [← heq]; exact hf) v m hlk
   have := ha.le v hvr.1 hvr.2
   omega
 ·rcases ha.chg v h0 h1 with g | ⟨_, _, m, g3, g4, _⟩
  ·rw [g]; exact h.bd v h0 h1
  ·have h2 := h.bA n (by simp)
   have h3 := (hL.most _ g3).2
   simp only at h3
   refine .inr ?_
   rw [g4, Int.add_mul, Int.one_mul]
   omega
 ·have h1 := h.rng v (by rw [hq]; simp [hv])
  have h2 := h.bA v (by simp [hv])
  have := ha.le v h1.1 h1.2
  omega
 ·rw [hl] at hv
  rcases List.mem_append.1 hv with hv | hv
  ·have h1 := h.rng v (by rw [hq]; simp only [List.mem_cons]; exact .inr hv)
   have h2 := h.fin v (by rw [hq]; simp only [List.mem_cons]; exact .inr hv)
   have := ha.le v h1.1 h1.2
   omega
  ·obtain ⟨g1, g2⟩ := hlv v hv
   have := xle v g1.1 g1.2
   omega
 ·rw [h.last hk]
  cases l with
  | nil => rfl
  | cons v l =>
    exfalso
    obtain ⟨g1, g2⟩ := hlv v (by simp)
    have := xle v g1.1 g1.2
    obtain ⟨vs, hw⟩ := att' v g1.1 g1.2 (by omega)
    obtain ⟨vs', d', k1, k2, k3⟩ := hw.simple hp
    have k4 := k1.short hL.inr hS k3
    have := h.low vs' v d' k1 (by omega)
    omega
theorem aOu.done (hL : afH L N M) (hNM : N * M < afr) (hp : Pot L p) (hS : ∀ v, S v → 0 ≤ v ∧ v < N) (h : aOu L S N M k A B x w t []) : aOv L S N (gv x) := by
 have hkN := h.kN
 have hM := hL.m0
 have hkM : ((k : Int) + 1) * M < afr := by
  have := ayx hkN hM
  push_cast at this
  omega
 have key : ∀ vs v d, Wl L S vs v d → vs.length + 1 ≤ N → gv x v ≤ d := by
  intro vs v d hw
  induction hw with
  | nil hs => intro _; exact h.low [] _ 0 (.nil hs) (by simp)
  | @step vs u v m d hw hlk ih =>
    intro hlen
    simp only [List.length_cons] at hlen
    have h1 := ih (by omega)
    have h2 := hw.lt_free hL hNM (by omega)
    have h3 := (hw.range hL.inr hS).1
    have := h.rel u h3.1 h3.2 (by simp) (by omega) v m hlk
    omega
 refine ⟨h.att, fun v vs d hw => ?_, fun v h0 h1 => ?_⟩
 ·obtain ⟨vs', d', k1, k2, k3⟩ := hw.simple hp
  have := key vs' v d' k1 (k1.short hL.inr hS k3)
  omega
 ·rcases h.bd v h0 h1 with h2 | h2 <;> omega
theorem aHw {ρ : Type} {r : Option ρ} (hL : afH L N M) (hNM : N * M < afr) (hp : Pot L p) (hS : ∀ v, S v → 0 ≤ v ∧ v < N) (k0 : (Val (.pair .bool (.pair (.slice tI) (.pair (.slice .bool) (.pair (.slice tI) (.slice tI)))))) → Option ρ)
 (hK : ∀ x w t q, x.length = N → aOv L S N (gv x) → k0 (true, x, w, t, q) = r) (h : aOu L S N M k A B x w t q) :
 acj (fun (v64 : (Val (.pair (.slice tI) (.pair (.slice .bool) (.pair (.slice tI) (.slice tI)))))) kk69 => ads [] (ayw L) (N : Int) L v64.1 v64.2.1 v64.2.2.1 v64.2.2.2 (fun u65 u66 u67 u68 => kk69 (u65, u66, u67, u68)) k0) (x, w, t, q) = r := by
 refine afE (fun s : List Int × List Bool × List Int × List Int => ∃ k A B, aOu L S N M k A B s.1 s.2.1 s.2.2.1 s.2.2.2) (fun s => aGH N s.2.2.1) ?_ ⟨k, A, B, h⟩
 rintro ⟨x, w, t, q⟩ ⟨k, A, B, h⟩
 dsimp only at h ⊢
 have hN := hL.nodes
 cases q with
 | nil => exact .inl fun kn => by rw [aO4]; exact hK x w t [] h.lx (h.done hL hNM hp hS)
 | cons n rest =>
   -- the phase in which the first one is
   have hph : ∃ k A' B, aOu L S N M k (n :: A') B x w t (n :: rest) := by
    cases A with
    | nil =>
      have hB : B = n :: rest := by simpa using h.q_eq.symm
      subst hB
      exact ⟨k + 1, rest, [], h.next hL hNM hS (by simp)⟩
    | cons a A' =>
      have := h.q_eq
      simp only [List.cons_append, List.cons.injEq] at this
      obtain ⟨rfl, _⟩ := this
      exact ⟨k, A', B, h⟩
   clear h k A B
   obtain ⟨k, A', B, h⟩ := hph
   have hrest : rest = A' ++ B := by have := h.q_eq; simpa using this
   have hnr := h.rng n (by simp)
   have hnf := h.fin n (by simp)
   have hkN := h.kN
   have h1 := h.tA n (by simp)
   have h2 := h.t0 n hnr.1 hnr.2
   obtain ⟨vs, hw⟩ := h.att n hnr.1 hnr.2 (by omega)
   have hlow := hw.low' hp
   have hneg : -(400 * 4503599627370496) ≤ ayw L := by
    have : ∀ L' : List Lk, (∀ l ∈ L', -M ≤ l.2.2) → -((L'.length : Int) * M) ≤ ayw L' := by
     intro L'
     induction L' with
     | nil => intro _; simp [ayw, axM]
     | cons l t ih =>
       intro hh
       have i1 := ih fun l hl => hh l (by simp [hl])
       have i2 := hh l (by simp)
       have i3 := hL.m0
       unfold ayw at i1 ⊢
       simp only [axM, if_true, List.length_cons, Int.natCast_succ, Int.add_mul, Int.one_mul]
       omega
    have h3 := this L fun l hl => (hL.most l hl).1
    have h4 : (L.length : Int) * M ≤ 400 * 4503599627370496 := Int.mul_le_mul (by have := hL.len; omega) hL.m1 hL.m0 (by omega)
    omega
   have hrl : rest.length ≤ 1000000 := by
    have := aMh N (n :: rest) h.nodup h.rng
    simp only [List.length_cons] at this
    omega
   refine .inr ?_
   have hw' : (w.set n.toNat false).length = N := by rw [List.length_set]; exact h.lw
   cases hr : aj1 n (ayw L) L x (w.set n.toNat false) rest with
   | mk b r' =>
   obtain ⟨x', w', q'⟩ := r'
   cases b with
   | false =>
     exfalso
     obtain ⟨v, m, g1, g2⟩ := aiI hL.noloop (fun l hl => (hL.inr l hl).2.1) hnr.1 hr
     have := (hw.step g1).low' hp
     omega
   | true =>
     have hnd := h.nodup
     rw [List.nodup_cons] at hnd
     have ha := ag1 hnr hL.inr hL.noloop h.lx hw' hnd.2 (fun v h0 h1 => by
      rw [aLU hnr.1 h0 (by have := h.lw; omega)]
      by_cases hv : v = n
      ·subst hv; simp [hnd.1]
      ·rw [if_neg hv, h.waits v h0 h1]
       simp [hv]) hr
     rw [hrest] at ha
     obtain ⟨B', hB'⟩ := h.step hL hNM hp hS ha
     refine ⟨(x', w', t.set n.toNat (gv t n + 1), q'), ⟨k, A', B', hB'⟩, aJg (by have := h.lt; omega) (by omega), fun kn => ?_⟩
     have hF : afr = 1152921504606846976 := rfl
     rw [aMq hL hnr h.lx h.lw h.lt hrl (by constructor <;> omega) (by constructor <;> omega), if_neg (by omega), hr]
end
end Go.Proofs.ZzM
end
noncomputable section
namespace Go.Proofs.ZzM
open Go Go.Am
theorem azr (f : Lk → Bool) : ∀ (L L' : List Lk), axM f (L ++ L') = axM f L + axM f L'
 | [], L' => by simp [axM]
 | l :: t, L' => by
   simp only [List.cons_append, axM, azr f t L']
   omega
theorem aH8 {L : List Lk} {i : Nat} {l : Lk} (h : L[i]? = some l) : ayw (L.take (i + 1)) = ayw (L.take i) + min l.2.2 0 := by
 rw [take_succ h, ayw, ayw, azr]
 simp [axM]
theorem imin0 (e : Int) : aKc e 0 = min e 0 := by
 unfold aKc
 split <;> omega
theorem aFf {L : List Lk} {M : Int} (h : ∀ l ∈ L, -M ≤ l.2.2) (hM : 0 ≤ M) : -((L.length : Int) * M) ≤ ayw L := by
 induction L with
 | nil => simp [ayw, axM]
 | cons l t ih =>
   have i1 := ih fun l hl => h l (by simp [hl])
   have i2 := h l (by simp)
   unfold ayw at i1 ⊢
   simp only [axM, if_true, List.length_cons, Int.natCast_succ, Int.add_mul, Int.one_mul]
   omega
theorem aTf (L : List Lk) : ayw L ≤ 0 := amy _ L
section
variable {ρ : Type} {L : List Lk} {N : Nat} {M : Int}
theorem aMA (hL : afH L N M) (k0 : Int → Option ρ) : acj (fun (v75 : Val ab3) kk78 => afl L (acx L) v75.1 v75.2 (fun u76 u77 => kk78 (u76, u77)) k0) ((0 : Int), (0 : Int)) = k0 (ayw L) := by
 refine afE (fun x : Int × Int => ∃ i : Nat, i ≤ L.length ∧ x = (ayw (L.take i), (i : Int))) (fun x => L.length - x.2.toNat) ?_ ⟨0, by omega, rfl⟩
 rintro x ⟨i, hi, rfl⟩
 have hlen := hL.len
 rcases Nat.lt_or_ge i L.length with h | h
 ·have hl : L[i]? = some L[i] := List.getElem?_eq_getElem h
  refine .inr ⟨(ayw (L.take (i + 1)), (i : Int) + 1), ⟨i + 1, h, by simp⟩, by simp; omega, fun kn => ?_⟩
  try dsimp only
  unfold afl
  have hb : ∀ j, j ≤ L.length → -(400 * 4503599627370496) ≤ ayw (L.take j) := by
   intro j hj
   have h1 := aFf (L := L.take j) (fun l hl => (hL.most l (List.mem_of_mem_take hl)).1) hL.m0
   have h2 : ((L.take j).length : Int) * M ≤ 400 * 4503599627370496 := Int.mul_le_mul (by rw [List.length_take]; omega) hL.m1 hL.m0 (by omega)
   omega
  have h1 := hb i hi
  have h2 := hb (i + 1) h
  have h3 := aTf (L.take i)
  rw [aH8 hl] at h2
  rw [acm h, acg hl, imin0, acs (by omega) (by omega), aci h (by omega), aH8 hl]
 ·refine .inl fun kn => ?_
  have : i = L.length := by omega
  subst this
  try dsimp only
  unfold afl
  rw [acJ, List.take_length]
theorem aOL {x : List Int} (hx : x.length = N) (hN : N ≤ 1000) {r : Option ρ} (k0 : (Val (.pair (.slice .bool) (.slice tI))) → Option ρ)
 (hK : ∀ (w : List Bool) (q : List Int), w.length = N → q.Nodup → (∀ v ∈ q, 0 ≤ v ∧ v < N) → (∀ v : Int, 0 ≤ v → v < N → (wv w v = true ↔ v ∈ q)) → (∀ v : Int, 0 ≤ v → v < N → (v ∈ q ↔ gv x v ≠ afr)) → k0 (w, q) = r) :
 acj (fun (v70 : (Val (.pair tI (.pair (.slice .bool) (.slice tI))))) kk74 => ad2 (N : Int) x v70.1 v70.2.1 v70.2.2 (fun u71 u72 u73 => kk74 (u71, u72, u73)) k0) ((0 : Int), (List.replicate N false), ([] : List Int)) = r := by
 refine afE (fun s : Int × List Bool × List Int => ∃ i : Nat, i ≤ N ∧ s.1 = i ∧ s.2.1.length = N ∧ s.2.2.Nodup ∧ s.2.2.length ≤ i ∧ (∀ v ∈ s.2.2, 0 ≤ v ∧ v < i) ∧ (∀ v : Int, 0 ≤ v → v < N → (wv s.2.1 v = true ↔ v ∈ s.2.2)) ∧ (∀ v : Int, 0 ≤ v → v < i → (v ∈ s.2.2 ↔ gv x v ≠ afr))) (fun s => N - s.1.toNat) ?_
  ⟨0, by omega, rfl, by simp, by simp, by simp, by simp, fun v h0 h1 => ?_, fun v h0 h1 => by omega⟩
 ·rintro ⟨s, w, q⟩ ⟨i, hi, h1, h2, h3, h4, h5, h6, h7⟩
  simp only at h1 h2 h3 h4 h5 h6 h7
  subst h1
  rcases Nat.lt_or_ge i N with h | h
  ·refine .inr ?_
   have hix : i < x.length := by omega
   have hiw : i < w.length := by omega
   have hnq : ((i : Int)) ∉ q := fun hc => by have := (h5 _ hc).2; omega
   by_cases hf : gv x i = afr
   ·refine ⟨((i : Int) + 1, w, q), ⟨i + 1, h, by simp, h2, h3, by simp only; omega, fun v hv => ⟨(h5 v hv).1, by have := (h5 v hv).2; push_cast; omega⟩, h6, fun v h0 h1 => ?_⟩, by simp; omega, fun kn => ?_⟩
    ·by_cases hv : v = i
     ·subst hv; simp [hf, hnq]
     ·exact h7 v h0 (by push_cast at h1; omega)
    ·try dsimp only
     unfold ad2
     have e : ilt (i : Int) (N : Int) = true := by simp [ilt, h]
     rw [acv e, afR hix, agK (by simpa using hix)]
     have e2 : ine (gv x i) 1152921504606846976 = false := by simp [ine, hf]
     rw [ack e2, aci h (by omega)]
   ·refine ⟨((i : Int) + 1, w.set i true, q ++ [(i : Int)]), ⟨i + 1, h, by simp, by simpa using h2, ?_, by simp; omega, fun v hv => ?_, fun v h0 h1 => ?_, fun v h0 h1 => ?_⟩, by simp; omega, fun kn => ?_⟩
    ·rw [List.nodup_append]
     exact ⟨h3, by simp, fun a ha b hb => by simp at hb; subst hb; exact fun e => hnq (e ▸ ha)⟩
    ·rcases List.mem_append.1 hv with hv | hv
     ·exact ⟨(h5 v hv).1, by have := (h5 v hv).2; push_cast; omega⟩
     ·simp at hv; subst hv; push_cast; omega
    ·have := aLU (w := w) (u := (i : Int)) (by omega) h0 (by simpa using hiw) true
     rw [Int.toNat_natCast] at this
     show wv (w.set i true) v = true ↔ v ∈ q ++ [(i : Int)]
     rw [this]
     by_cases hv : v = i
     ·simp [hv]
     ·simp only [hv, if_false, List.mem_append, List.mem_singleton, or_false]
      exact h6 v h0 h1
    ·show v ∈ q ++ [(i : Int)] ↔ _
     by_cases hv : v = i
     ·subst hv; simp [hf]
     ·simp only [List.mem_append, List.mem_singleton, hv, or_false]
      exact h7 v h0 (by push_cast at h1; omega)
    ·try dsimp only
     unfold ad2
     have e : ilt (i : Int) (N : Int) = true := by simp [ilt, h]
     rw [acv e, afR hix, agK (by simpa using hix)]
     have e2 : ine (gv x i) 1152921504606846976 = true := by simp [ine, hf]
     rw [acv e2, acn (by simp only [List.length_singleton]; omega), Am.iff_true, afR hiw, aFe (by simpa using hiw), aci h (by omega), Int.toNat_natCast]
  ·refine .inl fun kn => ?_
   have : i = N := by omega
   subst this
   try dsimp only
   unfold ad2
   have e : ilt (i : Int) (i : Int) = false := by simp [ilt]
   rw [ack e]
   exact hK w q h2 h3 h5 h6 h7
 ·have : wv (List.replicate N false) v = false := by
   unfold wv
   rw [List.getElem?_replicate]
   split <;> rfl
  simp [this]
theorem aDy (hL : afH L N M) (hN : 1 ≤ N) {S : Int → Bool} (hS : ∀ v, S v = true → 0 ≤ v ∧ v < N) {w : List Bool} {q : List Int} (hw : w.length = N) (hq : q.Nodup) (hr : ∀ v ∈ q, 0 ≤ v ∧ v < N) (hwq : ∀ v : Int, 0 ≤ v → v < N → (wv w v = true ↔ v ∈ q)) (hqs : ∀ v : Int, 0 ≤ v → v < N → (v ∈ q ↔ gv (ams S N) v ≠ afr)) :
 aOu L (fun v => S v = true) N M 0 q [] (ams S N) w (List.replicate N 0) q := by
 have ht : ∀ v : Int, 0 ≤ v → v < N → gv (List.replicate N (0 : Int)) v = 0 := by
  intro v h0 h1
  unfold gv
  rw [List.getElem?_replicate]
  split <;> rfl
 have hg : ∀ v : Int, 0 ≤ v → v < N → (v ∈ q ↔ S v = true) := by
  intro v h0 h1
  rw [hqs v h0 h1, afS S h0 h1]
  cases S v <;> simp [afr]
 have hM := hL.m0
 refine ⟨by simp, acZ S N, hw, by simp, hq, hr, hwq, fun v h0 h1 => ?_, fun v hv => ?_, fun vs v d hw hl => ?_, fun vs u d hw hl hu v m hlk => ?_, fun u h0 h1 hu hf v m hlk => ?_, fun v h0 h1 hf => ?_, fun v h0 h1 => ?_, fun v hv => ?_, fun v hv => ?_, by omega, fun _ => rfl⟩
 ·rw [ht v h0 h1]; omega
 ·have := hr v hv
  rw [ht v this.1 this.2]; omega
 ·cases hw with
  | nil hs =>
    have := hS v hs
    rw [afS S this.1 this.2, if_pos hs]; omega
  | step => simp at hl
 ·cases hw with
  | nil hs =>
    have := hS u hs
    exact (hu ((hg u this.1 this.2).2 hs)).elim
  | step => simp at hl
 ·rw [afS S h0 h1] at hf
  have := mt (hg u h0 h1).2 hu
  rw [if_neg this] at hf
  exact (hf rfl).elim
 ·rw [afS S h0 h1] at hf ⊢
  split at hf
  ·rename_i hs
   rw [if_pos hs]; exact ⟨[], .nil hs⟩
  ·exact (hf rfl).elim
 ·rw [afS S h0 h1]
  split
  ·exact .inr (by simp [hM])
  ·exact .inl rfl
 ·have h1 := hr v hv
  rw [afS S h1.1 h1.2, if_pos ((hg v h1.1 h1.2).1 hv)]; simp
 ·have h1 := hr v hv
  rw [afS S h1.1 h1.2, if_pos ((hg v h1.1 h1.2).1 hv)]; simp [afr]
structure Bad (L : List Lk) (N : Nat) (x : List Int) (w : List Bool) (t q : List Int) : Prop where
 lx : x.length = N
 lw : w.length = N
 lt : t.length = N
 nodup : q.Nodup
 rng : ∀ v ∈ q, 0 ≤ v ∧ v < N
 waits : ∀ v : Int, 0 ≤ v → v < N → (wv w v = true ↔ v ∈ q)
 t0 : ∀ v : Int, 0 ≤ v → v < N → 0 ≤ gv t v ∧ gv t v ≤ (N : Int) + 1
 bd : ∀ v : Int, 0 ≤ v → v < N → -2305843009213693952 ≤ gv x v ∧ gv x v ≤ 0
 rel : ∀ u : Int, 0 ≤ u → u < N → u ∉ q → ∀ v m, (u, v, m) ∈ L → gv x v ≤ gv x u + m
theorem aRe {r : Option ρ} {x : List Int} {w : List Bool} {t q : List Int} (hL : afH L N M) (hp : ¬ ∃ p, Pot L p) (k0 : (Val (.pair .bool (.pair (.slice tI) (.pair (.slice .bool) (.pair (.slice tI) (.slice tI)))))) → Option ρ)
 (hK : ∀ x w t q, k0 (false, x, w, t, q) = r) (h : Bad L N x w t q) :
 acj (fun (v64 : (Val (.pair (.slice tI) (.pair (.slice .bool) (.pair (.slice tI) (.slice tI)))))) kk69 => ads [] (ayw L) (N : Int) L v64.1 v64.2.1 v64.2.2.1 v64.2.2.2 (fun u65 u66 u67 u68 => kk69 (u65, u66, u67, u68)) k0) (x, w, t, q) = r := by
 refine afE (fun s : List Int × List Bool × List Int × List Int => Bad L N s.1 s.2.1 s.2.2.1 s.2.2.2) (fun s => aGH N s.2.2.1) ?_ h
 rintro ⟨x, w, t, q⟩ h
 dsimp only at h ⊢
 have hN := hL.nodes
 cases q with
 | nil =>
   exfalso
   exact hp ⟨gv x, fun u v m hl => h.rel u (hL.inr _ hl).1.1 (hL.inr _ hl).1.2 (by simp) v m hl⟩
 | cons n rest =>
   have hnr := h.rng n (by simp)
   have hb := h.bd n hnr.1 hnr.2
   have ht := h.t0 n hnr.1 hnr.2
   have hrl : rest.length ≤ 1000000 := by
    have := aMh N (n :: rest) h.nodup h.rng
    simp only [List.length_cons] at this
    omega
   have hout := fun (kn : List Int → List Bool → List Int → List Int → Option ρ) => aMq (ρ := ρ) hL (least := ayw L) hnr h.lx h.lw h.lt hrl ⟨hb.1, by omega⟩ ⟨ht.1, by omega⟩ kn k0
   by_cases hlt : (N : Int) + 1 < gv t n + 1
   ·exact .inl fun kn => by rw [hout, if_pos hlt]; exact hK _ _ _ _
   ·have hw' : (w.set n.toNat false).length = N := by rw [List.length_set]; exact h.lw
    cases hr : aj1 n (ayw L) L x (w.set n.toNat false) rest with
    | mk b r' =>
    obtain ⟨x', w', q'⟩ := r'
    cases b with
    | false => exact .inl fun kn => by rw [hout, if_neg hlt, hr]; exact hK _ _ _ _
    | true =>
      have hnd := h.nodup
      rw [List.nodup_cons] at hnd
      have htl : n.toNat < t.length := by have := h.lt; omega
      have ha := ag1 hnr hL.inr hL.noloop h.lx hw' hnd.2 (fun v h0 h1 => by
       rw [aLU hnr.1 h0 (by have := h.lw; omega)]
       by_cases hv : v = n
       ·subst hv; simp [hnd.1]
       ·rw [if_neg hv, h.waits v h0 h1]
        simp [hv]) hr
      obtain ⟨l, hl, hlv⟩ := ha.new
      refine .inr ⟨(x', w', t.set n.toNat (gv t n + 1), q'), ⟨ha.lx, ha.lw, by rw [List.length_set]; exact h.lt, ha.nodup, fun v hv => ?_, ha.waits, fun v h0 h1 => ?_, fun v h0 h1 => ?_, fun u h0 h1 hu v m hlk => ?_⟩, aJg htl (by omega), fun kn => by rw [hout, if_neg hlt, hr]⟩
      ·dsimp only at hv
       rw [hl] at hv
       rcases List.mem_append.1 hv with hv | hv
       ·exact h.rng v (by simp [hv])
       ·exact (hlv v hv).1
      ·try dsimp only
       rw [apk hnr.1 h0 htl]
       have := h.t0 v h0 h1
       split <;> omega
      ·try dsimp only
       have h2 := h.bd v h0 h1
       rcases ha.chg v h0 h1 with g | ⟨_, g2, m, g3, g4, g5⟩
       ·rw [g]; exact h2
       ·have h3 := aFf (L := L) (fun l hl => (hL.most l hl).1) hL.m0
        have h4 : (L.length : Int) * M ≤ 400 * 4503599627370496 := Int.mul_le_mul (by have := hL.len; omega) hL.m1 hL.m0 (by omega)
        omega
      ·dsimp only at hu ⊢
       have hvr := (hL.inr _ hlk).2
       have heq : gv x' u = gv x u := by
        rcases ha.chg u h0 h1 with g | ⟨g, _⟩
        ·exact g
        ·exact (hu g).elim
       by_cases hun : u = n
       ·subst hun
        have h1 := ha.link v m hlk
        omega
       ·have hur : u ∉ n :: rest := by
         intro hc
         rcases List.mem_cons.1 hc with e | hc
         ·exact hun e
         ·exact hu (by rw [hl]; exact List.mem_append_left _ hc)
        have h2 := h.rel u h0 h1 hur v m hlk
        have := ha.le v hvr.1 hvr.2
        omega
end
def aOt (N : Nat) (v : Int) : Bool := decide (0 ≤ v) && decide (v < (N : Int))
def aPc (s : Int) (v : Int) : Bool := v == s
theorem aHv (N : Nat) : ams (aOt N) N = List.replicate N 0 := by
 refine aMF (by simp [acZ]) fun v h0 h1 => ?_
 rw [acZ] at h1
 rw [afS _ h0 h1]
 have : aOt N v = true := by simp [aOt, h0, h1]
 rw [if_pos this]
 unfold gv
 rw [List.getElem?_replicate]
 split <;> rfl
def afT (L : List Lk) (N : Nat) : List Int := ahc L N (ams (aOt N) N)
def adC (L : List Lk) (N : Nat) : Bool := decide (axK L (afT L N) = afT L N)
def alw (L : List Lk) (N : Nat) (s : Int) : List Int := ahc L N (ams (aPc s) N)
section
variable {L : List Lk} {N : Nat} {M : Int}
theorem aRy (hL : afH L N M) (hN : N ≤ 200) : N * M < afr := by
 have : (N : Int) * M ≤ 200 * 4503599627370496 := Int.mul_le_mul (by omega) hL.m1 hL.m0 (by omega)
 unfold afr
 omega
theorem au3 {p : Int → Int} (hL : afH L N M) (hN : N ≤ 200) (hp : Pot L p) : aOv L (fun v => aOt N v = true) N (gv (afT L N)) :=
 azd hp hL.inr (fun v h => by simpa [aOt] using h) (fun l hl => (hL.most l hl).2) hL.m0 (aRy hL hN) N (by omega)
theorem agd {p : Int → Int} (hL : afH L N M) (hN : N ≤ 200) (hp : Pot L p) {s : Int} (hs : 0 ≤ s ∧ s < N) : aOv L (fun v => aPc s v = true) N (gv (alw L N s)) :=
 azd hp hL.inr (fun v h => by simp [aPc] at h; subst h; exact hs) (fun l hl => (hL.most l hl).2) hL.m0 (aRy hL hN) N (by omega)
theorem aHQ : ∀ {L : List Lk} {x : List Int}, (∀ u v m, (u, v, m) ∈ L → gv x u < afr → gv x v ≤ gv x u + m) → axK L x = x
 | [], x, _ => rfl
 | l :: t, x, h => by
   have h1 : ahG x l = x := by
    unfold ahG
    split
    ·rename_i hc
     have := h l.1 l.2.1 l.2.2 (by simp) hc.1
     omega
    ·rfl
   show axK t (ahG x l) = x
   rw [h1]
   exact aHQ fun u v m hm => h u v m (by simp [hm])
theorem aex (hL : afH L N M) (hN : N ≤ 200) : adC L N = true ↔ ∃ p, Pot L p := by
 unfold adC
 rw [decide_eq_true_eq]
 have hle : ∀ v : Int, 0 ≤ v → v < N → gv (afT L N) v ≤ 0 := by
  intro v h0 h1
  have := asA hL.inr N (acZ (aOt N) N) v h0
  rw [afS _ h0 h1, if_pos (by simp [aOt, h0, h1])] at this
  exact this
 constructor
 ·intro h
  refine ⟨gv (afT L N), fun u v m hl => ?_⟩
  have hr := (hL.inr _ hl).1
  have := avb hL.inr (x := afT L N) (by unfold afT; rw [aeg, acZ]) u v m hl (by have := hle u hr.1 hr.2; unfold afr; omega)
  rwa [h] at this
 ·rintro ⟨p, hp⟩
  have hd := au3 hL hN hp
  exact aHQ fun u v m hl hf => hd.pot hL.inr hl (by omega)
end
end Go.Proofs.ZzM
end
noncomputable section
namespace Go.Proofs.ZzM
open Go Go.Am
section
variable {ρ : Type} {L : List Lk} {N : Nat} {M : Int}
theorem auA (hN : N ≤ 1000) (x : Option ρ) : acS ((ile (0 : Int) (N : Int)) && (acK (Int.toNat (N : Int)))) x = x := by
 rw [Int.toNat_natCast, acn (by omega)]
 have : ((ile (0 : Int) (N : Int)) && true) = true := by simp [ile]
 rw [this, Am.iff_true]
theorem aKv (hL : afH L N M) (h1 : 1 ≤ N) (hN : N ≤ 200) (k0 : (Val (.pair .bool (.pair (.slice tI) (.pair (.slice .bool) (.pair (.slice tI) (.slice tI)))))) → Option ρ) {rT rF : Option ρ}
 (hT : adC L N = true → ∀ w t q, k0 (true, afT L N, w, t, q) = rT) (hF : ∀ x w t q, k0 (false, x, w, t, q) = rF) :
 (acj (fun (v70 : (Val (.pair tI (.pair (.slice .bool) (.slice tI))))) kk74 => ad2 (N : Int) (List.replicate N (0 : Int)) v70.1 v70.2.1 v70.2.2 (fun u71 u72 u73 => kk74 (u71, u72, u73)) (fun z9 => acj (fun (v64 : (Val (.pair (.slice tI) (.pair (.slice .bool) (.pair (.slice tI) (.slice tI)))))) kk69 => ads [] (ayw L) (N : Int) L v64.1 v64.2.1 v64.2.2.1 v64.2.2.2 (fun u65 u66 u67 u68 => kk69 (u65, u66, u67, u68)) k0) ((List.replicate N (0 : Int)), z9.1, (List.replicate N (0 : Int)), z9.2))) ((0 : Int), (List.replicate N false), ([] : List Int))) = if adC L N then rT else rF := by
 refine aOL (by simp) (by omega) _ fun w q hw hq hr hwq hqs => ?_
 try dsimp only
 have hS : ∀ v, aOt N v = true → 0 ≤ v ∧ v < N := fun v h => by simpa [aOt] using h
 by_cases ho : adC L N = true
 ·rw [if_pos ho]
  obtain ⟨p, hp⟩ := (aex hL hN).1 ho
  have hs := aDy hL h1 hS hw hq hr hwq (fun v a b => by rw [aHv]; exact hqs v a b)
  rw [aHv] at hs
  refine aHw hL (aRy hL hN) hp hS k0 (fun x w t q hx hd => ?_) hs
  have : x = afT L N := by
   refine aMF (by rw [hx]; unfold afT; rw [aeg, acZ]) fun v a b => ?_
   exact hd.uniq (au3 hL hN hp) a (by omega)
  rw [this]; exact hT ho w t q
 ·rw [if_neg ho]
  refine aRe hL (fun hp => ho ((aex hL hN).2 hp)) k0 hF ?_
  have hg : ∀ v, gv (List.replicate N (0 : Int)) v = 0 := by
   intro v
   unfold gv
   rw [List.getElem?_replicate]
   split <;> rfl
  refine ⟨by simp, hw, by simp, hq, hr, hwq, fun v a b => ?_, fun v a b => ?_, fun u a b hu v m hl => ?_⟩
  ·rw [hg]; omega
  ·rw [hg]; omega
  ·exact (hu ((hqs u a b).2 (by rw [hg]; unfold afr; omega))).elim
end
theorem shift_ok {ρ : Type} {x : List Int} (f : Int) (hx : x.length ≤ 1000) (hf : -2305843009213693952 ≤ f ∧ f ≤ 2305843009213693952) (hb : ∀ a ∈ x, -2305843009213693952 ≤ a ∧ a ≤ 2305843009213693952) (k0 : List Int → Option ρ) :
 acj (fun (v60 : (Val (.pair tI (.slice tI)))) kk63 => af4 f (acx x) v60.1 v60.2 (fun u61 u62 => kk63 (u61, u62)) k0) ((0 : Int), x) = k0 (x.map fun a => a - f) := by
 refine ada x (fun i => (x.take i).map (fun a => a - f) ++ x.drop i) _ (by simp) (fun i a hi ha kn => ?_) (fun kn => ?_)
 ·try dsimp only
  unfold af4
  have hlen : ((x.take i).map (fun a => a - f) ++ x.drop i).length = x.length := by simp; omega
  have hget : ((x.take i).map (fun a => a - f) ++ x.drop i)[i]? = some a := by
   rw [List.getElem?_append_right (by simp; omega)]
   simp only [List.length_map, List.length_take, List.getElem?_drop]
   rw [← ha]; congr 1; omega
  have hi' : i < ((x.take i).map (fun a => a - f) ++ x.drop i).length := by omega
  have ha' := hb a (List.mem_of_getElem? ha)
  rw [acm hi, afR hi', aep hget, acs (by omega) (by omega), afR hi', aep hget, aci hi (by omega), Int.toNat_natCast, take_succ ha]
  congr 2
  rw [List.drop_eq_getElem_cons hi, List.map_append, List.append_assoc, List.set_append_right _ _ (by simp; omega)]
  have : i - (List.map (fun a => a - f) (List.take i x)).length = 0 := by simp; omega
  rw [this]
  have h1 : x[i] = a := by rw [List.getElem?_eq_getElem hi] at ha; simpa using ha
  simp [h1]
 ·try dsimp only
  unfold af4
  rw [acJ]
  simp
section
variable {L : List Lk} {N : Nat} {M : Int}
theorem aRg (hL : afH L N M) (hN : N ≤ 200) (ho : adC L N = true) : ∀ a ∈ afT L N, -2305843009213693952 ≤ a ∧ a ≤ 0 := by
 obtain ⟨p, hp⟩ := (aex hL hN).1 ho
 have hd := au3 hL hN hp
 intro a ha
 obtain ⟨i, hi, rfl⟩ := List.mem_iff_getElem.1 ha
 have hlen : (afT L N).length = N := by unfold afT; rw [aeg, acZ]
 have h0 : gv (afT L N) i = (afT L N)[i] := by unfold gv; simp [hi]
 have hle := asA hL.inr N (acZ (aOt N) N) (i : Int) (by omega)
 rw [afS _ (by omega) (by omega), if_pos (by simp [aOt]; omega)] at hle
 have hle' : gv (afT L N) i ≤ 0 := hle
 obtain ⟨vs, hw⟩ := hd.att i (by omega) (by omega) (by unfold afr; omega)
 have h1 := hw.low' hp
 have h3 := aFf (L := L) (fun l hl => (hL.most l hl).1) hL.m0
 have h4 : (L.length : Int) * M ≤ 400 * 4503599627370496 := Int.mul_le_mul (by have := hL.len; omega) hL.m1 hL.m0 (by omega)
 omega
def solP (L : List Lk) (N : Nat) : List Int := (afT L N).map fun a => a - gv (afT L N) 0
theorem arm (hL : afH L N M) (h1 : 1 ≤ N) (hN : N ≤ 200) : ag3 ((N : Int), L) [] = some (if adC L N then (solP L N, true) else ([], false)) := by
 unfold ag3 aoS
 try dsimp only
 rw [auA (by omega), auA (by omega), auA (by omega), Int.toNat_natCast]
 refine Eq.trans (aMA hL _) ?_
 refine Eq.trans (aKv hL h1 hN _ (rT := some (solP L N, true)) (rF := some ([], false)) (fun ho w t q => ?_) (fun x w t q => ?_)) ?_
 ·try dsimp only
  have hlen : (afT L N).length = N := by unfold afT; rw [aeg, acZ]
  have hb := aRg hL hN ho
  have h0 : ilt (0 : Int) (adD (afT L N)) = true := decide_eq_true (show (0 : Int) < ((afT L N).length : Int) by omega)
  have hg : (afT L N)[0]? = some (gv (afT L N) 0) := aME (v := 0) (show 0 < _ by omega)
  have hm := hb _ (List.mem_of_getElem? hg)
  rw [show (!true) = false from rfl, acM, adI h0, amx hg]
  exact shift_ok _ (by omega) ⟨hm.1, by omega⟩ (fun a ha => ⟨(hb a ha).1, by have := (hb a ha).2; omega⟩) _
 ·rfl
 ·cases adC L N <;> rfl
structure afo (L : List Lk) (N : Nat) : Prop where
 n1 : 1 ≤ N
 n60 : N ≤ 60
 len : L.length ≤ 300
 inr : InR L N
 noloop : ∀ l ∈ L, l.1 ≠ l.2.1
 most : ∀ l ∈ L, -4503599627370496 ≤ l.2.2 ∧ l.2.2 ≤ 4503599627370496
theorem afo.links (h : afo L N) : afH L N 4503599627370496 :=
 ⟨h.inr, h.noloop, h.most, by have := h.len; omega, by have := h.n60; omega, by omega, by omega⟩
theorem afo.sub {L' : List Lk} (h : afo L N) (hs : ∀ l ∈ L', l ∈ L) (hl : L'.length ≤ L.length) : afo L' N :=
 ⟨h.n1, h.n60, by have := h.len; omega, fun l hm => h.inr l (hs l hm), fun l hm => h.noloop l (hs l hm), fun l hm => h.most l (hs l hm)⟩
theorem azq (n : Int) (L : List Lk) (v : Int) : akY (n, L) v = some (decide (0 ≤ v) && decide (v < n)) := by
 unfold akY aFS ige
 by_cases h : 0 ≤ v
 ·have : decide (v ≥ 0) = true := by simpa using h
  rw [acv this]; simp [h]
 ·have : decide (v ≥ 0) = false := by simpa using h
  rw [ack this]; simp [h]
theorem ahA (h : afo L N) : aiP ((N : Int), L) = some (0, -1) := by
 have h1 := h.n1
 have h2 := h.n60
 have h3 := h.len
 unfold aiP aAe
 try dsimp only
 rw [ack (by simp [ilt]; omega), ack (by simp [igt]; omega), ack (by rw [acL]; simp [igt]; omega)]
 refine Eq.trans (af7 L (fun _ => false) (fun i => some (1, i)) (some (0, -1)) (fun i l hi hl kn => ?_) (fun kn => ?_)) ?_
 ·try dsimp only
  unfold akJ
  have hm := List.mem_of_getElem? hl
  have a := h.inr l hm
  have b := h.noloop l hm
  have c := h.most l hm
  have e1 : (decide (0 ≤ l.1) && decide (l.1 < (N : Int))) = true := by simp [a.1.1, a.1.2]
  have e2 : (decide (0 ≤ l.2.1) && decide (l.2.1 < (N : Int))) = true := by simp [a.2.1, a.2.2]
  rw [acm hi, acg hl, azq, ab1, e1, azq, ab1, e2]
  simp only [Bool.not_true, acM, Bool.false_eq_true, if_false]
  rw [ack (by simp [ieq, b]), ack (by simp [ilt]; omega), ack (by simp [igt]; omega), aci hi (by omega)]
 ·try dsimp only
  unfold akJ
  rw [acJ]
 ·rw [List.findIdx?_eq_none_iff.2 (by simp)]
theorem apj {ρ : Type} {x : List Int} {v : Int} (h0 : 0 ≤ v) (h : v.toNat < x.length) (f : Int → Option ρ) : adO x v f = f (gv x v) := by
 obtain ⟨i, rfl⟩ := Int.eq_ofNat_of_zero_le h0
 exact acg (aME h) f
end
end Go.Proofs.ZzM
end
noncomputable section
namespace Go.Proofs.ZzM
open Go Go.Am
section
variable {b : acq}
theorem asn (b : acq) (g : acO) : (acu b g).Pairwise (· < ·) := aKn _
theorem aJF (h : adk b) {g : acO} (hg : g ∈ b.2.1) : ∃ t, acu b g = g.2.1 :: t := by
 have h1 := asn b g
 have h2 := aip (b := b) g
 have h3 : ∀ d ∈ acu b g, g.2.1 ≤ d := fun d hd => (h.day hg hd).1
 cases hd : acu b g with
 | nil => rw [hd] at h2; cases h2
 | cons a t =>
   rw [hd] at h1 h2 h3
   rw [List.pairwise_cons] at h1
   rcases List.mem_cons.1 h2 with e | e
   ·exact ⟨t, by rw [e]⟩
   ·have := h1.1 _ e
    have := h3 a (by simp)
    omega
def off (b : acq) (i : Nat) : Nat := ((b.2.1.take i).flatMap fun g => (acu b g).map fun d => ((g.1, d) : Int × Int)).length
theorem ary {i : Nat} {g : acO} (hg : b.2.1[i]? = some g) : acd b = ((b.2.1.take i).flatMap fun g => (acu b g).map fun d => ((g.1, d) : Int × Int)) ++ (((acu b g).map fun d => ((g.1, d) : Int × Int)) ++ ((b.2.1.drop (i + 1)).flatMap fun g => (acu b g).map fun d => ((g.1, d) : Int × Int))) := by
 obtain ⟨hi, rfl⟩ := List.getElem?_eq_some_iff.1 hg
 have h1 : b.2.1 = b.2.1.take i ++ (b.2.1[i] :: b.2.1.drop (i + 1)) := by
  rw [← List.drop_eq_getElem_cons hi, List.take_append_drop]
 unfold acd
 conv => lhs; rw [h1]
 rw [List.flatMap_append, List.flatMap_cons]
theorem aFd (h : adk b) {i : Nat} {g : acO} (hg : b.2.1[i]? = some g) {k : Nat} {d : Int} (hk : (acu b g)[k]? = some d) : ags (acd b) g.1 d = some (off b i + k) := by
 obtain ⟨hi, hgi⟩ := List.getElem?_eq_some_iff.1 hg
 obtain ⟨hkl, hkd⟩ := List.getElem?_eq_some_iff.1 hk
 unfold ags
 rw [ary hg, List.findIdx?_append, List.findIdx?_append]
 have h1 : List.findIdx? (fun n : Int × Int => decide (g.1 = n.1) && decide (d = n.2)) ((b.2.1.take i).flatMap fun g => (acu b g).map fun d => ((g.1, d) : Int × Int)) = none := by
  rw [List.findIdx?_eq_none_iff]
  intro x hx
  obtain ⟨g', hg', hx⟩ := List.mem_flatMap.1 hx
  obtain ⟨d', _, rfl⟩ := List.mem_map.1 hx
  obtain ⟨j, hj, rfl⟩ := List.mem_iff_getElem.1 hg'
  rw [List.length_take] at hj
  rw [List.getElem_take]
  have := (List.pairwise_iff_getElem.1 h.ids) j i (by omega) hi (by omega)
  rw [hgi] at this
  simp only [Bool.and_eq_false_iff, decide_eq_false_iff_not]
  exact .inl (by omega)
 have h2 : List.findIdx? (fun n : Int × Int => decide (g.1 = n.1) && decide (d = n.2)) ((acu b g).map fun d => ((g.1, d) : Int × Int)) = some k := by
  rw [List.findIdx?_eq_some_iff_getElem]
  refine ⟨by simpa using hkl, by simp [hkd], fun j hj => ?_⟩
  have := (List.pairwise_iff_getElem.1 (asn b g)) j k (by omega) hkl hj
  rw [hkd] at this
  simp only [List.getElem_map, Bool.and_eq_true, decide_eq_true_eq, not_and]
  intro _
  omega
 rw [h1, h2]
 simp only [Option.map_some, Option.some_or, Option.none_or]
 unfold off
 congr 1
 omega
theorem aRw {i : Nat} {g : acO} (hg : b.2.1[i]? = some g) {k : Nat} {d : Int} (hk : (acu b g)[k]? = some d) : (acd b)[off b i + k]? = some (g.1, d) := by
 obtain ⟨hkl, hkd⟩ := List.getElem?_eq_some_iff.1 hk
 rw [ary hg, List.getElem?_append_right (by unfold off; omega), List.getElem?_append_left (by unfold off; simp; omega)]
 unfold off
 simp [hk]
theorem aSm (h : adk b) {i : Nat} {g : acO} (hg : b.2.1[i]? = some g) : atP (acd b) [g.1] g.2.1 = (off b i : Int) + 1 := by
 obtain ⟨t, ht⟩ := aJF h (List.mem_of_getElem? hg)
 have := aFd h hg (k := 0) (d := g.2.1) (by rw [ht]; rfl)
 unfold atP
 simp only [this]
 rfl
theorem aTc (h : adk b) {i : Nat} {g : acO} (hg : b.2.1[i]? = some g) : off b i + (acu b g).length ≤ (acd b).length := by
 rw [ary hg]
 unfold off
 simp only [List.length_append, List.length_map]
 omega
theorem aRt {i : Nat} {g : acO} (hg : b.2.1[i]? = some g) : off b (i + 1) = off b i + (acu b g).length := by
 unfold off
 rw [take_succ hg, List.flatMap_append]
 simp
theorem aH7 (h : adk b) {c : Cmp} (hc : c ∈ b.2.2.2.2.1) {x : Int} (hx : (x ∈ c.2.2.1 ∧ x ∉ c.2.2.2.1) ∨ (x ∈ c.2.2.2.1 ∧ x ∉ c.2.2.1)) : ∃ j, ags (acd b) x c.2.1 = some j := by
 have hm : x ∈ c.2.2.1 ++ c.2.2.2.1 := by rw [List.mem_append]; exact hx.imp (·.1) (·.1)
 obtain ⟨⟨g, hg, _⟩, _⟩ := h.pile hc hm
 obtain ⟨hgm, hgx⟩ := akX hg
 obtain ⟨i, hi, hgi⟩ := List.mem_iff_getElem.1 hgm
 have hd : c.2.1 ∈ acu b g := aiR.2 (.inr (.inl ⟨c, hc, by
  rw [hgx]
  rcases hx with ⟨h1, h2⟩ | ⟨h1, h2⟩
  ·have e1 : c.2.2.1.contains x = true := by simpa using h1
   have e2 : c.2.2.2.1.contains x = false := by simpa using h2
   rw [e1, e2]; simp
  ·have e1 : c.2.2.2.1.contains x = true := by simpa using h1
   have e2 : c.2.2.1.contains x = false := by simpa using h2
   rw [e1, e2]; simp, rfl⟩))
 obtain ⟨k, hk, hkd⟩ := List.mem_iff_getElem.1 hd
 have := aFd h (g := g) (i := i) (by rw [List.getElem?_eq_getElem hi, hgi]) (k := k) (d := c.2.1) (by rw [List.getElem?_eq_getElem hk, hkd])
 rw [hgx] at this
 exact ⟨_, this⟩
inductive aOo (b : acq) (p : List Int) (d : Int) (n : Int) : Prop
 | none : p = [] → n = 0 → aOo b p d n
 | one (x : Int) (j : Nat) : p = [x] → ags (acd b) x d = some j → n = (j : Int) + 1 → aOo b p d n
theorem aGT (h : adk b) {c : Cmp} (hc : c ∈ b.2.2.2.2.1) : aOo b (ac6 c.2.2.1 c.2.2.2.1) c.2.1 (cx b c) := by
 have hl := (h.lefts hc).1
 cases hp : ac6 c.2.2.1 c.2.2.2.1 with
 | nil => exact .none rfl (by unfold cx atP; rw [hp])
 | cons x t =>
   rw [hp] at hl
   have : t = [] := by cases t with | nil => rfl | cons => simp at hl
   subst this
   obtain ⟨j, hj⟩ := aH7 h hc (x := x) (.inl (aiJ.1 (by rw [hp]; simp)))
   exact .one x j rfl hj (by unfold cx atP; rw [hp]; simp only [hj])
theorem aBu (h : adk b) {c : Cmp} (hc : c ∈ b.2.2.2.2.1) : aOo b (ac6 c.2.2.2.1 c.2.2.1) c.2.1 (cy b c) := by
 have hl := (h.lefts hc).2.1
 cases hp : ac6 c.2.2.2.1 c.2.2.1 with
 | nil => exact .none rfl (by unfold cy atP; rw [hp])
 | cons x t =>
   rw [hp] at hl
   have : t = [] := by cases t with | nil => rfl | cons => simp at hl
   subst this
   obtain ⟨j, hj⟩ := aH7 h hc (x := x) (.inr (aiJ.1 (by rw [hp]; simp)))
   exact .one x j rfl hj (by unfold cy atP; rw [hp]; simp only [hj])
theorem aOo.rng {p : List Int} {d n : Int} (h : aOo b p d n) : 0 ≤ n ∧ n < ((acd b).length + 1 : Nat) := by
 rcases h with ⟨_, h⟩ | ⟨x, j, _, h1, h2⟩
 ·omega
 ·have := (agW h1).1
  omega
theorem aMW (h : adk b) {c : Cmp} (hc : c ∈ b.2.2.2.2.1) : cx b c ≠ cy b c := by
 have hl := (h.lefts hc).2.2
 rcases aGT h hc with ⟨h1, h2⟩ | ⟨x, j, h1, h2, h3⟩
 ·rcases aBu h hc with ⟨g1, g2⟩ | ⟨y, k, g1, g2, g3⟩
  ·rw [h1, g1] at hl; simp at hl
  ·omega
 ·rcases aBu h hc with ⟨g1, g2⟩ | ⟨y, k, g1, g2, g3⟩
  ·omega
  ·intro e
   have : j = k := by omega
   subst this
   have e1 := (agW h2).2
   have e2 := (agW g2).2
   rw [e1] at e2
   simp only [Option.some.injEq, Prod.mk.injEq] at e2
   have m1 : x ∈ ac6 c.2.2.1 c.2.2.2.1 := by rw [h1]; simp
   have m2 : y ∈ ac6 c.2.2.2.1 c.2.2.1 := by rw [g1]; simp
   rw [e2.1] at m1
   exact (aiJ.1 m1).2 (aiJ.1 m2).1
theorem aJf (h : adk b) : (acp b).length = 2 * (acd b).length + 2 * b.2.2.2.2.1.length := by
 have h1 : ∀ l : List acO, (∀ g ∈ l, g ∈ b.2.1) → (l.flatMap (ac2 b)).length = 2 * (l.flatMap fun g => (acu b g).map fun d => ((g.1, d) : Int × Int)).length := by
  intro l
  induction l with
  | nil => intro _; rfl
  | cons g t ih =>
    intro hm
    have := ih fun g hg => hm g (by simp [hg])
    have hp := List.length_pos_of_mem (aip (b := b) g)
    simp only [List.flatMap_cons, List.length_append, List.length_map, this]
    unfold ac2
    rw [List.length_append, agH _ _ (fun _ => rfl)]
    simp only [List.length_cons, List.length_nil]
    omega
 have h2 : ∀ l : List Cmp, (l.flatMap (acQ b)).length = 2 * l.length := by
  intro l
  induction l with
  | nil => rfl
  | cons c t ih =>
    simp only [List.flatMap_cons, List.length_append, ih, acQ, List.length_cons, List.length_nil]
    omega
 unfold acp
 rw [List.length_append, h1 _ fun _ h => h, h2]
 rfl
theorem adA (h : adk b) {i : Nat} {g : acO} (hg : b.2.1[i]? = some g) {l : Lk} : l ∈ ac2 b g ↔
 l = (0, (off b i : Int) + 1, g.2.2.1 + g.2.2.2.1.2) ∨ l = ((off b i : Int) + 1, 0, -(g.2.2.1 + g.2.2.2.1.1)) ∨
 ∃ (k : Nat) (d e : Int), (acu b g)[k]? = some d ∧ (acu b g)[k + 1]? = some e ∧ (l = ((off b i : Int) + k + 1, (off b i : Int) + k + 2, 0) ∨ l = ((off b i : Int) + k + 2, (off b i : Int) + k + 1, agS b g d e)) := by
 unfold ac2
 rw [aSm h hg]
 simp only [List.mem_append, List.mem_cons, List.not_mem_nil, or_false, List.mem_flatMap, List.mem_range]
 constructor
 ·rintro ((h1 | h1) | ⟨k, hk, h1⟩)
  ·exact .inl h1
  ·exact .inr (.inl h1)
  ·refine .inr (.inr ⟨k, (acu b g)[k], (acu b g)[k + 1], List.getElem?_eq_getElem (by omega), List.getElem?_eq_getElem (by omega), ?_⟩)
   rw [List.getElem?_eq_getElem (show k < (acu b g).length by omega), List.getElem?_eq_getElem (show k + 1 < (acu b g).length by omega)] at h1
   simp only [Option.getD_some] at h1
   have e1 : (off b i : Int) + 1 + k = (off b i : Int) + k + 1 := by omega
   have e2 : (off b i : Int) + k + 1 + 1 = (off b i : Int) + k + 2 := by omega
   rw [e1, e2] at h1
   exact h1
 ·rintro (h1 | h1 | ⟨k, d, e, hd, he, h1⟩)
  ·exact .inl (.inl h1)
  ·exact .inl (.inr h1)
  ·obtain ⟨h2, rfl⟩ := List.getElem?_eq_some_iff.1 hd
   obtain ⟨h3, rfl⟩ := List.getElem?_eq_some_iff.1 he
   refine .inr ⟨k, by omega, ?_⟩
   rw [hd, he]
   simp only [Option.getD_some]
   have e1 : (off b i : Int) + 1 + k = (off b i : Int) + k + 1 := by omega
   have e2 : (off b i : Int) + k + 1 + 1 = (off b i : Int) + k + 2 := by omega
   rw [e1, e2]
   exact h1
theorem ajA {l : Lk} : l ∈ acp b ↔ (∃ (i : Nat) (g : acO), b.2.1[i]? = some g ∧ l ∈ ac2 b g) ∨ ∃ c ∈ b.2.2.2.2.1, l = (cy b c, cx b c, (adY b c).2) ∨ l = (cx b c, cy b c, -(adY b c).1) := by
 unfold acp
 simp only [List.mem_append, List.mem_flatMap, acQ, List.mem_cons, List.not_mem_nil, or_false]
 constructor
 ·rintro (⟨g, hg, h⟩ | h)
  ·obtain ⟨i, hi, rfl⟩ := List.mem_iff_getElem.1 hg
   exact .inl ⟨i, _, List.getElem?_eq_getElem hi, h⟩
  ·exact .inr h
 ·rintro (⟨i, g, hg, h⟩ | h)
  ·exact .inl ⟨g, List.mem_of_getElem? hg, h⟩
  ·exact .inr h
theorem adk.sys (h : adk b) : afo (acp b) ((acd b).length + 1) := by
 have hN := h.nodes
 have hL := h.links
 have key : ∀ l ∈ acp b, ((0 ≤ l.1 ∧ l.1 < ((acd b).length + 1 : Nat)) ∧ (0 ≤ l.2.1 ∧ l.2.1 < ((acd b).length + 1 : Nat))) ∧ l.1 ≠ l.2.1 ∧ (-4503599627370496 ≤ l.2.2 ∧ l.2.2 ≤ 4503599627370496) := by
  intro l hl
  rcases ajA.1 hl with ⟨i, g, hg, hl⟩ | ⟨c, hc, hl⟩
  ·have hgm := List.mem_of_getElem? hg
   have hr := h.gaugeR hgm
   have ho := aTc h hg
   have hp := List.length_pos_of_mem (aip (b := b) g)
   have r1 := hr.2.2.2.2.2.1
   have r2 := hr.2.2.2.2.2.2.1
   rcases (adA h hg).1 hl with rfl | rfl | ⟨k, d, e, hd, he, h1⟩
   ·dsimp only; omega
   ·dsimp only; omega
   ·obtain ⟨h2, _⟩ := List.getElem?_eq_some_iff.1 he
    have d1 := h.day hgm (List.mem_of_getElem? hd)
    have lb := ang h hgm (t := e) d1.2.1
    rcases h1 with rfl | rfl
    ·dsimp only; omega
    ·dsimp only; omega
  ·have a := (aGT h hc).rng
   have b' := (aBu h hc).rng
   have ne := aMW h hc
   have sb := ay5 h hc
   rcases hl with rfl | rfl
   ·dsimp only; omega
   ·dsimp only; omega
 exact ⟨by omega, by omega, by rw [aJf h]; omega, fun l hl => (key l hl).1, fun l hl => (key l hl).2.1, fun l hl => (key l hl).2.2⟩
end
end Go.Proofs.ZzM
end
noncomputable section
namespace Go.Proofs.ZzM
open Go Go.Am
theorem aQH {ρ : Type} : @amX ρ = @afl ρ := rfl
theorem aQG {ρ : Type} : @amW ρ = @ad2 ρ := rfl
theorem aQF {ρ : Type} : @amV ρ = @ads ρ := rfl
theorem aJp {ρ : Type} {N : Nat} (hN : N ≤ 1000) (x : Option ρ) : acS ((ile (0 : Int) (N : Int)) && (acK N)) x = x := by
 have := auA hN x
 rwa [Int.toNat_natCast] at this
section
variable {L : List Lk} {N : Nat} {M : Int}
theorem aOK {s : Int} (hs : 0 ≤ s ∧ s < N) : (List.replicate N afr).set s.toNat 0 = ams (aPc s) N := by
 refine aMF (by simp [acZ]) fun v h0 h1 => ?_
 have hv : v < N := by simpa using h1
 rw [afS _ h0 hv, apk hs.1 h0 (by simp; omega)]
 unfold aPc
 by_cases h : v = s
 ·simp [h]
 ·simp only [h, if_false, beq_iff_eq]
  unfold gv
  rw [List.getElem?_replicate]
  have : v.toNat < N := by omega
  simp [this]
theorem aQE (hL : afH L N M) (h1 : 1 ≤ N) (hN : N ≤ 200) (ho : adC L N = true) {s : Int} (hs : 0 ≤ s ∧ s < N) : ap6 ((N : Int), L) [] s = some (alw L N s) := by
 obtain ⟨p, hp⟩ := (aex hL hN).1 ho
 unfold ap6 avN
 rw [aQH, aQG, aQF]
 dsimp only
 rw [auA (by omega), Int.toNat_natCast]
 refine ada (List.replicate N (0 : Int)) (fun i => List.replicate i afr ++ List.replicate (N - i) 0) _ (by simp) (fun i a hi ha kn => ?_) (fun kn => ?_)
 ·dsimp only
  unfold ajh
  have hiN : i < N := by simpa using hi
  have hl : i < (List.replicate i afr ++ List.replicate (N - i) (0 : Int)).length := by simp; omega
  rw [acm hi, afR hl, aep (List.getElem?_eq_getElem hl), aci hiN (by omega), Int.toNat_natCast]
  congr 2
  rw [List.set_append_right _ _ (by simp)]
  have : N - i = (N - (i + 1)) + 1 := by omega
  rw [this, List.length_replicate, Nat.sub_self, List.replicate_succ, List.set_cons_zero, List.replicate_succ']
  simp
 ·try dsimp only
  unfold ajh
  rw [acJ]
  dsimp only
  have e0 : List.replicate (List.replicate N (0 : Int)).length afr ++ List.replicate (N - (List.replicate N (0 : Int)).length) 0 = List.replicate N afr := by simp
  rw [e0]
  have hlen : s.toNat < (List.replicate N afr).length := by simp; omega
  rw [show adD (List.replicate N afr) = ((N : Nat) : Int) by simp [adD], af8 hs.1 hs.2, agK hlen, aJp (by omega), aJp (by omega), aOK hs]
  refine Eq.trans (aMA hL _) ?_
  have hS : ∀ v, aPc s v = true → 0 ≤ v ∧ v < N := fun v h => by simp [aPc] at h; subst h; exact hs
  refine aOL (acZ _ _) (by omega) _ fun w q hw hq hr hwq hqs => ?_
  have hs0 := aDy hL h1 hS hw hq hr hwq hqs
  refine aHw hL (aRy hL hN) hp hS _ (fun x w t q hx hd => ?_) hs0
  have : x = alw L N s := by
   refine aMF (by rw [hx]; unfold alw; rw [aeg, acZ]) fun v a b => ?_
   exact hd.uniq (agd hL hN hp hs) a (by omega)
  dsimp only
  rw [this]
def afp (L : List Lk) (N : Nat) (s t : Int) : Int × Int :=
 if !adC L N then (0, 9) else if gv (alw L N s) t = afr then (0, 5) else (gv (alw L N s) t, 0)
theorem aSn (h : afo L N) {ns : List Int} (hn : ∀ n ∈ ns, 0 ≤ n ∧ n < N) (hl : ns.length ≤ 1000) : auM ((N : Int), L) ns = some (if adC L N then 0 else 9) := by
 have h2 := h.n60
 unfold auM az6
 rw [ahA h, ab1]
 dsimp only
 rw [ack (by rfl)]
 refine Eq.trans (af7 ns (fun _ => false) (fun _ => some 1) (some (if adC L N then 0 else 9)) (fun i n hi hm kn => ?_) (fun kn => ?_)) ?_
 ·try dsimp only
  unfold akH
  have a := hn n (List.mem_of_getElem? hm)
  have e : (decide (0 ≤ n) && decide (n < (N : Int))) = true := by simp [a.1, a.2]
  rw [acm hi, acg hm, azq, ab1, e, aci hi (by omega)]
  simp
 ·try dsimp only
  unfold akH
  rw [acJ, arm h.links h.n1 (by omega), ab1]
  cases adC L N <;> rfl
 ·rw [List.findIdx?_eq_none_iff.2 (by simp)]
theorem ayQ (h : afo L N) {s t : Int} (hs : 0 ≤ s ∧ s < N) (ht : 0 ≤ t ∧ t < N) : aj9 ((N : Int), L) s t = some (afp L N s t) := by
 have h2 := h.n60
 unfold aj9 aAk afp
 rw [aSn h (fun n hn => by simp at hn; rcases hn with rfl | rfl <;> assumption) (by simp), ab1]
 by_cases ho : adC L N = true
 ·rw [if_pos ho, ack (by rfl), aQE h.links h.n1 (by omega) ho hs, ab1, apj ht.1 (by unfold alw; rw [aeg, acZ]; omega), adJ, if_neg (show ¬ (!adC L N) = true by simp [ho])]
  by_cases hf : gv (alw L N s) t = afr
  ·rw [if_pos (by simpa [ieq] using hf), if_pos hf]
  ·rw [if_neg (by simpa [ieq] using hf), if_neg hf]
 ·rw [if_neg ho, acv (by rfl), if_pos (show (!adC L N) = true by simpa using ho)]
end
end Go.Proofs.ZzM
end
noncomputable section
namespace Go.Proofs.ZzM
open Go Go.Am
def acl (b : acq) (c : Cmp) : acq := (b.1, b.2.1, b.2.2.1, b.2.2.2.1, b.2.2.2.2.1 ++ [c], b.2.2.2.2.2)
def aif : acq := ((0, 0), [], [], [], [], [])
def aly (b : acq) (c : Cmp) : acq × Int := if acy b ≠ 0 then (aif, acy b) else if acy (acl b c) ≠ 0 then (aif, acy (acl b c)) else (acl b c, 0)
theorem aPo {b : acq} (h : adk b) {c : Cmp} (hA : c.2.2.1.length ≤ 1000) (hB : c.2.2.2.1.length ≤ 1000) : ahx (acl b c) := by
 have hs := h.size
 have := h.nC
 refine ⟨hs.gauges, hs.uses, hs.loans, by simp [acl]; omega, hs.looks, fun d hd => ?_⟩
 rcases List.mem_append.1 (show d ∈ b.2.2.2.2.1 ++ [c] from hd) with hd | hd
 ·exact hs.piles d hd
 ·simp at hd; subst hd; exact ⟨hA, hB⟩
theorem aLN {b : acq} (hs : ahx b) (hr : ∀ g ∈ b.2.1, I64 g.2.2.2.2.1.1) {c : Cmp} (hA : c.2.2.1.length ≤ 1000) (hB : c.2.2.2.1.length ≤ 1000) : aio b c = some (aly b c) := by
 unfold aio aGy aly
 have h1 := hs.gauges; have h2 := hs.uses; have h3 := hs.loans; have h4 := hs.compares; have h5 := hs.looks
 rw [acn (by omega), Am.iff_true, acn (by omega), Am.iff_true, afZ hs hr, ab1]
 by_cases hc : acy b = 0
 ·have h := (aco b).1 hc
  rw [ack (by simp [ine, hc]), acn (by omega), Am.iff_true, acn (by omega), Am.iff_true, acn (by omega), Am.iff_true, acn (by omega), Am.iff_true, acn (by omega), Am.iff_true, if_neg (show ¬ (acy b ≠ 0) from fun h => h hc)]
  refine ada b.2.2.2.2.1 (fun _ => b.2.2.2.2.1) _ rfl (fun i d hi hd kn => ?_) (fun kn => ?_)
  ·dsimp only
   unfold ane
   obtain ⟨p1, p2⟩ := hs.piles d (List.mem_of_getElem? hd)
   have e1 : b.2.2.2.2.1.set i d = b.2.2.2.2.1 := by
    obtain ⟨h, rfl⟩ := List.getElem?_eq_some_iff.1 hd
    exact List.set_getElem_self h
   rw [acm hi, afR hi, aep hd, acn (by omega), Am.iff_true, acn (by omega), Am.iff_true, afR hi, aep hd, Int.toNat_natCast]
   rw [show (d.1, d.2.1, d.2.2.1, d.2.2.2) = d from rfl, e1, afR hi, amx hd, aci hi (by omega)]
   rw [show (d.1, d.2.1, d.2.2.1, d.2.2.2.1, d.2.2.2.2) = d from rfl, e1]
  ·try dsimp only
   unfold ane
   rw [acJ]
   dsimp only
   rw [acn (by simp only [List.length_singleton]; omega), Am.iff_true]
   rw [show acR (b.1, b.2.1, b.2.2.1, b.2.2.2.1, b.2.2.2.2.1 ++ [c], b.2.2.2.2.2) = acR (acl b c) from rfl, afZ (aPo h hA hB) hr, ab1]
   by_cases hc2 : acy (acl b c) = 0
   ·rw [ack (by simp [ine, hc2]), if_neg (show ¬ (acy (acl b c) ≠ 0) from fun h => h hc2)]
    rfl
   ·rw [acv (by simp [ine, hc2]), if_pos hc2]
    rfl
 ·rw [acv (by simp [ine, hc]), if_pos hc]
  rfl
def ab5 (c : Cmp) : Cmp := (c.1, c.2.1, c.2.2.1, c.2.2.2.1, 0, c.2.2.2.2.2)
def ayD (b : acq) (c : Cmp) : Int := aBC (adQ b c).1 + (ag2 b c).1 - c.2.2.2.2.2.1
def ajl (b : acq) (c : Cmp) : Int := (adQ b c).2.1 / (adQ b c).2.2 + (ag2 b c).2 + c.2.2.2.2.2.1
def ay2 (b : acq) (c : Cmp) (s : Int × Int) : (Int × Int) × Int := if ajl b c < ayD b c then ((0, 0), 5) else ((s.1 + ayD b c, s.2 + ajl b c), 0)
structure aSs (b : acq) (c : Cmp) : Prop where
 nums : aNB c = true
 r1 : amq (axI (ajJ b) (ac6 c.2.2.1 c.2.2.2.1)) 1000 100
 r2 : amq (axI (ajJ b) (ac6 c.2.2.2.1 c.2.2.1)) 1000 100
theorem adk.cmp {b : acq} (h : adk b) {c : Cmp} (hc : c ∈ b.2.2.2.2.1) : aSs b c := ⟨h.nums hc, (h.rates hc).1, (h.rates hc).2⟩
theorem awH {b : acq} (hf : 0 ≤ b.1.1 ∧ b.1.1 ≤ b.1.2 ∧ b.1.2 ≤ 1000000) {c : Cmp} (h : aSs b c) : amq (adQ b c).1 2000000000 10000 ∧ amq (adQ b c).2 2000000000 10000 ∧ (-3000000000 ≤ aBC (adQ b c).1 + (ag2 b c).1 ∧ aBC (adQ b c).1 + (ag2 b c).1 ≤ 3000000000) ∧
 (-3000000000 ≤ (adQ b c).2.1 / (adQ b c).2.2 + (ag2 b c).2 ∧ (adQ b c).2.1 / (adQ b c).2.2 + (ag2 b c).2 ≤ 3000000000) ∧ (0 ≤ c.2.2.2.2.2.1 ∧ c.2.2.2.2.2.1 ≤ 1073741824) := by
 have hn := (ahd c).1 h.nums
 have ha := aeV hn.2.2.2.2.2.1
 have hb := aeV hn.2.2.2.2.2.2
 obtain ⟨g1, g2⟩ := aFa (aEO h.r1 h.r2) hn.2.2.2.2.1
 have fb := asl (b := b) (c := c) (by omega) (by omega) (by omega) (by omega) (by omega) (by omega)
 have q1 : amq (adQ b c).1 2000000000 10000 := g1
 have q2 : amq (adQ b c).2 2000000000 10000 := g2
 have c1 := awu q1
 have c2 := ash q2
 exact ⟨q1, q2, by omega, by omega, hn.2.2.2.1⟩
theorem aRi {b : acq} (hs : ahx b) (hf : 0 ≤ b.1.1 ∧ b.1.1 ≤ b.1.2 ∧ b.1.2 ≤ 1000000) {c : Cmp} (h : aSs b c) {s : Int × Int} (h1 : -2305843009213693952 ≤ s.1 ∧ s.1 ≤ 2305843009213693952) (h2 : -2305843009213693952 ≤ s.2 ∧ s.2 ≤ 2305843009213693952) : amj b c s = some (ay2 b c s) := by
 have hn := (ahd c).1 h.nums
 have ha := aeV hn.2.2.2.2.2.1
 have hb := aeV hn.2.2.2.2.2.2
 obtain ⟨q1, q2, b1, b2, b3⟩ := awH hf h
 unfold amj aAD ay2 ayD ajl
 rw [aJt hs (by omega) (by omega) h.r1 h.r2 hn.2.2.2.2.1, ab1, aMN (by omega) (by omega) (by omega) (by omega) (by omega) (by omega), ab1, aQY q1.rat, ab1, aNe q2.rat, ab1]
 dsimp only
 rw [acs (by omega) (by omega), acs (by omega) (by omega), acs (by omega) (by omega), acs (by omega) (by omega), adJ]
 by_cases hlt : (adQ b c).2.1 / (adQ b c).2.2 + (ag2 b c).2 + c.2.2.2.2.2.1 < aBC (adQ b c).1 + (ag2 b c).1 - c.2.2.2.2.2.1
 ·rw [if_pos (by simpa [igt] using hlt), if_pos hlt]
 ·rw [if_neg (by simpa [igt] using hlt), if_neg hlt, acs (by omega) (by omega), acs (by omega) (by omega)]
def acE (b : acq) : List Lk := (acp b).take ((acp b).length - 2)
def acz (b : acq) (c : Cmp) : (Int × Int) × Int :=
 if (aly b (ab5 c)).2 ≠ 0 then ((0, 0), (aly b (ab5 c)).2) else
 if (afp (acE (acl b (ab5 c))) ((acd (acl b (ab5 c))).length + 1) (cy (acl b (ab5 c)) (ab5 c)) (cx (acl b (ab5 c)) (ab5 c))).2 ≠ 0 then
  ((0, 0), (afp (acE (acl b (ab5 c))) ((acd (acl b (ab5 c))).length + 1) (cy (acl b (ab5 c)) (ab5 c)) (cx (acl b (ab5 c)) (ab5 c))).2) else
 if (afp (acE (acl b (ab5 c))) ((acd (acl b (ab5 c))).length + 1) (cx (acl b (ab5 c)) (ab5 c)) (cy (acl b (ab5 c)) (ab5 c))).2 ≠ 0 then
  ((0, 0), (afp (acE (acl b (ab5 c))) ((acd (acl b (ab5 c))).length + 1) (cx (acl b (ab5 c)) (ab5 c)) (cy (acl b (ab5 c)) (ab5 c))).2) else
 ay2 b (ab5 c) (-(afp (acE (acl b (ab5 c))) ((acd (acl b (ab5 c))).length + 1) (cx (acl b (ab5 c)) (ab5 c)) (cy (acl b (ab5 c)) (ab5 c))).1,
  (afp (acE (acl b (ab5 c))) ((acd (acl b (ab5 c))).length + 1) (cy (acl b (ab5 c)) (ab5 c)) (cx (acl b (ab5 c)) (ab5 c))).1)
theorem aKa {L : List Lk} {N : Nat} (h : afo L N) {s t : Int} (hs : 0 ≤ s ∧ s < N) (ht : 0 ≤ t ∧ t < N) : -2305843009213693952 ≤ (afp L N s t).1 ∧ (afp L N s t).1 ≤ 2305843009213693952 := by
 unfold afp
 have h2 := h.n60
 split
 ·simp
 ·rename_i ho
  have ho' : adC L N = true := by simpa using ho
  obtain ⟨p, hp⟩ := (aex h.links (by omega)).1 ho'
  have hd := agd h.links (by omega) hp hs
  split
  ·simp
  ·rename_i hne
   dsimp only
   have hb := hd.bd t ht.1 ht.2
   obtain ⟨vs, hw⟩ := hd.att t ht.1 ht.2 hne
   have h3 := hw.low' hp
   have h4 := aFf (L := L) (fun l hl => (h.most l hl).1) (M := 4503599627370496) (by omega)
   have h5 := h.len
   unfold afr at hb
   constructor <;> omega
theorem aEI {b : acq} (hs : ahx b) (hr : ∀ g ∈ b.2.1, I64 g.2.2.2.2.1.1) {c : Cmp} (hA : c.2.2.1.length ≤ 1000) (hB : c.2.2.2.1.length ≤ 1000) : akc b c = some (acz b c) := by
 unfold akc asa acz
 rw [show aio b (c.1, c.2.1, c.2.2.1, c.2.2.2.1, 0, c.2.2.2.2.2) = aio b (ab5 c) from rfl, aLN hs hr (c := ab5 c) hA hB, ab1]
 by_cases hw : (aly b (ab5 c)).2 = 0
 ·rw [ack (by simp [ine, hw]), if_neg (show ¬ ((aly b (ab5 c)).2 ≠ 0) from fun h => h hw)]
  -- the book is valid, and so is the greater one
  have hb : acy b = 0 := by
   unfold aly at hw
   split at hw
   ·rename_i h; exact (h hw).elim
   ·rename_i h; simpa using h
  have hm : acy (acl b (ab5 c)) = 0 := by
   unfold aly at hw
   rw [if_neg (by simp [hb])] at hw
   split at hw
   ·rename_i h; exact (h hw).elim
   ·rename_i h; simpa using h
  have he : aly b (ab5 c) = (acl b (ab5 c), 0) := by
   unfold aly
   rw [if_neg (by simp [hb]), if_neg (by simp [hm])]
  have g := (aco b).1 hb
  have gm := (aco _).1 hm
  have hmem : ab5 c ∈ (acl b (ab5 c)).2.2.2.2.1 := by simp [acl]
  have hN := gm.nodes
  have hll := aJf gm
  have hcl : (acl b (ab5 c)).2.2.2.2.1.length = b.2.2.2.2.1.length + 1 := by simp [acl]
  have hlk := gm.links
  have hsys : afo (acE (acl b (ab5 c))) ((acd (acl b (ab5 c))).length + 1) := gm.sys.sub (fun l hl => List.mem_of_mem_take hl) (by unfold acE; rw [List.length_take]; omega)
  have hx := (aGT gm hmem).rng
  have hy := (aBu gm hmem).rng
  have lA : c.2.2.1.length ≤ 1000 := hA
  rw [he]
  dsimp only
  rw [aMw gm, ab1]
  dsimp only
  rw [acL, acs (by omega) (by omega)]
  have e1 : ((ile (0 : Int) (((acp (acl b (ab5 c))).length : Int) - 2)) && (ile (((acp (acl b (ab5 c))).length : Int) - 2) (adD (acp (acl b (ab5 c)))))) = true := by
   simp [ile, adD]; omega
  have e2 : (((acp (acl b (ab5 c))).length : Int) - 2).toNat = (acp (acl b (ab5 c))).length - 2 := by omega
  rw [adI e1, alo (by omega) (by omega), ab1, aQK _ _ _ (by dsimp only; omega), ab1, alo (by omega) (by omega), ab1, aQK _ _ _ (by dsimp only; omega), ab1, e2]
  have e3 : (((acd (acl b (ab5 c))).length : Int) + 1) = (((acd (acl b (ab5 c))).length + 1 : Nat) : Int) := by push_cast; rfl
  rw [e3]
  rw [show List.take ((acp (acl b (ab5 c))).length - 2) (acp (acl b (ab5 c))) = acE (acl b (ab5 c)) from rfl]
  dsimp only
  rw [show atP (acd (acl b (ab5 c))) (ac6 c.2.2.1 c.2.2.2.1) c.2.1 = cx (acl b (ab5 c)) (ab5 c) from rfl, show atP (acd (acl b (ab5 c))) (ac6 c.2.2.2.1 c.2.2.1) c.2.1 = cy (acl b (ab5 c)) (ab5 c) from rfl]
  rw [ayQ hsys hy hx, ab1, ayQ hsys hx hy]
  have b1 := aKa hsys hy hx
  have b2 := aKa hsys hx hy
  generalize hB1 : afp (acE (acl b (ab5 c))) ((acd (acl b (ab5 c))).length + 1) (cy (acl b (ab5 c)) (ab5 c)) (cx (acl b (ab5 c)) (ab5 c)) = B1 at b1 ⊢
  generalize hB2 : afp (acE (acl b (ab5 c))) ((acd (acl b (ab5 c))).length + 1) (cx (acl b (ab5 c)) (ab5 c)) (cy (acl b (ab5 c)) (ab5 c)) = B2 at b2 ⊢
  by_cases h1 : B1.2 = 0
  ·rw [ack (by simp [ine, h1]), if_neg (show ¬ (B1.2 ≠ 0) from fun h => h h1), ab1]
   by_cases h2 : B2.2 = 0
   ·rw [ack (by simp [ine, h2]), if_neg (show ¬ (B2.2 ≠ 0) from fun h => h h2), acs (by omega) (by omega)]
    have hck : aSs b (ab5 c) := ⟨(gm.cmp hmem).nums, (gm.cmp hmem).r1, (gm.cmp hmem).r2⟩
    rw [show amj b (c.1, c.2.1, c.2.2.1, c.2.2.2.1, 0, c.2.2.2.2.2) (0 - B2.1, B1.1) = amj b (ab5 c) (0 - B2.1, B1.1) from rfl, aRi g.size g.film hck (by dsimp only; omega) (by dsimp only; omega), ab1, Int.zero_sub]
   ·rw [acv (by simp [ine, h2]), if_pos h2]
  ·rw [acv (by simp [ine, h1]), if_pos h1]
 ·rw [acv (by simp [ine, hw]), if_pos hw]
end Go.Proofs.ZzM
end
noncomputable section
namespace Go.Proofs.ZzM
open Go Go.Am
structure In (b : acq) : Prop where
 size : ahx b
 num : ∀ g ∈ b.2.1, I64 g.2.2.2.2.1.1
def aHc (b : acq) : Sys × List (Int × Int) × Int := if acy b ≠ 0 then ((0, []), [], acy b) else ((((acd b).length : Int) + 1, acp b), aeG b, 0)
theorem akh {b : acq} (h : In b) : adr b = some (aHc b) := by
 unfold adr av3 aHc
 rw [afZ h.size h.num, ab1]
 by_cases hc : acy b = 0
 ·rw [ack (by simp [ine, hc]), aMw ((aco b).1 hc), ab1, if_neg (show ¬ (acy b ≠ 0) from fun h => h hc)]
 ·rw [acv (by simp [ine, hc]), if_pos hc]
def cmp0 : Cmp := (0, 0, [], [], 0, 0, 0, 0)
def alz (b : acq) (i : Int) : Cmp × Int := if acy b ≠ 0 then (cmp0, acy b) else if i < 0 ∨ (b.2.2.2.2.1.length : Int) ≤ i then (cmp0, 1) else (b.2.2.2.2.1[i.toNat]?.getD cmp0, 0)
theorem aQ7 {b : acq} (h : In b) (i : Int) : auO b i = some (alz b i) := by
 unfold auO aAB alz
 rw [afZ h.size h.num, ab1]
 by_cases hc : acy b = 0
 ·rw [ack (by simp [ine, hc]), if_neg (show ¬ (acy b ≠ 0) from fun h => h hc), acL]
  by_cases h1 : i < 0
  ·rw [acv (by simp [ilt, h1]), if_pos (.inl h1)]; rfl
  ·rw [ack (by simp [ilt]; omega)]
   by_cases h2 : (b.2.2.2.2.1.length : Int) ≤ i
   ·rw [acv (by simp [ige, h2]), if_pos (.inr h2)]; rfl
   ·rw [ack (by simp [ige]; omega), if_neg (by omega)]
    obtain ⟨j, rfl⟩ := Int.eq_ofNat_of_zero_le (show 0 ≤ i by omega)
    have hj : j < b.2.2.2.2.1.length := by omega
    rw [acg (List.getElem?_eq_getElem hj), Int.toNat_natCast, List.getElem?_eq_getElem hj]
    rfl
 ·rw [acv (by simp [ine, hc]), if_pos hc]; rfl
theorem aKg {b : acq} {i : Int} (h : (alz b i).2 = 0) : adk b ∧ (alz b i).1 ∈ b.2.2.2.2.1 ∧ b.2.2.2.2.1[i.toNat]? = some (alz b i).1 ∧ 0 ≤ i := by
 unfold alz at h ⊢
 split at h
 ·rename_i hc; exact (hc h).elim
 ·rename_i hc
  have hc0 : acy b = 0 := by simpa using hc
  split at h
  ·simp at h
  ·rename_i hi
   have hj : i.toNat < b.2.2.2.2.1.length := by omega
   rw [if_neg hc, if_neg hi, List.getElem?_eq_getElem hj]
   exact ⟨(aco b).1 hc0, List.getElem_mem hj, rfl, by omega⟩
def aSq (b : acq) (i : Int) : (Int × Int) × Int := if (alz b i).2 ≠ 0 then ((0, 0), (alz b i).2) else (adY b (alz b i).1, 0)
theorem aTN {b : acq} (h : In b) (i : Int) : ayM b i = some (aSq b i) := by
 unfold ayM aGA aSq
 rw [aQ7 h, ab1]
 by_cases hw : (alz b i).2 = 0
 ·obtain ⟨g, hm, _, _⟩ := aKg hw
  rw [ack (by simp [ine, hw]), g.says hm, ab1, if_neg (show ¬ ((alz b i).2 ≠ 0) from fun h => h hw)]
 ·rw [acv (by simp [ine, hw]), if_pos hw]
def exB : acq := ((0, 2), [(1, 0, 1000, (-5, 5), (1, 10), 1), (2, 0, 1000, (-50, 50), (1, 4), 0)], [(1, 10)], [(1, (20, 29), 3)], [(7, 10, [1], [2], -20, 1, 100, 200)], [])
theorem apv : In exB := ⟨⟨by decide, by decide, by decide, by decide, by decide, by decide⟩, by
 intro g hg
 simp [exB] at hg
 rcases hg with rfl | rfl <;> exact ⟨by decide, by decide⟩⟩
def exC : Cmp := (8, 10, [1], [2], 0, 0, 0, 0)
end Go.Proofs.ZzM
end
noncomputable section
namespace Go.Proofs.ZzM
open Go Go.Am
def amr (b : acq) (x d : Int) : Int := match ags (acd b) x d with | some j => (j : Int) + 1 | none => 0
def aEJ (b : acq) (n : Int × Int) : Int × Int := if acy b ≠ 0 then (0, acy b) else if amr b n.1 n.2 = 0 then (0, 5) else (amr b n.1 n.2, 0)
theorem apJ {b : acq} (h : In b) (n : Int × Int) : adt b n = some (aEJ b n) := by
 have hl := aDM h.size
 unfold adt aAS aEJ
 rw [afZ h.size h.num, ab1]
 by_cases hc : acy b = 0
 ·rw [ack (by simp [ine, hc]), if_neg (show ¬ (acy b ≠ 0) from fun h => h hc), aFc h.size, ab1, show acN (acd b) n = acN (acd b) (n.1, n.2) from rfl, aJ5 (by omega), ab1]
  unfold amr
  cases hx : ags (acd b) n.1 n.2 with
  | none => rfl
  | some j =>
    have := (agW hx).1
    simp only
    rw [ack (by simp [ilt]), acs (by omega) (by omega), if_neg (by omega)]
 ·rw [acv (by simp [ine, hc]), if_pos hc]
end Go.Proofs.ZzM
end
noncomputable section
namespace Go.Proofs.ZzM
open Go Go.Am
def ag8 (b : acq) (n : Int × Int) : acq := (b.1, b.2.1, b.2.2.1, b.2.2.2.1, b.2.2.2.2.1, b.2.2.2.2.2 ++ [n])
theorem aPB {b : acq} (h : adk b) (n : Int × Int) : ahx (ag8 b n) := by
 have hs := h.size
 have := h.nK
 exact ⟨hs.gauges, hs.uses, hs.loans, hs.compares, by simp [ag8]; omega, hs.piles⟩
def ayk (b : acq) (n : Int × Int) : acq × Int := if acy b ≠ 0 then (aif, acy b) else if acy (ag8 b n) ≠ 0 then (aif, acy (ag8 b n)) else (ag8 b n, 0)
theorem aLR {b : acq} (h : In b) (n : Int × Int) : aeY b n = some (ayk b n) := by
 have hs := h.size
 have h1 := hs.gauges; have h2 := hs.uses; have h3 := hs.loans; have h4 := hs.compares; have h5 := hs.looks
 unfold aeY aGC ayk
 rw [afZ hs h.num, ab1]
 by_cases hc : acy b = 0
 ·have hg := (aco b).1 hc
  rw [ack (by simp [ine, hc]), acn (by omega), Am.iff_true, acn (by omega), Am.iff_true, acn (by omega), Am.iff_true, acn (by omega), Am.iff_true, acn (by omega), Am.iff_true, if_neg (show ¬ (acy b ≠ 0) from fun h => h hc)]
  refine ada b.2.2.2.2.1 (fun _ => b.2.2.2.2.1) _ rfl (fun i d hi hd kn => ?_) (fun kn => ?_)
  ·dsimp only
   unfold anf
   obtain ⟨p1, p2⟩ := hs.piles d (List.mem_of_getElem? hd)
   have e1 : b.2.2.2.2.1.set i d = b.2.2.2.2.1 := by
    obtain ⟨h, rfl⟩ := List.getElem?_eq_some_iff.1 hd
    exact List.set_getElem_self h
   rw [acm hi, afR hi, aep hd, acn (by omega), Am.iff_true, acn (by omega), Am.iff_true, afR hi, aep hd, Int.toNat_natCast]
   rw [show (d.1, d.2.1, d.2.2.1, d.2.2.2) = d from rfl, e1, afR hi, amx hd, aci hi (by omega)]
   rw [show (d.1, d.2.1, d.2.2.1, d.2.2.2.1, d.2.2.2.2) = d from rfl, e1]
  ·try dsimp only
   unfold anf
   rw [acJ]
   dsimp only
   rw [acn (by simp only [List.length_singleton]; omega), Am.iff_true]
   rw [show acR (b.1, b.2.1, b.2.2.1, b.2.2.2.1, b.2.2.2.2.1, b.2.2.2.2.2 ++ [n]) = acR (ag8 b n) from rfl, afZ (aPB hg n) h.num, ab1]
   by_cases hc2 : acy (ag8 b n) = 0
   ·rw [ack (by simp [ine, hc2]), if_neg (show ¬ (acy (ag8 b n) ≠ 0) from fun h => h hc2)]
    rfl
   ·rw [acv (by simp [ine, hc2]), if_pos hc2]
    rfl
 ·rw [acv (by simp [ine, hc]), if_pos hc]
  rfl
end Go.Proofs.ZzM
end
noncomputable section
namespace Go.Proofs.ZzM
open Go Go.Am
section
variable {b : acq}
theorem aTd : off b b.2.1.length = (acd b).length := by unfold off acd; rw [List.take_length]
theorem aRu : ∀ n, n ≤ b.2.1.length → ∀ j, j < off b n → ∃ (i : Nat) (g : acO) (k : Nat), b.2.1[i]? = some g ∧ k < (acu b g).length ∧ j = off b i + k := by
 intro n
 induction n with
 | zero => intro _ j hj; simp [off] at hj
 | succ n ih =>
   intro hn j hj
   have hg : b.2.1[n]? = some b.2.1[n] := List.getElem?_eq_getElem (by omega)
   rw [aRt hg] at hj
   by_cases h : j < off b n
   ·exact ih (by omega) j h
   ·exact ⟨n, _, j - off b n, hg, by omega, by omega⟩
theorem aDN {v : Int} (h0 : 1 ≤ v) (h1 : v < ((acd b).length + 1 : Nat)) : ∃ (i : Nat) (g : acO) (k : Nat), b.2.1[i]? = some g ∧ k < (acu b g).length ∧ v = (off b i : Int) + k + 1 := by
 obtain ⟨i, g, k, h2, h3, h4⟩ := aRu (b := b) b.2.1.length (Nat.le_refl _) (v - 1).toNat (by rw [aTd]; omega)
 exact ⟨i, g, k, h2, h3, by omega⟩
def GL (b : acq) (L : List Lk) : Prop := ∀ (i : Nat) (g : acO), b.2.1[i]? = some g → ∀ l ∈ ac2 b g, l ∈ L
theorem aMG : GL b (acp b) := fun i g hg l hl => ajA.2 (.inl ⟨i, g, hg, hl⟩)
theorem aOI {L : List Lk} (h : adk b) (hL : GL b L) {v : Int} (h0 : 0 ≤ v) (h1 : v < ((acd b).length + 1 : Nat)) : ∃ vs d, Wl L (fun u => u = 0) vs v d ∧ d ≤ 4503599627370496 := by
 by_cases hv : v = 0
 ·exact ⟨[], 0, .nil hv, by omega⟩
 obtain ⟨i, g, k, hg, hk, rfl⟩ := aDN (by omega) h1
 have hr := h.gaugeR (List.mem_of_getElem? hg)
 have r1 := hr.2.2.2.2.2.1
 have r2 := hr.2.2.2.2.2.2.1
 have key : ∀ k : Nat, k < (acu b g).length → ∃ vs, Wl L (fun u => u = 0) vs ((off b i : Int) + k + 1) (g.2.2.1 + g.2.2.2.1.2) := by
  intro k
  induction k with
  | zero =>
    intro _
    have hw : Wl L (fun u => u = 0) [0] ((off b i : Int) + 1) (0 + (g.2.2.1 + g.2.2.2.1.2)) := Wl.step (.nil rfl) (hL i g hg _ ((adA h hg).2 (.inl rfl)))
    rw [Int.zero_add] at hw
    exact ⟨[0], by simpa using hw⟩
  | succ k ih =>
    intro hk
    obtain ⟨vs, hw⟩ := ih (by omega)
    have hw' := Wl.step hw (hL i g hg _ ((adA h hg).2 (.inr (.inr ⟨k, _, _, List.getElem?_eq_getElem (show k < _ by omega), List.getElem?_eq_getElem hk, .inl rfl⟩))))
    rw [Int.add_zero] at hw'
    have e : (off b i : Int) + ((k + 1 : Nat) : Int) + 1 = (off b i : Int) + k + 2 := by push_cast; omega
    exact ⟨_, by rw [e]; exact hw'⟩
 obtain ⟨vs, hw⟩ := key k hk
 exact ⟨vs, _, hw, by omega⟩
theorem aHs {L : List Lk} (h : adk b) (hL : GL b L) {v : Int} (h0 : 0 ≤ v) (h1 : v < ((acd b).length + 1 : Nat)) : ∃ vs d, Wl L (fun u => u = v) vs 0 d ∧ d ≤ 4503599627370496 := by
 by_cases hv : v = 0
 ·exact ⟨[], 0, .nil hv.symm, by omega⟩
 obtain ⟨i, g, k, hg, hk, rfl⟩ := aDN (by omega) h1
 have hgm := List.mem_of_getElem? hg
 have hr := h.gaugeR hgm
 have r1 := hr.2.2.2.2.2.1
 have r2 := hr.2.2.2.2.2.2.1
 have hd := aGS h hgm
 have key : ∀ m : Nat, m ≤ k → ∃ vs d, Wl L (fun u => u = (off b i : Int) + k + 1) vs ((off b i : Int) + (k - m : Nat) + 1) d ∧ d ≤ m * (12 * (20001 * 1048576) + 40 * 1048576) := by
  intro m
  induction m with
  | zero => intro _; exact ⟨[], 0, .nil (by simp), by simp⟩
  | succ m ih =>
    intro hm
    obtain ⟨vs, d, hw, hd⟩ := ih (by omega)
    have e1 : ((k - m : Nat) : Int) = ((k - (m + 1) : Nat) : Int) + 1 := by omega
    have hl : (((off b i : Int) + (k - (m + 1) : Nat) + 2, (off b i : Int) + (k - (m + 1) : Nat) + 1, agS b g ((acu b g)[k - (m + 1)]'(by omega)) ((acu b g)[k - (m + 1) + 1]'(by omega))) : Lk) ∈ L :=
     hL i g hg _ ((adA h hg).2 (.inr (.inr ⟨k - (m + 1), _, _, List.getElem?_eq_getElem (by omega), List.getElem?_eq_getElem (by omega), .inr rfl⟩)))
    have hb := ang h hgm (f := (acu b g)[k - (m + 1)]'(by omega)) (t := (acu b g)[k - (m + 1) + 1]'(by omega)) (h.day hgm (List.getElem_mem _)).2.1
    have e2 : (off b i : Int) + (k - m : Nat) + 1 = (off b i : Int) + (k - (m + 1) : Nat) + 2 := by omega
    rw [e2] at hw
    exact ⟨_, _, .step hw hl, by push_cast; omega⟩
 obtain ⟨vs, d, hw, hdb⟩ := key k (Nat.le_refl _)
 have e : (off b i : Int) + (k - k : Nat) + 1 = (off b i : Int) + 1 := by omega
 rw [e] at hw
 have hw' := Wl.step hw (hL i g hg _ ((adA h hg).2 (.inr (.inl rfl))))
 exact ⟨_, _, hw', by omega⟩
end
structure auY (L : List Lk) (N : Nat) : Prop where
 to : ∀ v : Int, 0 ≤ v → v < N → ∃ vs d, Wl L (fun u => u = 0) vs v d ∧ d ≤ 4503599627370496
 from' : ∀ v : Int, 0 ≤ v → v < N → ∃ vs d, Wl L (fun u => u = v) vs 0 d ∧ d ≤ 4503599627370496
theorem adk.tied {b : acq} (h : adk b) : auY (acp b) ((acd b).length + 1) := ⟨fun v h0 h1 => aOI h aMG h0 h1, fun v h0 h1 => aHs h aMG h0 h1⟩
theorem adk.tiedL {b : acq} {L : List Lk} (h : adk b) (hL : GL b L) : auY L ((acd b).length + 1) := ⟨fun v h0 h1 => aOI h hL h0 h1, fun v h0 h1 => aHs h hL h0 h1⟩
section
variable {L : List Lk} {N : Nat}
theorem aH6 {L : List Lk} {s : Int} {vs : List Int} {v d : Int} : Wl L (fun v => aPc s v = true) vs v d ↔ Wl L (fun u => u = s) vs v d :=
 ⟨fun h => h.mono fun u hu => by simpa [aPc] using hu, fun h => h.mono fun u hu => by simpa [aPc] using hu⟩
theorem aLK (h : afo L N) (ho : adC L N = true) {v : Int} (h0 : 0 ≤ v) (h1 : v < N) : gv (alw L N v) v = 0 := by
 have h2 := h.n60
 obtain ⟨p, hp⟩ := (aex h.links (by omega)).1 ho
 have hd := agd h.links (by omega) hp (s := v) ⟨h0, h1⟩
 have h3 := hd.low v [] 0 (.nil (by simp [aPc]))
 obtain ⟨vs, hw⟩ := hd.att v h0 h1 (by unfold afr; omega)
 obtain ⟨s, hs, hx⟩ := (aH6.1 hw).pot hp
 subst hs
 omega
end
theorem aOk {b : acq} : ∀ i, i ≤ b.2.2.2.2.1.length → ((b.2.2.2.2.1.take i).flatMap (acQ b)).length = 2 * i ∧ (((b.2.2.2.2.1.take i).mapIdx fun i _ => [((3 : Int), (i : Int)), ((3 : Int), (i : Int))]).flatten).length = 2 * i := by
 intro i
 induction i with
 | zero => intro _; simp
 | succ i ih =>
   intro hi
   have ih := ih (by omega)
   have hg : b.2.2.2.2.1[i]? = some b.2.2.2.2.1[i] := List.getElem?_eq_getElem hi
   rw [ahP _ hg, take_succ hg, List.flatMap_append, List.flatten_append, List.length_append, List.length_append]
   simp only [List.flatMap_cons, List.flatMap_nil, List.append_nil, List.flatten_cons, List.flatten_nil, acQ, List.length_cons, List.length_nil]
   omega
end Go.Proofs.ZzM
end
noncomputable section
namespace Go.Proofs.ZzM
open Go Go.Am
section
variable {L : List Lk} {N : Nat}
theorem auZ (h : afo L N) : ado ((N : Int), L) = some (adC L N, 0) := by
 have h2 := h.n60
 unfold ado alh
 rw [ahA h, ab1]
 dsimp only
 rw [ack (by rfl), arm h.links h.n1 (by omega), ab1]
 cases adC L N <;> rfl
end
end Go.Proofs.ZzM
end
noncomputable section
namespace Go.Proofs.ZzM
open Go Go.Am
def afQ (b : acq) (n : Int × Int) : acq × Int := if amr b n.1 n.2 ≠ 0 then (b, 0) else if acy (ag8 b n) ≠ 0 then (aif, acy (ag8 b n)) else (ag8 b n, 0)
def aeu : acq → List (Int × Int) → acq × Int
 | b, [] => (b, 0)
 | b, n :: t => if (afQ b n).2 ≠ 0 then (aif, (afQ b n).2) else aeu (afQ b n).1 t
def adg (b : acq) (ns : List (Int × Int)) : acq × Int :=
 if acy b ≠ 0 then (aif, acy b) else if (aeu b ns).2 ≠ 0 then (aif, (aeu b ns).2) else
 if adC (acp (aeu b ns).1) ((acd (aeu b ns).1).length + 1) then ((aeu b ns).1, 0) else (aif, 9)
theorem ayV {b : acq} (h : adk b) {n : Int × Int} (e : (afQ b n).2 = 0) : adk (afQ b n).1 := by
 unfold afQ at e ⊢
 split
 ·exact h
 ·rename_i h1
  rw [if_neg h1] at e
  split
  ·rename_i h2
   rw [if_pos h2] at e
   exact absurd e h2
  ·rename_i h2
   exact (aco _).1 (by simpa using h2)
theorem ayW {b : acq} {n : Int × Int} (e : (afQ b n).2 = 0) : (afQ b n).1.2.1 = b.2.1 := by
 unfold afQ at e ⊢
 split
 ·rfl
 ·rename_i h1
  rw [if_neg h1] at e
  split
  ·rename_i h2
   rw [if_pos h2] at e
   exact absurd e h2
  ·rfl
theorem ay7 : ∀ {ns : List (Int × Int)} {b : acq}, adk b → (aeu b ns).2 = 0 → adk (aeu b ns).1
 | [], b, h, _ => h
 | n :: t, b, h, e => by
   unfold aeu at e ⊢
   split
   ·rename_i h1; rw [if_pos h1] at e; exact absurd e h1
   ·rename_i h1
    rw [if_neg h1] at e
    exact ay7 (ayV h (by simpa using h1)) e
theorem amt : ∀ {ns : List (Int × Int)} {b : acq}, (aeu b ns).2 = 0 → (aeu b ns).1.2.1 = b.2.1
 | [], b, _ => rfl
 | n :: t, b, e => by
   unfold aeu at e ⊢
   split
   ·rename_i h1; rw [if_pos h1] at e; exact absurd e h1
   ·rename_i h1
    rw [if_neg h1] at e
    rw [amt e, ayW (by simpa using h1)]
theorem adk.inn {b : acq} (h : adk b) (hn : ∀ g ∈ b.2.1, I64 g.2.2.2.2.1.1) : In b := ⟨h.size, hn⟩
theorem age {b : acq} (h : adk b) : aHc b = ((((acd b).length : Int) + 1, acp b), aeG b, 0) := by
 unfold aHc
 rw [if_neg (by simp [(aco b).2 h])]
theorem anB {b : acq} (h : adk b) (n : Int × Int) : aEJ b n = if amr b n.1 n.2 = 0 then (0, 5) else (amr b n.1 n.2, 0) := by
 unfold aEJ
 rw [if_neg (by simp [(aco b).2 h])]
abbrev Flat : Type := Int × Int × List acO × List (Int × Int) × List ayO × List Cmp × List (Int × Int)
def flat (b : acq) : Flat := (b.1.1, b.1.2, b.2.1, b.2.2.1, b.2.2.2.1, b.2.2.2.2.1, b.2.2.2.2.2)
theorem apm (b : acq) : (((flat b).1, (flat b).2.1), (flat b).2.2) = b := rfl
section
variable {ρ : Type}
def aSZ (ns : List (Int × Int)) (E1 : Int × Flat → Option ρ) (K1 : Flat → Option ρ) (b : acq) : Option ρ :=
 acj (fun (v : Int × Flat) kk => ac4 (acx ns) ns v.1 v.2.1 v.2.2.1 v.2.2.2.1 v.2.2.2.2.1 v.2.2.2.2.2.1 v.2.2.2.2.2.2.1 v.2.2.2.2.2.2.2 (fun u1 u2 u3 u4 u5 u6 u7 u8 => kk (u1, u2, u3, u4, u5, u6, u7, u8)) (fun z => E1 z) (fun z => K1 z)) ((0 : Int), b.1.1, b.1.2, b.2.1, b.2.2.1, b.2.2.2.1, b.2.2.2.2.1, b.2.2.2.2.2)
theorem aOX {ns : List (Int × Int)} (hl : ns.length ≤ 1000) {E1 : Int × Flat → Option ρ} {K1 : Flat → Option ρ} (R : Int → Option ρ) (h1 : ∀ z, z.1 ≠ 0 → E1 z = R z.1) {b : acq} (hg : adk b) (hn : ∀ g ∈ b.2.1, I64 g.2.2.2.2.1.1) :
 aSZ ns E1 K1 b = if (aeu b ns).2 ≠ 0 then R (aeu b ns).2 else K1 (flat (aeu b ns).1) := by
 unfold aSZ
 refine ayF ns (fun (i : Nat) (s : Flat) (t : List (Int × Int)) => if (aeu ((s.1, s.2.1), s.2.2) t).2 ≠ 0 then R (aeu ((s.1, s.2.1), s.2.2) t).2 else K1 (flat (aeu ((s.1, s.2.1), s.2.2) t).1))
  (fun i s => adk ((s.1, s.2.1), s.2.2) ∧ ∀ g ∈ s.2.2.1, I64 g.2.2.2.2.1.1) (fun s hs kn => ?_) (fun i n t s hd hi ha hs kn hk => ?_) (s := flat b) ⟨hg, hn⟩
 ·dsimp only
  unfold ac4
  rw [acJ]
  rfl
 ·dsimp only
  unfold ac4
  obtain ⟨hs1, hs2⟩ := hs
  have hin : In ((s.1, s.2.1), s.2.2) := hs1.inn hs2
  rw [acm hi, afR hi, aep ha]
  rw [show adt ((s.1, s.2.1), s.2.2.1, s.2.2.2.1, s.2.2.2.2.1, s.2.2.2.2.2.1, s.2.2.2.2.2.2) n = adt ((s.1, s.2.1), s.2.2) n from rfl, apJ hin, ab1]
  rw [show aeY ((s.1, s.2.1), s.2.2.1, s.2.2.2.1, s.2.2.2.2.1, s.2.2.2.2.2.1, s.2.2.2.2.2.2) n = aeY ((s.1, s.2.1), s.2.2) n from rfl, aLR hin, ab1]
  rw [anB hs1]
  generalize hB : (((s.1, s.2.1), s.2.2) : acq) = B at hs1 hin ⊢
  have hu : aeu B (n :: t) = if (afQ B n).2 ≠ 0 then (aif, (afQ B n).2) else aeu (afQ B n).1 t := rfl
  rw [hu]
  by_cases h0 : amr B n.1 n.2 = 0
  ·rw [if_pos h0, ack (by rfl)]
   by_cases h2 : acy (ag8 B n) = 0
   ·have e : afQ B n = (ag8 B n, 0) := by unfold afQ; rw [if_neg (by simp [h0]), if_neg (by simp [h2])]
    have e2 : ayk B n = (ag8 B n, 0) := by unfold ayk; rw [if_neg (by simp [(aco B).2 hs1]), if_neg (by simp [h2])]
    rw [e2, e, ack (by rfl), aci hi (by omega), if_neg (show ¬ ((0 : Int) ≠ 0) by simp)]
    subst hB
    exact hk (s.1, s.2.1, s.2.2.1, s.2.2.2.1, s.2.2.2.2.1, s.2.2.2.2.2.1, s.2.2.2.2.2.2 ++ [n]) ⟨(aco _).1 h2, hs2⟩
   ·have e : afQ B n = (aif, acy (ag8 B n)) := by unfold afQ; rw [if_neg (by simp [h0]), if_pos h2]
    have e2 : ayk B n = (aif, acy (ag8 B n)) := by unfold ayk; rw [if_neg (by simp [(aco B).2 hs1]), if_pos h2]
    rw [e2, e, acv (by simp [ine, h2]), if_pos h2, if_pos h2]
    exact h1 _ h2
  ·have e : afQ B n = (B, 0) := by unfold afQ; rw [if_pos h0]
   rw [if_neg h0, acv (by rfl), aci hi (by omega), e, if_neg (show ¬ ((0 : Int) ≠ 0) by simp)]
   subst hB
   exact hk s ⟨hs1, hs2⟩
theorem amw {b : acq} (hI : In b) {ns : List (Int × Int)} (hl : ns.length ≤ 1000) {E0 : Int → Option ρ} {E1 : Int × Flat → Option ρ} {E2 : Flat → Sys × List (Int × Int) × Int → Option ρ} {E3 : Flat → Sys × List (Int × Int) × Int → Bool × Int → Option ρ}
 {K : Flat → Sys × List (Int × Int) × Int → Bool × Int → Option ρ} (R : Int → Option ρ) (h0 : ∀ e, e ≠ 0 → E0 e = R e) (h1 : ∀ z, z.1 ≠ 0 → E1 z = R z.1) (h3 : ∀ z s r, E3 z s r = R 9) :
 ab4 (acR b) (fun r1 => ifb (ine r1 (0 : Int)) (E0 r1) (aSZ ns E1 (fun z8 => ab4 (adr ((z8.1, z8.2.1), z8.2.2)) fun r9 => ifb (ine r9.2.2 (0 : Int)) (E2 z8 r9) (ab4 (ado r9.1) fun r10 => ifb (!r10.1) (E3 z8 r9 r10) (K z8 r9 r10))) b)) =
 if (adg b ns).2 ≠ 0 then R (adg b ns).2 else K (flat (adg b ns).1) ((((acd (adg b ns).1).length : Int) + 1, acp (adg b ns).1), aeG (adg b ns).1, 0) (true, 0) := by
 rw [afZ hI.size hI.num, ab1]
 unfold adg
 by_cases hc : acy b = 0
 ·have hg := (aco b).1 hc
  rw [ack (by simp [ine, hc]), if_neg (show ¬ (acy b ≠ 0) from fun h => h hc), aOX hl R h1 hg hI.num]
  by_cases hr : (aeu b ns).2 = 0
  ·rw [if_neg (show ¬ ((aeu b ns).2 ≠ 0) from fun h => h hr), if_neg (show ¬ ((aeu b ns).2 ≠ 0) from fun h => h hr)]
   have hB := ay7 hg hr
   have hBn : ∀ g ∈ (aeu b ns).1.2.1, I64 g.2.2.2.2.1.1 := by rw [amt hr]; exact hI.num
   generalize (aeu b ns).1 = B at hB hBn ⊢
   rw [apm, akh (hB.inn hBn), ab1, age hB, ack (by rfl)]
   dsimp only
   rw [show (((acd B).length : Int) + 1) = (((acd B).length + 1 : Nat) : Int) by push_cast; rfl, auZ hB.sys, ab1]
   cases ho : adC (acp B) ((acd B).length + 1) with
   | true =>
     rw [if_neg (by simp)]
     simp only [Bool.not_true, acM]
     push_cast
     rfl
   | false =>
     rw [if_pos (by simp)]
     simp only [Bool.not_false, aei]
     rw [h3]
     rfl
  ·rw [if_pos hr, if_pos hr, if_pos hr]
 ·rw [acv (by simp [ine, hc]), h0 _ hc, if_pos hc, if_pos hc]
end
end Go.Proofs.ZzM
end
noncomputable section
namespace Go.Proofs.ZzM
open Go Go.Am
def aKh (b : acq) (id day : Int) : Bool := b.2.2.1.any fun u => u.1 == id && u.2 == day
def aQg (b : acq) (g : acO) (d : Int) : Int := match ayj b g.1 d with | some l => l.2.2 | none => if aKh b g.1 d then g.2.2.2.2.2 else 0
theorem aPE (l : ayO) (id : Int) {f t : Int} (hft : f ≤ t) : (if l.1 = id ∧ 0 < adb l f (t + 1) then adb l f (t + 1) * l.2.2 else 0) = (if l.1 = id ∧ 0 < adb l f t then adb l f t * l.2.2 else 0) + (if l.1 = id ∧ l.2.1.1 ≤ t ∧ t ≤ l.2.1.2 then l.2.2 else 0) := by
 by_cases hid : l.1 = id
 ·by_cases h1 : l.2.1.1 ≤ t ∧ t ≤ l.2.1.2
  ·have e : adb l f (t + 1) = adb l f t + 1 := by unfold adb; omega
   have p : 0 ≤ adb l f t := by unfold adb; omega
   rw [e, if_pos ⟨hid, by omega⟩, if_pos (show l.1 = id ∧ l.2.1.1 ≤ t ∧ t ≤ l.2.1.2 from ⟨hid, h1⟩), Int.add_mul, Int.one_mul]
   by_cases hp : 0 < adb l f t
   ·rw [if_pos ⟨hid, hp⟩]
   ·rw [if_neg (fun h => hp h.2)]
    have : adb l f t = 0 := by omega
    rw [this]
    omega
  ·rw [if_neg (show ¬ (l.1 = id ∧ l.2.1.1 ≤ t ∧ t ≤ l.2.1.2) from fun h => h1 h.2), Int.add_zero]
   by_cases hlo : l.2.1.1 ≤ t
   ·have e : adb l f (t + 1) = adb l f t := by unfold adb; omega
    rw [e]
   ·have p1 : ¬ 0 < adb l f (t + 1) := by unfold adb; omega
    have p2 : ¬ 0 < adb l f t := by unfold adb; omega
    rw [if_neg (fun h => p1 h.2), if_neg (fun h => p2 h.2)]
 ·rw [if_neg (fun h => hid h.1), if_neg (fun h => hid h.1), if_neg (fun h => hid h.1)]
  rfl
theorem aD7 (id : Int) {f t : Int} (hft : f ≤ t) : ∀ {x : List ayO}, x.Pairwise (fun a c => ¬ (a.1 = c.1 ∧ a.2.1.1 ≤ c.2.1.2 ∧ c.2.1.1 ≤ a.2.1.2)) →
 adz id f (t + 1) x = adz id f t x + (match x.find? (fun l => l.1 == id && inP t l.2.1.1 l.2.1.2) with | some l => l.2.2 | none => 0)
 | [], _ => rfl
 | l :: r, hp => by
   rw [List.pairwise_cons] at hp
   have ih := aD7 id hft hp.2
   simp only [adz]
   rw [ih, aPE l id hft, List.find?_cons]
   by_cases hm : l.1 = id ∧ l.2.1.1 ≤ t ∧ t ≤ l.2.1.2
   ·have e : (l.1 == id && inP t l.2.1.1 l.2.1.2) = true := by simp [inP, hm.1, hm.2.1, hm.2.2]
    have hn : r.find? (fun l => l.1 == id && inP t l.2.1.1 l.2.1.2) = none := by
     rw [List.find?_eq_none]
     intro c hc hcm
     simp only [inP, Bool.and_eq_true, beq_iff_eq, decide_eq_true_eq] at hcm
     exact hp.1 c hc ⟨by rw [hm.1, hcm.1], by omega, by omega⟩
    rw [if_pos hm, e, hn]
    simp only
    omega
   ·have e : (l.1 == id && inP t l.2.1.1 l.2.1.2) = false := by
     rw [Bool.eq_false_iff]
     intro h
     simp only [inP, Bool.and_eq_true, beq_iff_eq, decide_eq_true_eq] at h
     exact hm h
    rw [if_neg hm, e]
    simp only
    omega
section
variable {b : acq}
theorem adk.apart (h : adk b) : b.2.2.2.1.Pairwise (fun a c => ¬ (a.1 = c.1 ∧ a.2.1.1 ≤ c.2.1.2 ∧ c.2.1.1 ≤ a.2.1.2)) := by
 rw [List.pairwise_iff_getElem]
 intro i j hi hj hij ⟨h1, h2, h3⟩
 have hz := h.loans j _ (List.getElem?_eq_getElem hj)
 unfold aLg at hz
 have hany : (b.2.2.2.1.take j).any (fun x => x.1 == b.2.2.2.1[j].1 && (decide (x.2.1.1 ≤ b.2.2.2.1[j].2.1.2) && decide (b.2.2.2.1[j].2.1.1 ≤ x.2.1.2))) = true := by
  rw [List.any_eq_true]
  exact ⟨b.2.2.2.1[i], List.mem_iff_getElem.2 ⟨i, by rw [List.length_take]; omega, by rw [List.getElem_take]⟩, by simp [h1, h2, h3]⟩
 rw [hany] at hz
 (repeat' split at hz) <;> first | omega | simp_all
theorem adk.notUsed (h : adk b) {id d : Int} {l : ayO} (hl : ayj b id d = some l) : aKh b id d = false := by
 have hm := List.mem_of_find?_eq_some hl
 have hp := List.find?_some hl
 simp only [inP, Bool.and_eq_true, beq_iff_eq, decide_eq_true_eq] at hp
 obtain ⟨j, hj, rfl⟩ := List.mem_iff_getElem.1 hm
 have hz := h.loans j _ (List.getElem?_eq_getElem hj)
 rw [Bool.eq_false_iff]
 intro hu
 obtain ⟨u, hu, hue⟩ := List.any_eq_true.1 hu
 simp only [Bool.and_eq_true, beq_iff_eq] at hue
 have hany : b.2.2.1.any (fun u => u.1 == b.2.2.2.1[j].1 && inP u.2 b.2.2.2.1[j].2.1.1 b.2.2.2.1[j].2.1.2) = true := by
  rw [List.any_eq_true]
  exact ⟨u, hu, by simp only [inP, Bool.and_eq_true, beq_iff_eq, decide_eq_true_eq]; exact ⟨by rw [hue.1, hp.1], by omega, by omega⟩⟩
 unfold aLg at hz
 rw [hany] at hz
 (repeat' split at hz) <;> first | omega | simp_all
theorem aHm {id f t : Int} (hft : f ≤ t) : aKb (afP b id f (t + 1)) = aKb (afP b id f t) ++ if aKh b id t then [t] else [] := by
 have hm : ∀ t x, x ∈ afP b id f t ↔ aKh b id x = true ∧ f ≤ x ∧ x < t := by
  intro t x
  unfold afP aKh
  simp only [List.mem_map, List.mem_filter, List.any_eq_true, inP, Bool.and_eq_true, beq_iff_eq, decide_eq_true_eq]
  constructor
  ·rintro ⟨u, ⟨h1, h2, h3, h4⟩, rfl⟩
   exact ⟨⟨u, h1, h2, rfl⟩, h3, by omega⟩
  ·rintro ⟨⟨u, h1, h2, rfl⟩, h3, h4⟩
   exact ⟨u, ⟨h1, h2, h3, by omega⟩, rfl⟩
 refine aTL (aKn _) ?_ fun x => ?_
 ·rw [List.pairwise_append]
  refine ⟨aKn _, by split <;> simp, fun a ha c hc => ?_⟩
  rw [apQ, hm] at ha
  split at hc
  ·rw [List.mem_singleton] at hc; omega
  ·cases hc
 ·rw [apQ, hm, List.mem_append, apQ, hm]
  by_cases hu : aKh b id t = true
  ·rw [if_pos hu, List.mem_singleton]
   constructor
   ·rintro ⟨h1, h2, h3⟩
    by_cases he : x = t
    ·exact .inr he
    ·exact .inl ⟨h1, h2, by omega⟩
   ·rintro (⟨h1, h2, h3⟩ | rfl)
    ·exact ⟨h1, h2, by omega⟩
    ·exact ⟨hu, hft, by omega⟩
  ·rw [if_neg hu]
   constructor
   ·rintro ⟨h1, h2, h3⟩
    refine .inl ⟨h1, h2, ?_⟩
    by_cases he : x = t
    ·rw [he] at h1; exact absurd h1 hu
    ·omega
   ·rintro (⟨h1, h2, h3⟩ | h)
    ·exact ⟨h1, h2, by omega⟩
    ·cases h
theorem aI9 (h : adk b) (g : acO) {f t : Int} (hft : f ≤ t) : agS b g f (t + 1) = agS b g f t + aQg b g t := by
 unfold agS aQg
 rw [aD7 g.1 hft h.apart, aHm hft]
 show adz g.1 f t b.2.2.2.1 + (match ayj b g.1 t with | some l => l.2.2 | none => 0) + _ = _
 cases ha : ayj b g.1 t with
 | some l =>
   rw [h.notUsed ha]
   simp only [Bool.false_eq_true, if_false, List.append_nil]
   omega
 | none =>
   simp only
   cases aKh b g.1 t with
   | true => simp only [if_true, List.length_append, List.length_singleton, Int.natCast_add, Int.add_mul]; omega
   | false => simp only [Bool.false_eq_true, if_false, List.append_nil]; omega
theorem aJa (g : acO) {f t : Int} (hft : t ≤ f) : agS b g f t = 0 := by
 unfold agS
 have h1 : ∀ x : List ayO, adz g.1 f t x = 0 := by
  intro x
  induction x with
  | nil => rfl
  | cons l r ih =>
    simp only [adz]
    rw [ih, if_neg (by unfold adb; omega)]
    rfl
 have h2 : afP b g.1 f t = [] := by
  unfold afP
  rw [List.filter_eq_nil_iff.2 fun u hu hc => by
   simp only [inP, Bool.and_eq_true, beq_iff_eq, decide_eq_true_eq] at hc
   omega]
  rfl
 rw [h1, h2]
 have h3 : aKb ([] : List Int) = [] := rfl
 rw [h3]
 simp
end
end Go.Proofs.ZzM
end
noncomputable section
namespace Go.Proofs.ZzM
open Go Go.Am
section
variable {b : acq}
theorem ayE (h : adk b) (g : acO) {f t u : Int} (h1 : f ≤ t) (h2 : t ≤ u) : agS b g f u = agS b g f t + agS b g t u := by
 obtain ⟨n, rfl⟩ : ∃ n : Nat, u = t + n := ⟨(u - t).toNat, by omega⟩
 clear h2
 induction n with
 | zero => simp [aJa]
 | succ n ih =>
   have e : t + ((n + 1 : Nat) : Int) = (t + n) + 1 := by omega
   rw [e, aI9 h g (show f ≤ t + (n : Int) by omega), aI9 h g (show t ≤ t + (n : Int) by omega), ih]
   omega
theorem asb (h : adk b) {g : acO} (hg : g ∈ b.2.1) {f t : Int} (hf : 0 ≤ f) : 0 ≤ agS b g f t := (ang h hg hf).1
def aey (b : acq) (id d : Int) : Int := match ags (acd b) id d with | some j => (j : Int) + 1 | none => 0
theorem akr (h : adk b) {i : Nat} {g : acO} (hg : b.2.1[i]? = some g) {k : Nat} {d : Int} (hk : (acu b g)[k]? = some d) : aey b g.1 d = (off b i : Int) + k + 1 := by
 unfold aey
 rw [aFd h hg hk]
 simp only
 omega
structure akj (b : acq) (p : Int → Int) (g : acO) : Prop where
 hi : p (aey b g.1 g.2.1) ≤ p 0 + (g.2.2.1 + g.2.2.2.1.2)
 lo : p 0 + (g.2.2.1 + g.2.2.2.1.1) ≤ p (aey b g.1 g.2.1)
 down : ∀ d e, d ∈ acu b g → e ∈ acu b g → d ≤ e → p (aey b g.1 e) ≤ p (aey b g.1 d)
 loss : ∀ d e, d ∈ acu b g → e ∈ acu b g → d ≤ e → p (aey b g.1 d) ≤ p (aey b g.1 e) + agS b g d e
theorem ajm (h : adk b) {i : Nat} {g : acO} (hg : b.2.1[i]? = some g) {p : Int → Int} : (∀ l ∈ ac2 b g, p l.2.1 ≤ p l.1 + l.2.2) ↔ akj b p g := by
 have hgm := List.mem_of_getElem? hg
 obtain ⟨tl, htl⟩ := aJF h hgm
 have h0 : aey b g.1 g.2.1 = (off b i : Int) + 1 := by
  have := akr h hg (k := 0) (d := g.2.1) (by rw [htl]; rfl)
  rw [this]
  omega
 constructor
 ·intro hl
  have e1 := hl _ ((adA h hg).2 (.inl rfl))
  have e2 := hl _ ((adA h hg).2 (.inr (.inl rfl)))
  simp only at e1 e2
  have step : ∀ (k : Nat) (d e : Int), (acu b g)[k]? = some d → (acu b g)[k + 1]? = some e → p (aey b g.1 e) ≤ p (aey b g.1 d) ∧ p (aey b g.1 d) ≤ p (aey b g.1 e) + agS b g d e := by
   intro k d e hd he
   have a1 := hl _ ((adA h hg).2 (.inr (.inr ⟨k, d, e, hd, he, .inl rfl⟩)))
   have a2 := hl _ ((adA h hg).2 (.inr (.inr ⟨k, d, e, hd, he, .inr rfl⟩)))
   simp only at a1 a2
   rw [akr h hg hd, akr h hg he]
   have e3 : (off b i : Int) + ((k + 1 : Nat) : Int) + 1 = (off b i : Int) + k + 2 := by omega
   rw [e3]
   exact ⟨by omega, a2⟩
  have pair : ∀ (n k : Nat) (d e : Int), (acu b g)[k]? = some d → (acu b g)[k + n]? = some e → p (aey b g.1 e) ≤ p (aey b g.1 d) ∧ p (aey b g.1 d) ≤ p (aey b g.1 e) + agS b g d e := by
   intro n
   induction n with
   | zero =>
     intro k d e hd he
     rw [Nat.add_zero, hd] at he
     cases he
     rw [aJa g (Int.le_refl _)]
     omega
   | succ n ih =>
     intro k d e hd he
     have hlt := (List.getElem?_eq_some_iff.1 he).1
     have hm : (acu b g)[k + n]? = some ((acu b g)[k + n]'(by omega)) := List.getElem?_eq_getElem (by omega)
     obtain ⟨a1, a2⟩ := ih k d _ hd hm
     obtain ⟨a3, a4⟩ := step (k + n) _ e hm he
     have o1 : d ≤ (acu b g)[k + n]'(by omega) := by
      obtain ⟨hkl, hkd⟩ := List.getElem?_eq_some_iff.1 hd
      rcases Nat.eq_zero_or_pos n with rfl | hn
      ·rw [← hkd]; exact Int.le_of_eq (by congr 1)
      ·have := (List.pairwise_iff_getElem.1 (asn b g)) k (k + n) hkl (by omega) (by omega)
       rw [hkd] at this; omega
     have o2 : (acu b g)[k + n]'(by omega) ≤ e := by
      obtain ⟨hel, hee⟩ := List.getElem?_eq_some_iff.1 he
      have := (List.pairwise_iff_getElem.1 (asn b g)) (k + n) (k + (n + 1)) (by omega) hel (by omega)
      rw [hee] at this; omega
     have := ayE h g o1 o2
     omega
  have any : ∀ d e, d ∈ acu b g → e ∈ acu b g → d ≤ e → p (aey b g.1 e) ≤ p (aey b g.1 d) ∧ p (aey b g.1 d) ≤ p (aey b g.1 e) + agS b g d e := by
   intro d e hd he hde
   obtain ⟨k, hk, rfl⟩ := List.mem_iff_getElem.1 hd
   obtain ⟨m, hm, rfl⟩ := List.mem_iff_getElem.1 he
   have hkm : k ≤ m := by
    rcases Nat.lt_or_ge m k with hlt | hge
    ·have := (List.pairwise_iff_getElem.1 (asn b g)) m k hm hk hlt; omega
    ·exact hge
   exact pair (m - k) k _ _ (List.getElem?_eq_getElem hk) (by rw [show k + (m - k) = m by omega]; exact List.getElem?_eq_getElem hm)
  exact ⟨by rw [h0]; omega, by rw [h0]; omega, fun d e hd he hde => (any d e hd he hde).1, fun d e hd he hde => (any d e hd he hde).2⟩
 ·intro hf l hl
  rcases (adA h hg).1 hl with rfl | rfl | ⟨k, d, e, hd, he, rfl | rfl⟩
  ·have := hf.hi; rw [h0] at this; simp only; omega
  ·have := hf.lo; rw [h0] at this; simp only; omega
  ·have hde : d ≤ e := by
    obtain ⟨a1, a2⟩ := List.getElem?_eq_some_iff.1 hd
    obtain ⟨a3, a4⟩ := List.getElem?_eq_some_iff.1 he
    have := (List.pairwise_iff_getElem.1 (asn b g)) k (k + 1) a1 a3 (by omega)
    rw [a2, a4] at this; omega
   have := hf.down d e (List.mem_of_getElem? hd) (List.mem_of_getElem? he) hde
   rw [akr h hg hd, akr h hg he] at this
   have e3 : (off b i : Int) + ((k + 1 : Nat) : Int) + 1 = (off b i : Int) + k + 2 := by omega
   rw [e3] at this
   simp only
   omega
  ·have hde : d ≤ e := by
    obtain ⟨a1, a2⟩ := List.getElem?_eq_some_iff.1 hd
    obtain ⟨a3, a4⟩ := List.getElem?_eq_some_iff.1 he
    have := (List.pairwise_iff_getElem.1 (asn b g)) k (k + 1) a1 a3 (by omega)
    rw [a2, a4] at this; omega
   have := hf.loss d e (List.mem_of_getElem? hd) (List.mem_of_getElem? he) hde
   rw [akr h hg hd, akr h hg he] at this
   have e3 : (off b i : Int) + ((k + 1 : Nat) : Int) + 1 = (off b i : Int) + k + 2 := by omega
   rw [e3] at this
   simp only
   exact this
theorem aE2 (h : adk b) {p : Int → Int} : Pot (acp b) p ↔ (∀ g ∈ b.2.1, akj b p g) ∧ ∀ c ∈ b.2.2.2.2.1, p (cx b c) ≤ p (cy b c) + (adY b c).2 ∧ p (cy b c) + (adY b c).1 ≤ p (cx b c) := by
 constructor
 ·intro hp
  refine ⟨fun g hg => ?_, fun c hc => ?_⟩
  ·obtain ⟨i, hi, rfl⟩ := List.mem_iff_getElem.1 hg
   exact (ajm h (List.getElem?_eq_getElem hi)).1 fun l hl => hp l.1 l.2.1 l.2.2 (ajA.2 (.inl ⟨i, _, List.getElem?_eq_getElem hi, hl⟩))
  ·have a1 := hp _ _ _ (ajA.2 (.inr ⟨c, hc, .inl rfl⟩))
   have a2 := hp _ _ _ (ajA.2 (.inr ⟨c, hc, .inr rfl⟩))
   omega
 ·rintro ⟨hg, hc⟩ u v m hl
  rcases ajA.1 hl with ⟨i, g, hig, hl⟩ | ⟨c, hcm, hl⟩
  ·exact (ajm h hig).2 (hg g (List.mem_of_getElem? hig)) (u, v, m) hl
  ·obtain ⟨a1, a2⟩ := hc c hcm
   rcases hl with hl | hl
   ·obtain ⟨rfl, rfl, rfl⟩ : u = cy b c ∧ v = cx b c ∧ m = (adY b c).2 := by simpa using hl
    exact a1
   ·obtain ⟨rfl, rfl, rfl⟩ : u = cx b c ∧ v = cy b c ∧ m = -(adY b c).1 := by simpa using hl
    omega
end
end Go.Proofs.ZzM
end
noncomputable section
namespace Go.Proofs.ZzM
open Go Go.Am
def aSB : List Int → Int
 | [] => 0
 | [a] => a
 | a :: b :: t => max a (aSB (b :: t))
theorem aIe : ∀ {l : List Int}, l ≠ [] → (∀ a ∈ l, a ≤ aSB l) ∧ aSB l ∈ l
 | [], h => absurd rfl h
 | [a], _ => ⟨fun x hx => by rw [List.mem_singleton] at hx; rw [hx]; exact Int.le_refl _, by simp [aSB]⟩
 | a :: b :: t, _ => by
   obtain ⟨h1, h2⟩ := aIe (l := b :: t) (by simp)
   have e : aSB (a :: b :: t) = max a (aSB (b :: t)) := rfl
   rw [e]
   constructor
   ·intro x hx
    rcases List.mem_cons.1 hx with rfl | hx
    ·omega
    ·have := h1 x hx; omega
   ·rcases Int.le_total a (aSB (b :: t)) with h | h
    ·rw [Int.max_eq_right h]; exact List.mem_cons_of_mem _ h2
    ·rw [Int.max_eq_left h]; exact List.mem_cons_self
section
variable {b : acq}
def aB7 (b : acq) (f : Int → Int → Int) (z : Int) (v : Int) : Int := if v = 0 then z else match (acd b)[(v - 1).toNat]? with | some n => f n.1 n.2 | none => 0
theorem air (f : Int → Int → Int) (z : Int) : aB7 b f z 0 = z := by unfold aB7; rw [if_pos rfl]
theorem aoj (h : adk b) (f : Int → Int → Int) (z : Int) {g : acO} (hg : g ∈ b.2.1) {d : Int} (hd : d ∈ acu b g) : aB7 b f z (aey b g.1 d) = f g.1 d := by
 obtain ⟨i, hi, rfl⟩ := List.mem_iff_getElem.1 hg
 obtain ⟨k, hk, rfl⟩ := List.mem_iff_getElem.1 hd
 have hgi := List.getElem?_eq_getElem hi
 have hdk := List.getElem?_eq_getElem hk
 rw [akr h hgi hdk]
 unfold aB7
 have e : ((off b i : Int) + k + 1 - 1).toNat = off b i + k := by omega
 rw [if_neg (by omega), e, aRw hgi hdk]
def ayi (b : acq) (l : List Int) (d : Int) : Int := match l with | [] => 0 | x :: _ => aey b x d
theorem aM6 (l : List Int) (d : Int) : atP (acd b) l d = ayi b l d := by
 unfold atP ayi aey
 cases l <;> rfl
theorem awq (c : Cmp) : cx b c = ayi b (ac6 c.2.2.1 c.2.2.2.1) c.2.1 := aM6 _ _
theorem awp (c : Cmp) : cy b c = ayi b (ac6 c.2.2.2.1 c.2.2.1) c.2.1 := aM6 _ _
theorem ajk (h : adk b) {c : Cmp} (hc : c ∈ b.2.2.2.2.1) {x : Int} (hx : x ∈ ac6 c.2.2.1 c.2.2.2.1 ∨ x ∈ ac6 c.2.2.2.1 c.2.2.1) : ∃ g ∈ b.2.1, g.1 = x ∧ c.2.1 ∈ acu b g := by
 have hx' : (x ∈ c.2.2.1 ∧ x ∉ c.2.2.2.1) ∨ (x ∈ c.2.2.2.1 ∧ x ∉ c.2.2.1) := by
  rcases hx with hx | hx
  ·exact .inl (aiJ.1 hx)
  ·exact .inr (aiJ.1 hx)
 have hm : x ∈ c.2.2.1 ++ c.2.2.2.1 := by rw [List.mem_append]; exact hx'.imp (·.1) (·.1)
 obtain ⟨⟨g, hg, _⟩, _⟩ := h.pile hc hm
 obtain ⟨hgm, hid⟩ := akX hg
 refine ⟨g, hgm, hid, aiR.2 (.inr (.inl ⟨c, hc, ?_, rfl⟩))⟩
 rw [hid]
 intro he
 rw [Bool.eq_iff_iff, List.contains_iff_mem, List.contains_iff_mem] at he
 rcases hx' with ⟨a, e⟩ | ⟨a, e⟩
 ·exact e (he.1 a)
 ·exact e (he.2 a)
def fill (b : acq) (p : Int → Int) (g : acO) (d : Int) : Int := aSB ((acu b g).map fun e => if d ≤ e then p (aey b g.1 e) else p (aey b g.1 e) - agS b g e d)
theorem aBg {p : Int → Int} {g : acO} (d : Int) : (∀ e ∈ acu b g, (if d ≤ e then p (aey b g.1 e) else p (aey b g.1 e) - agS b g e d) ≤ fill b p g d) ∧ ∃ e ∈ acu b g, fill b p g d = if d ≤ e then p (aey b g.1 e) else p (aey b g.1 e) - agS b g e d := by
 have hne : ((acu b g).map fun e => if d ≤ e then p (aey b g.1 e) else p (aey b g.1 e) - agS b g e d) ≠ [] := by
  intro h
  have := List.map_eq_nil_iff.1 h
  have h2 := aip (b := b) g
  rw [this] at h2
  cases h2
 obtain ⟨h1, h2⟩ := aIe hne
 refine ⟨fun e he => h1 _ (List.mem_map.2 ⟨e, he, rfl⟩), ?_⟩
 obtain ⟨e, he, hx⟩ := List.mem_map.1 h2
 exact ⟨e, he, hx.symm⟩
theorem ayI (h : adk b) {p : Int → Int} {g : acO} (hg : g ∈ b.2.1) (hf : akj b p g) {d : Int} (hd : d ∈ acu b g) : fill b p g d = p (aey b g.1 d) := by
 obtain ⟨h1, e, he, h2⟩ := aBg (b := b) (p := p) (g := g) d
 have h3 := h1 d hd
 rw [if_pos (Int.le_refl _)] at h3
 have h4 : fill b p g d ≤ p (aey b g.1 d) := by
  rw [h2]
  split
  ·rename_i hde
   exact hf.down d e hd he hde
  ·rename_i hde
   have := hf.loss e d he hd (by omega)
   omega
 omega
theorem auF (h : adk b) {p : Int → Int} {g : acO} (hg : g ∈ b.2.1) (hf : akj b p g) {d e : Int} (h0 : g.2.1 ≤ d) (hde : d ≤ e) : fill b p g e ≤ fill b p g d ∧ fill b p g d ≤ fill b p g e + agS b g d e := by
 obtain ⟨a1, x, hx, a2⟩ := aBg (b := b) (p := p) (g := g) d
 obtain ⟨b1, y, hy, b2⟩ := aBg (b := b) (p := p) (g := g) e
 have hm := (h.gaugeR hg).2.2.2.2.1
 have hl := asb h hg (f := d) (t := e) (by omega)
 have dx := h.day hg hx
 have dy := h.day hg hy
 constructor
 ·have q := a1 y hy
  rw [b2]
  by_cases c1 : e ≤ y
  ·rw [if_pos c1]
   rw [if_pos (by omega)] at q
   exact q
  ·rw [if_neg c1]
   by_cases c2 : d ≤ y
   ·rw [if_pos c2] at q
    have := asb h hg (f := y) (t := e) dy.2.1
    omega
   ·rw [if_neg c2] at q
    have := ayE h g (f := y) (t := d) (u := e) (by omega) hde
    omega
 ·have q := b1 x hx
  rw [a2]
  by_cases c1 : d ≤ x
  ·rw [if_pos c1]
   by_cases c2 : e ≤ x
   ·rw [if_pos c2] at q
    omega
   ·rw [if_neg c2] at q
    have := ayE h g (f := d) (t := x) (u := e) c1 (by omega)
    have := asb h hg (f := d) (t := x) (by omega)
    omega
  ·rw [if_neg c1]
   rw [if_neg (by omega)] at q
   have := ayE h g (f := x) (t := d) (u := e) (by omega) hde
   omega
end
end Go.Proofs.ZzM
end
noncomputable section
namespace Go.Proofs.ZzM
open Go Go.Am
section
variable {b : acq} {c : Cmp}
theorem aA5 : acE (acl b c) = (acl b c).2.1.flatMap (ac2 (acl b c)) ++ b.2.2.2.2.1.flatMap (acQ (acl b c)) := by
 unfold acE
 have e : acp (acl b c) = ((acl b c).2.1.flatMap (ac2 (acl b c)) ++ b.2.2.2.2.1.flatMap (acQ (acl b c))) ++ acQ (acl b c) c := by
  unfold acp
  rw [show (acl b c).2.2.2.2.1 = b.2.2.2.2.1 ++ [c] from rfl, List.flatMap_append, List.append_assoc]
  simp
 rw [e, List.length_append, show (acQ (acl b c) c).length = 2 from rfl, Nat.add_sub_cancel, List.take_left]
theorem ayH (h' : adk (acl b c)) {p : Int → Int} : Pot (acE (acl b c)) p ↔ (∀ g ∈ b.2.1, akj (acl b c) p g) ∧ ∀ d ∈ b.2.2.2.2.1, p (cx (acl b c) d) ≤ p (cy (acl b c) d) + (adY b d).2 ∧ p (cy (acl b c) d) + (adY b d).1 ≤ p (cx (acl b c) d) := by
 rw [aA5]
 constructor
 ·intro hp
  refine ⟨fun g hg => ?_, fun d hd => ?_⟩
  ·obtain ⟨i, hi, rfl⟩ := List.mem_iff_getElem.1 hg
   exact (ajm h' (i := i) (List.getElem?_eq_getElem hi)).1 fun l hl => hp l.1 l.2.1 l.2.2 (List.mem_append.2 (.inl (List.mem_flatMap.2 ⟨_, List.getElem_mem hi, hl⟩)))
  ·have a1 := hp (cy (acl b c) d) (cx (acl b c) d) (adY (acl b c) d).2 (List.mem_append.2 (.inr (List.mem_flatMap.2 ⟨d, hd, by simp [acQ]⟩)))
   have a2 := hp (cx (acl b c) d) (cy (acl b c) d) (-(adY (acl b c) d).1) (List.mem_append.2 (.inr (List.mem_flatMap.2 ⟨d, hd, by simp [acQ]⟩)))
   have e : adY (acl b c) d = adY b d := rfl
   rw [e] at a1 a2
   omega
 ·rintro ⟨hg, hc⟩ u v m hl
  rcases List.mem_append.1 hl with hl | hl
  ·obtain ⟨g, hgm, hl⟩ := List.mem_flatMap.1 hl
   obtain ⟨i, hi, rfl⟩ := List.mem_iff_getElem.1 hgm
   exact (ajm h' (i := i) (List.getElem?_eq_getElem hi)).2 (hg _ hgm) (u, v, m) hl
  ·obtain ⟨d, hd, hl⟩ := List.mem_flatMap.1 hl
   obtain ⟨a1, a2⟩ := hc d hd
   have e : adY (acl b c) d = adY b d := rfl
   simp only [acQ, List.mem_cons, List.not_mem_nil, or_false, e] at hl
   rcases hl with hl | hl
   ·obtain ⟨rfl, rfl, rfl⟩ : u = cy (acl b c) d ∧ v = cx (acl b c) d ∧ m = (adY b d).2 := by simpa using hl
    exact a1
   ·obtain ⟨rfl, rfl, rfl⟩ : u = cx (acl b c) d ∧ v = cy (acl b c) d ∧ m = -(adY b d).1 := by simpa using hl
    omega
theorem ake {g : acO} {d : Int} (hd : d ∈ acu b g) : d ∈ acu (acl b c) g := by
 rcases aiR.1 hd with e | ⟨x, hx, h1, h2⟩ | hn
 ·exact aiR.2 (.inl e)
 ·exact aiR.2 (.inr (.inl ⟨x, List.mem_append.2 (.inl hx), h1, h2⟩))
 ·exact aiR.2 (.inr (.inr hn))
theorem aPx (g : acO) (f t : Int) : agS (acl b c) g f t = agS b g f t := rfl
theorem awx {b' : acq} (h' : adk b') {l : List Int} {day : Int} (f : Int → Int → Int) (z : Int) (hl : ∀ x ∈ l, ∃ g ∈ b'.2.1, g.1 = x ∧ day ∈ acu b' g) : aB7 b' f z (ayi b' l day) = match l with | [] => z | x :: _ => f x day := by
 unfold ayi
 cases l with
 | nil => exact air f z
 | cons x t =>
   obtain ⟨g, hg, rfl, hd⟩ := hl x (by simp)
   exact aoj h' f z hg hd
theorem aPa (h : adk b) (h' : adk (acl b c)) : (∃ p, Pot (acp b) p) ↔ ∃ p, Pot (acE (acl b c)) p := by
 constructor
 ·rintro ⟨p, hp⟩
  obtain ⟨hg, hc⟩ := (aE2 h).1 hp
  let f : Int → Int → Int := fun id d => match ahr b id with | some g => fill b p g d | none => 0
  have hfv : ∀ g ∈ b.2.1, ∀ d, f g.1 d = fill b p g d := fun g hgm d => by
   show (match ahr b g.1 with | some g => fill b p g d | none => 0) = _
   rw [ase h.ids hgm]
  have hq : ∀ g ∈ b.2.1, ∀ d ∈ acu (acl b c) g, aB7 (acl b c) f (p 0) (aey (acl b c) g.1 d) = fill b p g d := fun g hgm d hd => by
   rw [aoj h' f (p 0) hgm hd, hfv g hgm d]
  refine ⟨aB7 (acl b c) f (p 0), (ayH h').2 ⟨fun g hgm => ?_, fun d hd => ?_⟩⟩
  ·have gf := hg g hgm
   have hmade : g.2.1 ∈ acu b g := aip g
   have e0 := hq g hgm g.2.1 (aip g)
   rw [ayI h hgm gf hmade] at e0
   refine ⟨?_, ?_, fun x y hx hy hxy => ?_, fun x y hx hy hxy => ?_⟩
   ·rw [e0, air]; exact gf.hi
   ·rw [e0, air]; exact gf.lo
   ·rw [hq g hgm x hx, hq g hgm y hy]
    exact (auF h hgm gf (h'.day hgm hx).1 hxy).1
   ·rw [hq g hgm x hx, hq g hgm y hy, aPx]
    exact (auF h hgm gf (h'.day hgm hx).1 hxy).2
  ·have key : ∀ l : List Int, (∀ x ∈ l, ∃ g ∈ b.2.1, g.1 = x ∧ d.2.1 ∈ acu b g) → aB7 (acl b c) f (p 0) (ayi (acl b c) l d.2.1) = p (ayi b l d.2.1) := by
    intro l hl
    rw [awx h' f (p 0) (fun x hx => by obtain ⟨g, q1, q2, q3⟩ := hl x hx; exact ⟨g, q1, q2, ake q3⟩)]
    cases l with
    | nil => rfl
    | cons x t =>
      obtain ⟨g, q1, rfl, q3⟩ := hl x (by simp)
      show f g.1 d.2.1 = p (aey b g.1 d.2.1)
      rw [hfv g q1, ayI h q1 (hg g q1) q3]
   rw [awq, awp, key _ (fun x hx => ajk h hd (.inl hx)), key _ (fun x hx => ajk h hd (.inr hx)), ← awq, ← awp]
   exact hc d hd
 ·rintro ⟨p, hp⟩
  obtain ⟨hg, hc⟩ := (ayH h').1 hp
  let f : Int → Int → Int := fun id d => p (aey (acl b c) id d)
  have hq : ∀ g ∈ b.2.1, ∀ d ∈ acu b g, aB7 b f (p 0) (aey b g.1 d) = p (aey (acl b c) g.1 d) := fun g hgm d hd => aoj h f (p 0) hgm hd
  refine ⟨aB7 b f (p 0), (aE2 h).2 ⟨fun g hgm => ?_, fun d hd => ?_⟩⟩
  ·have gf := hg g hgm
   have e0 := hq g hgm g.2.1 (aip g)
   refine ⟨?_, ?_, fun x y hx hy hxy => ?_, fun x y hx hy hxy => ?_⟩
   ·rw [e0, air]; exact gf.hi
   ·rw [e0, air]; exact gf.lo
   ·rw [hq g hgm x hx, hq g hgm y hy]
    exact gf.down x y (ake hx) (ake hy) hxy
   ·rw [hq g hgm x hx, hq g hgm y hy]
    exact gf.loss x y (ake hx) (ake hy) hxy
  ·have key : ∀ l : List Int, (∀ x ∈ l, ∃ g ∈ b.2.1, g.1 = x ∧ d.2.1 ∈ acu b g) → aB7 b f (p 0) (ayi b l d.2.1) = p (ayi (acl b c) l d.2.1) := by
    intro l hl
    rw [awx h f (p 0) hl]
    cases l <;> rfl
   rw [awq, awp, key _ (fun x hx => ajk h hd (.inl hx)), key _ (fun x hx => ajk h hd (.inr hx)), ← awq, ← awp]
   exact hc d hd
end
end Go.Proofs.ZzM
end
noncomputable section
namespace Go.Proofs.ZzM
open Go Go.Am
section
variable {L : List Lk} {N : Nat}
theorem Wl.app {u v : Int} {vs : List Int} {d : Int} (h1 : Wl L (fun x => x = u) vs v d) {ws : List Int} {w e : Int} (h2 : Wl L (fun x => x = v) ws w e) : ∃ xs, Wl L (fun x => x = u) xs w (d + e) := by
 induction h2 with
 | nil h => subst h; exact ⟨vs, by rw [Int.add_zero]; exact h1⟩
 | step hw hx ih =>
   obtain ⟨xs, hi⟩ := ih
   have := Wl.step hi hx
   rw [Int.add_assoc] at this
   exact ⟨_, this⟩
def dst (L : List Lk) (N : Nat) (s t : Int) : Int := gv (alw L N s) t
theorem aQb (h : afo L N) (ht : auY L N) (ho : adC L N = true) {s t : Int} (hs : 0 ≤ s ∧ s < N) (hv : 0 ≤ t ∧ t < N) : dst L N s t ≤ 9007199254740992 := by
 have h2 := h.n60
 obtain ⟨p, hp⟩ := (aex h.links (by omega)).1 ho
 obtain ⟨vs, d, hw, hd⟩ := ht.from' s hs.1 hs.2
 obtain ⟨ws, e, hx, he⟩ := ht.to t hv.1 hv.2
 obtain ⟨xs, hy⟩ := Wl.app hw hx
 have := (agd h.links (by omega) hp hs).low t xs _ (aH6.2 hy)
 unfold dst
 omega
theorem aMS (h : afo L N) (ht : auY L N) (ho : adC L N = true) {s t : Int} (hs : 0 ≤ s ∧ s < N) (hv : 0 ≤ t ∧ t < N) : dst L N s t ≠ afr := by
 have := aQb h ht ho hs hv
 unfold afr
 omega
theorem aQa (h : afo L N) (ht : auY L N) (ho : adC L N = true) {s : Int} (hs : 0 ≤ s ∧ s < N) : Pot L (dst L N s) := by
 have h2 := h.n60
 obtain ⟨p, hp⟩ := (aex h.links (by omega)).1 ho
 intro u v m hl
 have hr := h.inr _ hl
 exact (agd h.links (by omega) hp hs).pot h.inr hl (aMS h ht ho hs hr.1)
theorem aMR (h : afo L N) (ho : adC L N = true) {s : Int} (hs : 0 ≤ s ∧ s < N) : dst L N s s = 0 := aLK h ho hs.1 hs.2
theorem awo (h : afo L N) (ht : auY L N) (ho : adC L N = true) {s t : Int} (hs : 0 ≤ s ∧ s < N) (hv : 0 ≤ t ∧ t < N) {p : Int → Int} (hp : Pot L p) : p t - p s ≤ dst L N s t := by
 have h2 := h.n60
 obtain ⟨vs, hw⟩ := (agd h.links (by omega) hp hs).att t hv.1 hv.2 (aMS h ht ho hs hv)
 obtain ⟨u, hu, hx⟩ := (aH6.1 hw).pot hp
 subst hu
 exact hx
theorem aQc (h : afo L N) (ht : auY L N) (ho : adC L N = true) {x y : Int} (hx : 0 ≤ x ∧ x < N) (hy : 0 ≤ y ∧ y < N) {t : Int} (h1 : -(dst L N x y) ≤ t) (h2 : t ≤ dst L N y x) : ∃ p, Pot L p ∧ p x - p y = t := by
 refine ⟨fun v => min (dst L N y v) (dst L N x v + t), fun u v m hl => ?_, ?_⟩
 ·have a1 := aQa h ht ho hy u v m hl
  have a2 := aQa h ht ho hx u v m hl
  show min _ _ ≤ min _ _ + m
  omega
 ·have e1 := aMR h ho hx
  have e2 := aMR h ho hy
  show min (dst L N y x) (dst L N x x + t) - min (dst L N y y) (dst L N x y + t) = t
  omega
theorem aBq (h : afo L N) (ht : auY L N) (ho : adC L N = true) {x y : Int} (hx : 0 ≤ x ∧ x < N) (hy : 0 ≤ y ∧ y < N) : -(dst L N x y) ≤ dst L N y x := by
 have h2 := h.n60
 obtain ⟨p, hp⟩ := (aex h.links (by omega)).1 ho
 have a1 := awo h ht ho hx hy hp
 have a2 := awo h ht ho hy hx hp
 omega
theorem aMT (h : afo L N) (ht : auY L N) (ho : adC L N = true) {s t : Int} (hs : 0 ≤ s ∧ s < N) (hv : 0 ≤ t ∧ t < N) : -9007199254740992 ≤ dst L N s t ∧ dst L N s t ≤ 9007199254740992 := by
 have a1 := aQb h ht ho hs hv
 have a2 := aQb h ht ho hv hs
 have a3 := aBq h ht ho hv hs
 omega
theorem aqj (h : afo L N) (ht : auY L N) {s t : Int} (hs : 0 ≤ s ∧ s < N) (hv : 0 ≤ t ∧ t < N) : afp L N s t = if adC L N then (dst L N s t, 0) else (0, 9) := by
 unfold afp
 by_cases ho : adC L N = true
 ·have hne := aMS h ht ho hs hv
  unfold dst at hne ⊢
  rw [if_neg (by simp [ho]), if_neg hne, if_pos ho]
 ·rw [if_pos (by simpa using ho), if_neg ho]
end
section
variable {b : acq} {c : Cmp}
theorem aTn (h' : adk (acl b c)) : GL (acl b c) (acE (acl b c)) := by
 intro i g hg l hl
 rw [aA5]
 exact List.mem_append.2 (.inl (List.mem_flatMap.2 ⟨g, List.mem_of_getElem? hg, hl⟩))
theorem af9 (h' : adk (acl b c)) : auY (acE (acl b c)) ((acd (acl b c)).length + 1) := h'.tiedL (aTn h')
theorem afY (h' : adk (acl b c)) : afo (acE (acl b c)) ((acd (acl b c)).length + 1) :=
 h'.sys.sub (fun l hl => List.mem_of_mem_take hl) (by unfold acE; rw [List.length_take]; omega)
theorem aiL (h : adk b) (h' : adk (acl b c)) : adC (acE (acl b c)) ((acd (acl b c)).length + 1) = adC (acp b) ((acd b).length + 1) := by
 have n1 := h.sys.n60
 have n2 := (afY h').n60
 rw [Bool.eq_iff_iff, aex (afY h').links (by omega), aex h.sys.links (by omega)]
 exact (aPa h h').symm
theorem aku : c ∈ (acl b c).2.2.2.2.1 := by simp [acl]
theorem apB (h' : adk (acl b c)) : 0 ≤ cx (acl b c) c ∧ cx (acl b c) c < ((acd (acl b c)).length + 1 : Nat) := (aGT h' aku).rng
theorem apA (h' : adk (acl b c)) : 0 ≤ cy (acl b c) c ∧ cy (acl b c) c < ((acd (acl b c)).length + 1 : Nat) := (aBu h' aku).rng
def dLo (b : acq) (c : Cmp) : Int := -(dst (acE (acl b c)) ((acd (acl b c)).length + 1) (cx (acl b c) c) (cy (acl b c) c))
def dHi (b : acq) (c : Cmp) : Int := dst (acE (acl b c)) ((acd (acl b c)).length + 1) (cy (acl b c) c) (cx (acl b c) c)
theorem aBW (h : adk b) (h' : adk (acl b (ab5 c))) : acz b c = if adC (acp b) ((acd b).length + 1) then ay2 b (ab5 c) (dLo b (ab5 c), dHi b (ab5 c)) else ((0, 0), 9) := by
 have e : aly b (ab5 c) = (acl b (ab5 c), 0) := by
  unfold aly
  rw [if_neg (by simp [(aco b).2 h]), if_neg (by simp [(aco _).2 h'])]
 unfold acz
 rw [e, aqj (afY h') (af9 h') (apA h') (apB h'), aqj (afY h') (af9 h') (apB h') (apA h'), aiL h h']
 by_cases ho : adC (acp b) ((acd b).length + 1) = true
 ·rw [if_pos ho, if_pos ho, if_pos ho]
  rfl
 ·rw [if_neg ho, if_neg ho, if_neg ho]
  rfl
theorem ahy (hp : (acz b c).2 = 0) : adk b ∧ adk (acl b (ab5 c)) := by
 have hw : (aly b (ab5 c)).2 = 0 := by
  unfold acz at hp
  by_cases hw : (aly b (ab5 c)).2 = 0
  ·exact hw
  ·rw [if_pos hw] at hp; exact hp
 unfold aly at hw
 by_cases hb : acy b = 0
 ·rw [if_neg (by simp [hb])] at hw
  by_cases hm : acy (acl b (ab5 c)) = 0
  ·exact ⟨(aco b).1 hb, (aco _).1 hm⟩
  ·rw [if_pos hm] at hw; exact absurd hw hm
 ·rw [if_pos hb] at hw; exact absurd hw hb
theorem aKl {s : Int × Int} (h : (ay2 b c s).2 = 0) : ayD b c ≤ ajl b c ∧ ay2 b c s = ((s.1 + ayD b c, s.2 + ajl b c), 0) := by
 unfold ay2 at h ⊢
 split at h
 ·simp at h
 ·rename_i hl
  rw [if_neg hl]
  exact ⟨by omega, rfl⟩
end
end Go.Proofs.ZzM
end