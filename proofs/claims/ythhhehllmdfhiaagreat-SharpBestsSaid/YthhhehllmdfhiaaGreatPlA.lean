/- lemmas -/
import Derived.Test.YthhhehllmdfhiaaGreatAmF
import Derived.Test.YthhhehllmdfhiaaGreatMdTA
set_option linter.all false
set_option linter.unusedSectionVars false
set_option linter.unusedVariables false
set_option linter.unusedSimpArgs false
noncomputable section
namespace Go.Am
section
variable {ρ : Type}
def aeN {α β : Type} (e : Nat → α → Option β) : Nat → List α → Option β
 | _, [] => none
 | i, a :: t => match e i a with
   | some b => some b
   | none => aeN e (i + 1) t
theorem ama {α β : Type} (l : List α) (e : Nat → α → Option β) (k0 : β → Option ρ) (k1 : Option ρ) {f : Int → (Int → Option ρ) → Option ρ}
 (h : ∀ (i : Nat) (a : α), i < l.length → l[i]? = some a → ∀ kn, f i kn = match e i a with | some b => k0 b | none => kn ((i : Int) + 1))
 (hn : ∀ kn, f l.length kn = k1) : acp f 0 = match aeN e 0 l with | some b => k0 b | none => k1 := by
 refine aPj l (fun i t => match aeN e i t with | some b => k0 b | none => k1) hn fun i a t hd hi ha kn hk => ?_
 rw [h i a hi ha kn, hk, aeN]
 cases e i a <;> rfl
theorem adh {α σ : Type} (l : List α) (g : Nat → σ) (r : Option ρ) {f : Int × σ → (Int × σ → Option ρ) → Option ρ} {s0 : σ} (h0 : g 0 = s0)
 (h : ∀ (i : Nat) (a : α), i < l.length → l[i]? = some a → ∀ kn, f (i, g i) kn = kn ((i : Int) + 1, g (i + 1)))
 (hn : ∀ kn, f (l.length, g l.length) kn = r) : acp f (0, s0) = r := by
 subst h0
 have hs : ∀ s, (s = g 0) → acp f (0, s) = r := fun s e => aGu l (fun _ _ _ => r) (fun i s => s = g i) (fun s hs kn => by rw [hs]; exact hn kn) (fun i a t s hd hi ha hI kn hk => by
  rw [hI, h i a hi ha kn]; exact hk _ rfl) e
 exact hs _ rfl
theorem aco {i n : Nat} (h : i < n) (hn : n ≤ 1000000000) (f : Int → Option ρ) : ck ((i : Int) + 1) f = f ((i : Int) + 1) := acx (by omega) (by omega) f
theorem ifb_lt {i n : Nat} (h : i < n) (x y : Option ρ) : ifb (ilt (i : Int) (aQM n)) x y = x := by simp [adM, azq, h]
theorem acL (n : Nat) (x y : Option ρ) : ifb (ilt (n : Int) (aQM n)) x y = y := by simp [adM, azq]
theorem acs {α : Type} {l : List α} {i : Nat} (h : i < l.length) (x y : Option ρ) : ifb (ilt (i : Int) (acv l)) x y = x := ifb_lt h x y
theorem aA8 {α : Type} (p : α → Bool) : ∀ (i : Nat) (l : List α), aeN (fun i a => bif p a then some (i : Int) else none) i l = (l.findIdx? p).map fun j => ((i + j : Nat) : Int)
 | _, [] => rfl
 | i, a :: t => by
   simp only [aeN, List.findIdx?_cons]
   cases hp : p a with
   | true => simp
   | false =>
     simp only [cond_false, Bool.false_eq_true, if_false]
     rw [aA8 p (i + 1) t]
     cases t.findIdx? p with
     | none => rfl
     | some j => simp only [Option.map_some]; congr 1; omega
theorem aic {α β : Type} {e : Nat → α → Option β} : ∀ {i : Nat} {l : List α}, aeN e i l = none ↔ ∀ j a, l[j]? = some a → e (i + j) a = none
 | _, [] => by simp [aeN]
 | i, a :: t => by
   simp only [aeN]
   constructor
   ·intro h j b hb
    cases he : e i a with
    | some c => rw [he] at h; cases h
    | none =>
      rw [he] at h
      cases j with
      | zero => simp at hb; subst hb; simpa using he
      | succ j => have := (aic.1 h) j b (by simpa using hb); rw [← this]; congr 1; omega
   ·intro h
    have h0 := h 0 a (by simp)
    simp only [Nat.add_zero] at h0
    rw [h0]
    exact aic.2 fun j b hb => by have := h (j + 1) b (by simpa using hb); rw [← this]; congr 1; omega
theorem take_succ {α : Type} {l : List α} {i : Nat} {a : α} (h : l[i]? = some a) : l.take (i + 1) = l.take i ++ [a] := by rw [List.take_succ, h]; rfl
end
end Go.Am
end
noncomputable section
namespace Go.Proofs.ZzM
open Go Go.Am
section
variable {ρ : Type}
theorem afi {τ : Type} {f : τ → (τ → Option ρ) → Option ρ} {r : Option ρ} (I : τ → Prop) (μ : τ → Nat)
 (h : ∀ x, I x → (∀ kn, f x kn = r) ∨ ∃ y, I y ∧ μ y < μ x ∧ ∀ kn, f x kn = kn y) {x : τ} (hx : I x) : acp f x = r :=
 amb (F := fun _ => r) I μ (fun x hx kn hk => by
  rcases h x hx with h1 | ⟨y, h1, h2, h3⟩
  ·exact h1 kn
  ·rw [h3, hk y h1 h2]) hx
theorem afS {α : Type} (l : List α) (p : α → Bool) (k0 : Int → Option ρ) (k1 : Option ρ) {f : Int → (Int → Option ρ) → Option ρ}
 (h : ∀ (i : Nat) (a : α), i < l.length → l[i]? = some a → ∀ kn, f i kn = if p a then k0 i else kn ((i : Int) + 1))
 (hn : ∀ kn, f l.length kn = k1) : acp f 0 = match l.findIdx? p with | some j => k0 j | none => k1 := by
 rw [ama l (fun i a => bif p a then some (i : Int) else none) k0 k1 (fun i a hi ha kn => by rw [h i a hi ha kn]; cases p a <;> rfl) hn, aA8]
 cases l.findIdx? p with
 | none => rfl
 | some j => simp
theorem agq {α : Type} (l : List α) (p : α → Bool) (k0 : Int → Option ρ) (K k1 : Option ρ) {f : Int → (Int → Option ρ) → Option ρ} (hK : ∀ j : Nat, k0 j = K)
 (h : ∀ (i : Nat) (a : α), i < l.length → l[i]? = some a → ∀ kn, f i kn = if p a then k0 i else kn ((i : Int) + 1))
 (hn : ∀ kn, f l.length kn = k1) : acp f 0 = if l.any p then K else k1 := by
 rw [afS l p k0 k1 h hn]
 cases hf : l.findIdx? p with
 | none =>
   have : l.any p = false := by
    rw [List.any_eq_false]
    intro x hx
    have := List.findIdx?_eq_none_iff.1 hf x hx
    simp [this]
   simp [this]
 | some j =>
   have : l.any p = true := by
    have := List.findIdx?_eq_some_iff_getElem.1 hf
    obtain ⟨hj, hp, _⟩ := this
    exact List.any_eq_true.2 ⟨_, List.getElem_mem hj, hp⟩
   simp [this, hK]
end
abbrev acY : Type := Int × Int × Int × (Int × Int) × ((Int × Int) × Int)
abbrev aBO : Type := Int × ((Int × Int) × Int)
abbrev Cmp : Type := Int × Int × List Int × List Int × Int × (Int × (Int × Int))
abbrev acC : Type := (Int × Int) × List acY × List (Int × Int) × List aBO × List Cmp × List (Int × Int)
abbrev Sys : Type := Int × List (Int × Int × Int)
abbrev Maker : Type := acC × List (Int × Int) × Sys × List (Int × Int)
section
variable {ρ : Type}
theorem acD {b : Bool} (h : b = true) (x y : Option ρ) : ifb b x y = x := by rw [h]; rfl
theorem acr {b : Bool} (h : b = false) (x y : Option ρ) : ifb b x y = y := by rw [h]; rfl
end
def I64 (n : Int) : Prop := -9223372036854775808 ≤ n ∧ n ≤ 9223372036854775807
def inP (n lo hi : Int) : Bool := decide (lo ≤ n) && decide (n ≤ hi)
def aLl (n : Int) : Bool := inP n 0 20000
def akq (s : Int × Int) (lo hi : Int) : Bool := decide (lo ≤ s.1) && (decide (s.1 ≤ s.2) && decide (s.2 ≤ hi))
theorem afl (n lo hi : Int) : adp n lo hi = some (inP n lo hi) := by
 unfold adp avZ inP ile
 cases decide (lo ≤ n) <;> rfl
theorem aGz (n : Int) : aiO n = some (aLl n) := by
 unfold aiO aAJ
 rw [afl]; rfl
theorem auE (s : Int × Int) (lo hi : Int) : aeU s lo hi = some (akq s lo hi) := by
 unfold aeU av5 akq ile
 cases decide (lo ≤ s.1) <;> cases decide (s.1 ≤ s.2) <;> rfl
theorem aEF {n : Int} (h : I64 n) : ak4 n = some (n.natAbs : Int) := by
 obtain ⟨h1, h2⟩ := h
 unfold ak4 aFQ
 by_cases hn : n < 0
 ·have : ilt n 0 = true := by simpa using hn
  rw [acD this]
  congr 1
  simp only [IntKind.wrap, IntKind.bits, IntKind.signed]
  simp
  omega
 ·have : ilt n 0 = false := by simpa using hn
  rw [acr this]
  congr 1
  simp only [IntKind.wrap, IntKind.bits, IntKind.signed]
  simp
  omega
theorem aSr (a b : Nat) : aBe a b = some ((Nat.gcd a b : Nat) : Int) := by
 unfold aBe aKQ
 refine afi (fun x : Int × Int => ∃ c d : Nat, x = ((c : Int), (d : Int)) ∧ Nat.gcd c d = Nat.gcd a b) (fun x => x.2.toNat) ?_ ⟨a, b, rfl, rfl⟩
 rintro x ⟨c, d, rfl, hg⟩
 cases d with
 | zero =>
   refine .inl fun kn => ?_
   rw [Nat.gcd_zero_right] at hg
   unfold apX
   simp [hg, ine]
 | succ d =>
   refine .inr ⟨(((d + 1 : Nat) : Int), ((c % (d + 1) : Nat) : Int)), ⟨d + 1, c % (d + 1), rfl, ?_⟩, ?_, fun kn => ?_⟩
   ·rw [← hg, Nat.gcd_comm c (d + 1), Nat.gcd_rec (d + 1) c, Nat.gcd_comm]
   ·have := Nat.mod_lt c (Nat.succ_pos d)
    simp only [Int.toNat_natCast]
    omega
   ·unfold apX
    have h1 : ine ((d + 1 : Nat) : Int) 0 = true := by simp [ine]; omega
    have h2 : aeI ((d + 1 : Nat) : Int) 0 = false := by simp [aeI]; omega
    simp only [h1, acD acr h2]
    congr 1
def aBX (r : Int × Int) : Bool :=
 decide (1 ≤ r.2) && (decide (r.2 ≤ 2147483647) && (decide ((r.1.natAbs : Int) ≤ 2147483647) && decide (Nat.gcd r.1.natAbs r.2.natAbs = 1)))
theorem aG2 {r : Int × Int} (h : I64 r.1) : amk r = some (aBX r) := by
 unfold amk aAq aBX
 by_cases h1 : 1 ≤ r.2
 ·by_cases h2 : r.2 ≤ 2147483647
  ·have h3 : I64 r.2 := ⟨by omega, by omega⟩
   have e1 : ige r.2 1 = true := by simp [ige, h1]
   have e2 : ile r.2 2147483647 = true := by simp [ile, h2]
   rw [acD e1, acD e2, aEF h, ab8]
   by_cases h4 : (r.1.natAbs : Int) ≤ 2147483647
   ·have e4 : ile (r.1.natAbs : Int) 2147483647 = true := by simp [ile, h4]
    rw [acD e4, ab8, aEF h3, ab8, aSr, ab8]
    congr 1
    rw [Bool.eq_iff_iff]
    simp only [ieq, beq_iff_eq, h1, h2, h4, decide_true, Bool.true_and, decide_eq_true_eq]
    omega
   ·have e4 : ile (r.1.natAbs : Int) 2147483647 = false := by simp [ile]; omega
    rw [acr e4]
    simp [h4]
  ·have e1 : ige r.2 1 = true := by simp [ige, h1]
   have e2 : ile r.2 2147483647 = false := by simp [ile]; omega
   rw [acD e1, acr e2]
   simp [h2]
 ·have e1 : ige r.2 1 = false := by simp [ige]; omega
  rw [acr e1]
  simp [h1]
def ard (g : acY) : Bool :=
 aBX g.2.2.2.2.1 && inP g.2.2.2.2.1.1 (-1000) 1000 && decide (g.2.2.2.2.1.2 ≤ 100) && inP g.1 1 1099511627776 && aLl g.2.1 && inP g.2.2.1 1 1125899906842624 && akq g.2.2.2.1 (-1073741824) 1073741824 && inP g.2.2.2.2.2 0 1048576
theorem aNE {g : acY} (h : I64 g.2.2.2.2.1.1) : ant g = some (ard g) := by
 unfold ant ar7 ard
 rw [aG2 h, afl, afl, aGz, afl, auE, afl]
 generalize aBX g.2.2.2.2.1 = x1
 generalize inP g.2.2.2.2.1.1 (-1000) 1000 = x2
 generalize inP g.1 1 1099511627776 = x3
 generalize aLl g.2.1 = x4
 generalize inP g.2.2.1 1 1125899906842624 = x5
 generalize akq g.2.2.2.1 (-1073741824) 1073741824 = x6
 generalize inP g.2.2.2.2.2 0 1048576 = x7
 unfold ile
 generalize decide (g.2.2.2.2.1.2 ≤ 100) = x8
 cases x1 <;> cases x2 <;> cases x3 <;> cases x4 <;> cases x5 <;> cases x6 <;> cases x8 <;> rfl
end Go.Proofs.ZzM
end
noncomputable section
namespace Go.Proofs.ZzM
open Go Go.Am
section
variable {ρ : Type}
theorem aJg {α : Type} {l : List α} {i : Nat} {a : α} (h0 : 0 < i) (h : l[i - 1]? = some a) (f : α → Option ρ) : adL l ((i : Int) - 1) f = f a := by
 have : ((i : Int) - 1) = ((i - 1 : Nat) : Int) := by omega
 rw [this, acn h]
theorem aP7 {i : Nat} (h : 0 < i) (hn : i ≤ 1000000000) (f : Int → Option ρ) : ck ((i : Int) - 1) f = f ((i : Int) - 1) := acx (by omega) (by omega) f
theorem afX {i n : Nat} (h : i < n) (x : Option ρ) : acT ((ile 0 (i : Int)) && (ilt (i : Int) (n : Int))) x = x := by
 have : ((ile 0 (i : Int)) && (ilt (i : Int) (n : Int))) = true := by simp [ile, ilt, h]
 rw [this, Am.iff_true]
theorem aes {α : Type} {l : List α} {i : Nat} {a : α} (h : l[i]? = some a) (f : α → Option ρ) : afm l (Int.toNat (i : Int)) f = f a := by
 rw [Int.toNat_natCast]; exact aky h f
end
def aBF {α : Type} (key : α → Int) (l : List α) (i : Nat) (a : α) : Bool :=
 decide (0 < i) && (l[i - 1]?).any fun q => decide (key a ≤ key q)
theorem aHD {α : Type} {l : List α} {i : Nat} (hi : i < l.length) (h0 : 0 < i) : ∃ q, l[i - 1]? = some q :=
 ⟨l[i - 1], List.getElem?_eq_getElem (by omega)⟩
theorem aMU {α : Type} (key : α → Int) (l : List α) : (∀ i a, l[i]? = some a → aBF key l i a = false) ↔ l.Pairwise (fun a b => key a < key b) := by
 rw [List.pairwise_iff_getElem]
 constructor
 ·intro h
  have step : ∀ i (h1 : i + 1 < l.length), key l[i] < key l[i + 1] := by
   intro i h1
   have := h (i + 1) l[i + 1] (List.getElem?_eq_getElem h1)
   simp only [aBF, Nat.add_sub_cancel, Nat.succ_pos, decide_true, Bool.true_and, List.getElem?_eq_getElem (show i < l.length by omega), Option.any_some, decide_eq_false_iff_not] at this
   omega
  intro i j hi hj hij
  induction j with
  | zero => omega
  | succ j ih =>
    have := step j hj
    rcases Nat.lt_or_ge i j with hlt | hge
    ·have := ih (by omega) hlt; omega
    ·have : i = j := by omega
     subst this; assumption
 ·intro h i a ha
  obtain ⟨hi, rfl⟩ := List.getElem?_eq_some_iff.1 ha
  unfold aBF
  cases i with
  | zero => rfl
  | succ i =>
    have := h i (i + 1) (by omega) hi (by omega)
    simp only [Nat.add_sub_cancel, Nat.succ_pos, decide_true, Bool.true_and, List.getElem?_eq_getElem (show i < l.length by omega), Option.any_some, decide_eq_false_iff_not]
    omega
def apk (l : List acY) (i : Nat) (g : acY) : Option Int :=
 if !ard g then some 1 else if aBF (fun g => g.1) l i g then some 6 else none
def ai2 (b : acC) : Int := (aeN (apk b.2.1) 0 b.2.1).getD 0
theorem aDb {b : acC} (hr : ∀ g ∈ b.2.1, I64 g.2.2.2.2.1.1) (hn : b.2.1.length ≤ 1000) : aeD b = some (ai2 b) := by
 unfold aeD aj7
 refine Eq.trans (ama b.2.1 (apk b.2.1) some (some 0) (fun i a hi ha kn => ?_) (fun kn => ?_)) ?_
 ·try dsimp only
  unfold af5
  rw [acs hi, acn ha, aNE (hr a (List.mem_of_getElem? ha)), ab8]
  unfold apk
  cases hg : ard a with
  | false => simp
  | true =>
    simp only [Bool.not_true, acU, Bool.false_eq_true, if_false]
    rcases Nat.eq_zero_or_pos i with h0 | h0
    ·subst h0
     have : igt ((0 : Nat) : Int) 0 = false := by simp [igt]
     rw [acr this, aco hi (by omega)]
     simp [aBF]
    ·obtain ⟨q, hq⟩ := aHD hi h0
     have h1 : igt (i : Int) 0 = true := by simp [igt]; omega
     rw [acD h1, aP7 h0 (by omega), aJg h0 hq]
     simp only [aBF, h0, decide_true, Bool.true_and, hq, Option.any_some]
     unfold ile
     cases h2 : decide (a.1 ≤ q.1) with
     | true => simp
     | false =>
       rw [acU, aco hi (by omega)]
       simp
 ·try dsimp only
  unfold af5
  rw [acL]
 ·unfold ai2
  cases aeN (apk b.2.1) 0 b.2.1 <;> rfl
def aHs (l : List acY) : List (Int × acY) := l.foldl (fun m g => ayA (k := tI) (v := acl) g.1 g m) []
def ajM (b : acC) : List (Int × acY) := aHs b.2.1
theorem aDp {b : acC} (hn : b.2.1.length ≤ 1000) : ae8 b = some (ajM b) := by
 unfold ae8 ar4
 refine adh b.2.1 (fun i => aHs (b.2.1.take i)) _ rfl (fun i a hi ha kn => ?_) (fun kn => ?_)
 ·try dsimp only
  unfold aio
  rw [acs hi, acn ha, aco hi (by omega), take_succ ha]
  simp only [aHs, List.foldl_append, List.foldl_cons, List.foldl_nil]
 ·try dsimp only
  unfold aio
  rw [acL, List.take_length]
  rfl
theorem aH4 (x y : Int) (g : acY) : ∀ m : List (Int × acY), alJ (k := tI) (v := acl) x (ayA (k := tI) (v := acl) y g m) = if x = y then some g else alJ (k := tI) (v := acl) x m
 | [] => by
   unfold ayA alJ agX alJ
   by_cases h : x = y <;> simp [h]
 | e :: m => by
   unfold ayA
   by_cases h : y = e.1
   ·have : agX tI y e.1 = true := by simp [agX, h]
    rw [this]
    try dsimp only
    unfold alJ agX
    by_cases h2 : x = y
    ·simp [h2]
    ·have : ¬ x = e.1 := fun h3 => h2 (h3.trans h.symm)
     simp [h2, this]
   ·have : agX tI y e.1 = false := by simp [agX, h]
    rw [this]
    try dsimp only
    have ih := aH4 x y g m
    unfold alJ
    by_cases h2 : x = e.1
    ·have : agX tI x e.1 = true := by simp [agX, h2]
     rw [this]
     have : ¬ x = y := fun h3 => h (h3.symm.trans h2)
     simp [this]
    ·have : agX tI x e.1 = false := by simp [agX, h2]
     rw [this]
     exact ih
def ahx (b : acC) (id : Int) : Option acY := b.2.1.find? fun g => g.1 == id
theorem aKw (x : Int) (l : List acY) : alJ (k := tI) (v := acl) x (aHs l) = l.reverse.find? fun g => g.1 == x := by
 unfold aHs
 rw [← List.foldr_reverse]
 induction l.reverse with
 | nil => rfl
 | cons g t ih =>
   rw [List.foldr_cons, aH4, ih, List.find?_cons]
   by_cases h : x = g.1
   ·simp [h]
   ·have : (g.1 == x) = false := by simp; exact fun h2 => h h2.symm
    simp [h, this]
theorem aJt {l : List acY} (h : l.Pairwise fun a b => a.1 < b.1) (x : Int) : l.reverse.find? (fun g => g.1 == x) = l.find? fun g => g.1 == x := by
 induction l with
 | nil => rfl
 | cons g t ih =>
   rw [List.pairwise_cons] at h
   rw [List.reverse_cons, List.find?_append, ih h.2, List.find?_cons]
   by_cases hx : g.1 = x
   ·have : t.find? (fun g => g.1 == x) = none := List.find?_eq_none.2 fun y hy => by have : g.1 < y.1 := h.1 y hy; simp; omega
    rw [this]; simp [hx]
   ·have : (g.1 == x) = false := by simp [hx]
    simp [this]
theorem aDH {b : acC} (h : b.2.1.Pairwise fun a b => a.1 < b.1) (x : Int) : alJ (k := tI) (v := acl) x (ajM b) = ahx b x := by
 unfold ajM ahx
 rw [aKw, aJt h]
def ak9 (s : List (Int × acY)) (id day : Int) : Int :=
 match alJ (k := tI) (v := acl) id s with
 | some g => if day < g.2.1 then 4 else 0
 | none => 5
theorem aKy (s : List (Int × acY)) (id day : Int) : afV s id day = some (ak9 s id day) := by
 unfold afV alq ak9
 cases h : alJ (k := tI) (v := acl) id s with
 | none => simp only [aG8, h]
 | some g =>
   simp only [aG8, h]
   rw [adM]
   by_cases h2 : day < g.2.1 <;> simp [h2]
def aQW (s : List (Int × acY)) (id day : Int) : Int := if !aLl day then 1 else ak9 s id day
theorem aHK (s : List (Int × acY)) (id day : Int) : adK id day s = some (aQW s id day) := by
 unfold adK ar6 aQW
 rw [aGz, ab8, aKy, ab8]
 cases aLl day <;> rfl
def aK7 (b : acC) (s : List (Int × acY)) (i : Nat) (l : aBO) : Int :=
 if !akq l.2.1 0 20000 then 1 else if !inP l.2.2 0 1048576 then 1 else if ak9 s l.1 l.2.1.1 != 0 then ak9 s l.1 l.2.1.1 else
 if (b.2.2.2.1.take i).any (fun x => x.1 == l.1 && (decide (x.2.1.1 ≤ l.2.1.2) && decide (l.2.1.1 ≤ x.2.1.2))) then 9 else
 if b.2.2.1.any (fun u => u.1 == l.1 && inP u.2 l.2.1.1 l.2.1.2) then 9 else 0
theorem aJC {b : acC} (hn : b.2.2.2.1.length ≤ 1000) (hu : b.2.2.1.length ≤ 1000) (s : List (Int × acY)) {i : Nat} {l : aBO} (hl : b.2.2.2.1[i]? = some l) : aeZ b s i = some (aK7 b s i l) := by
 unfold aeZ anc aK7
 have hi : i < b.2.2.2.1.length := (List.getElem?_eq_some_iff.1 hl).1
 rw [acn hl, auE, ab8, afl, ab8, aKy, ab8]
 cases akq l.2.1 0 20000 with
 | false => rfl
 | true =>
 cases inP l.2.2 0 1048576 with
 | false => rfl
 | true =>
 cases hm : (ak9 s l.1 l.2.1.1 != 0) with
 | true =>
   have : ine (ak9 s l.1 l.2.1.1) 0 = true := hm
   simp [this]
 | false =>
 have hm' : ine (ak9 s l.1 l.2.1.1) 0 = false := hm
 have hg : ((ile (0 : Int) (i : Int)) && (ile (i : Int) (adE b.2.2.2.1))) = true := by simp [ile, adE]; omega
 simp only [Bool.not_true, acU, hm', Bool.false_eq_true, if_false]
 rw [adF hg, Int.toNat_natCast]
 have inner : ∀ (k : Int → Option Int), acp (fun (v : Int) kk => aeT b.2.2.1 (acv b.2.2.1) l.1 l.2.1.1 l.2.1.2 v (fun u => kk u) (fun z => ifb (ige z 0) (k 9) (k 0)) (fun _ => k 0)) (0 : Int) = if b.2.2.1.any (fun u => u.1 == l.1 && inP u.2 l.2.1.1 l.2.1.2) then k 9 else k 0 := by
  intro k
  refine agq b.2.2.1 _ (fun z => ifb (ige z 0) (k 9) (k 0)) (k 9) (k 0) (fun j => ?_) (fun j a hj ha kn => ?_) (fun kn => ?_)
  ·have : ige (j : Int) 0 = true := by simp [ige]
   rw [acD this]
  ·try dsimp only
   unfold aeT
   rw [acs hj, acn ha, afl, ab8, aco hj (by omega)]
   cases h1 : (a.1 == l.1) with
   | false =>
     have : ieq a.1 l.1 = false := h1
     simp [this]
   | true =>
     have : ieq a.1 l.1 = true := h1
     rw [this]
     cases inP a.2 l.2.1.1 l.2.1.2 <;> simp
  ·try dsimp only
   unfold aeT
   rw [acL]
 rw [inner]
 refine Eq.trans (agq (b.2.2.2.1.take i) (fun x => x.1 == l.1 && (decide (x.2.1.1 ≤ l.2.1.2) && decide (l.2.1.1 ≤ x.2.1.2))) (fun z => ifb (ige z 0) (some 9) (if b.2.2.1.any (fun u => u.1 == l.1 && inP u.2 l.2.1.1 l.2.1.2) then some 9 else some 0)) (some 9) (if b.2.2.1.any (fun u => u.1 == l.1 && inP u.2 l.2.1.1 l.2.1.2) then some 9 else some 0) (fun j => ?_) (fun j a hj ha kn => ?_) (fun kn => ?_)) ?_
 ·have : ige (j : Int) 0 = true := by simp [ige]
  rw [acD this]
 ·try dsimp only
  unfold agK
  have hj' : j ≤ 1000 := by rw [List.length_take] at hj; omega
  rw [acs hj, acn ha, aco hj (by rw [List.length_take]; omega)]
  cases h1 : (a.1 == l.1) with
  | false =>
    have : ieq a.1 l.1 = false := h1
    simp [this]
  | true =>
    have : ieq a.1 l.1 = true := h1
    rw [this]
    cases h2 : decide (a.2.1.1 ≤ l.2.1.2) <;> cases h3 : decide (l.2.1.1 ≤ a.2.1.2) <;> simp [ile, h2, h3, adM] <;> simp_all
 ·try dsimp only
  unfold agK
  rw [acL]
 ·cases List.any (b.2.2.2.1.take i) _ <;> cases b.2.2.1.any _ <;> rfl
end Go.Proofs.ZzM
end
noncomputable section
namespace Go.Proofs.ZzM
open Go Go.Am
theorem aJW {l : List Int} (hn : l.length ≤ 1000000) (x : Int) : aft l x = some (match l.findIdx? (· == x) with | some j => (j : Int) | none => -1) := by
 unfold aft ahV
 refine Eq.trans (afS l (· == x) some (some (-1)) (fun i a hi ha kn => ?_) (fun kn => ?_)) ?_
 ·try dsimp only
  unfold afg
  rw [acs hi, acn ha, aco hi (by omega), adM]
  by_cases h : x = a
  ·subst h; simp [ieq]
  ·have h2 : ¬ a = x := fun e => h e.symm
   simp [ieq, h, h2]
 ·try dsimp only
  unfold afg
  rw [acL]
 ·cases l.findIdx? (· == x) <;> rfl
theorem aiS {l : List Int} (hn : l.length ≤ 1000000) (x : Int) : adv l x = some (l.contains x) := by
 unfold adv agz
 rw [aJW hn, ab8]
 congr 1
 cases h : l.findIdx? (· == x) with
 | none =>
   have : l.contains x = false := by
    rw [Bool.eq_false_iff]
    intro hc
    have := List.findIdx?_eq_none_iff.1 h x (by simpa using hc)
    simp at this
   rw [this]; rfl
 | some j =>
   obtain ⟨hj, hp, _⟩ := List.findIdx?_eq_some_iff_getElem.1 h
   have : l.contains x = true := by
    have h2 : l[j] = x := by simpa using hp
    rw [← h2]; simp
   rw [this]
   simp [ige]
def adb (a b : List Int) : List Int := a.filter fun x => !b.contains x
theorem als {a b : List Int} (ha : a.length ≤ 1000000) (hb : b.length ≤ 1000000) : aeo a b = some (adb a b) := by
 unfold aeo aGb
 rw [acu (by omega), Am.iff_true]
 have second : ∀ z : Nat, z < a.length → adb (a.take z) b = a.take z → b.contains (a[z]?.getD 0) = true →
  acp (fun (v13 : (Val (.pair tI (.pair tI (.slice tI))))) kk17 => agV b v13.1 v13.2.1 v13.2.2 (fun u14 u15 u16 => kk17 (u14, u15, u16)) (fun z12 => acT ((ile (0 : Int) z12.1) && (ile z12.1 (adE z12.2))) (acT ((ile (0 : Int) z12.1) && (ile z12.1 (adE (List.take (Int.toNat z12.1) z12.2 ++ List.replicate (List.length z12.2 - (Int.toNat z12.1)) (0 : Int) ++ List.drop ((Int.toNat z12.1) + (List.length z12.2 - (Int.toNat z12.1))) z12.2)))) (some (List.take (Int.toNat z12.1) (List.drop 0 (List.take (Int.toNat z12.1) z12.2 ++ List.replicate (List.length z12.2 - (Int.toNat z12.1)) (0 : Int) ++ List.drop ((Int.toNat z12.1) + (List.length z12.2 - (Int.toNat z12.1))) z12.2))))))) ((z : Int), ((z : Int) + 1), a) = some (adb a b) := by
  intro z hz hp hc
  refine afi (fun x : Int × Int × List Int => ∃ i j : Nat, x.1 = i ∧ x.2.1 = j ∧ i < j ∧ j ≤ a.length ∧ x.2.2.length = a.length ∧ x.2.2.take i = adb (a.take j) b ∧ x.2.2.drop j = a.drop j) (fun x => a.length - x.2.1.toNat) ?_
   ⟨z, z + 1, rfl, by simp, by omega, by omega, rfl, ?_, rfl⟩
  ·rintro ⟨x1, x2, s⟩ ⟨i, j, h1, h2, hij, hja, hl, ht, hd⟩
   simp only at h1 h2 hl ht hd
   subst h1 h2
   rcases Nat.lt_or_ge j a.length with hj | hj
   ·refine .inr ?_
    have hsj : s[j]? = some a[j] := by
     have h3 : (s.drop j)[0]? = (a.drop j)[0]? := by rw [hd]
     rw [List.getElem?_drop, List.getElem?_drop] at h3
     simpa [List.getElem?_eq_getElem hj] using h3
    have hjs : j < s.length := by omega
    have hta : adb (a.take (j + 1)) b = adb (a.take j) b ++ if b.contains a[j] then [] else [a[j]] := by
     rw [take_succ (List.getElem?_eq_getElem hj), adb, adb, List.filter_append]
     congr 1
     cases h : b.contains a[j] with
     | true => simp only [List.filter_cons, h, Bool.not_true, Bool.false_eq_true, if_false, List.filter_nil, if_true]
     | false => simp only [List.filter_cons, h, Bool.not_false, Bool.false_eq_true, if_false, List.filter_nil, if_true]
    cases h : b.contains a[j] with
    | true =>
      refine ⟨(i, (j : Int) + 1, s), ⟨i, j + 1, rfl, by simp, by omega, by omega, hl, ?_, ?_⟩, by simp; omega, fun kn => ?_⟩
      ·rw [hta, h]; simpa using ht
      ·have := congrArg (List.drop 1) hd
       simpa [List.drop_drop, Nat.add_comm] using this
      ·try dsimp only
       unfold agV
       rw [acs hjs, afX hjs, aes hsj, aiS hb, ab8, h]
       simp only [Bool.not_true, acU]
       rw [aco hjs (by omega)]
    | false =>
      have his : i < s.length := by omega
      refine ⟨((i : Int) + 1, (j : Int) + 1, s.set i a[j]), ⟨i + 1, j + 1, by simp, by simp, by omega, by omega, by simpa using hl, ?_, ?_⟩, by simp; omega, fun kn => ?_⟩
      ·show List.take (i + 1) (s.set i a[j]) = _
       rw [hta, h, List.take_succ, List.getElem?_set, List.take_set_of_le (Nat.le_refl i), ht]
       simp [his]
      ·show List.drop (j + 1) (s.set i a[j]) = _
       rw [List.drop_set_of_lt (by omega)]
       have := congrArg (List.drop 1) hd
       simpa [List.drop_drop, Nat.add_comm] using this
      ·try dsimp only
       unfold agV
       rw [acs hjs, afX hjs, aes hsj, aiS hb, ab8, h]
       simp only [Bool.not_false, aeG]
       rw [afX his, aes (List.getElem?_eq_getElem his), aco his (by omega), aco hjs (by omega), Int.toNat_natCast]
   ·refine .inl fun kn => ?_
    have hje : j = s.length := by omega
    try dsimp only
    unfold agV
    rw [hje, acL]
    dsimp only
    have g1 : ((ile (0 : Int) (i : Int)) && (ile (i : Int) (adE s))) = true := by simp [ile, adE]; omega
    rw [adF g1]
    have g2 : ((ile (0 : Int) (i : Int)) && (ile (i : Int) (adE (List.take (Int.toNat (i : Int)) s ++ List.replicate (List.length s - (Int.toNat (i : Int))) (0 : Int) ++ List.drop ((Int.toNat (i : Int)) + (List.length s - (Int.toNat (i : Int)))) s)))) = true := by
     simp [ile, adE]; omega
    rw [adF g2, Int.toNat_natCast, List.drop_zero, List.append_assoc, List.take_append_of_le_length (by simp; omega), List.take_take, Nat.min_self, ht]
    rw [List.take_of_length_le (by omega)]
  ·show List.take z a = adb (a.take (z + 1)) b
   have hz' : a[z]? = some a[z] := List.getElem?_eq_getElem hz
   rw [take_succ hz', adb, List.filter_append]
   rw [hz'] at hc
   simp only [Option.getD_some] at hc
   have : List.filter (fun x => !b.contains x) [a[z]] = [] := by simp only [List.filter_cons, hc, Bool.not_true, Bool.false_eq_true, if_false, List.filter_nil]
   rw [this, List.append_nil]
   exact hp.symm
 refine Eq.trans (afS a (fun x => b.contains x) (fun z4 => ifb (ieq z4 (-1 : Int)) (some a) (ck (z4 + (1 : Int)) fun n5 => acp (fun (v13 : (Val (.pair tI (.pair tI (.slice tI))))) kk17 => agV b v13.1 v13.2.1 v13.2.2 (fun u14 u15 u16 => kk17 (u14, u15, u16)) (fun z12 => acT ((ile (0 : Int) z12.1) && (ile z12.1 (adE z12.2))) (acT ((ile (0 : Int) z12.1) && (ile z12.1 (adE (List.take (Int.toNat z12.1) z12.2 ++ List.replicate (List.length z12.2 - (Int.toNat z12.1)) (0 : Int) ++ List.drop ((Int.toNat z12.1) + (List.length z12.2 - (Int.toNat z12.1))) z12.2)))) (some (List.take (Int.toNat z12.1) (List.drop 0 (List.take (Int.toNat z12.1) z12.2 ++ List.replicate (List.length z12.2 - (Int.toNat z12.1)) (0 : Int) ++ List.drop ((Int.toNat z12.1) + (List.length z12.2 - (Int.toNat z12.1))) z12.2))))))) (z4, n5, a))) (some a) (fun i x hi hx kn => ?_) (fun kn => ?_)) ?_
 ·try dsimp only
  unfold am9
  rw [acs hi, afX hi, aes hx, aiS hb, ab8, aco hi (by omega), adM]
 ·try dsimp only
  unfold am9
  rw [acL]
 ·cases h : a.findIdx? (fun x => b.contains x) with
  | none =>
    have : adb a b = a := by
     rw [adb, List.filter_eq_self]
     intro x hx
     have := List.findIdx?_eq_none_iff.1 h x hx
     simpa using this
    rw [this]
  | some z =>
    obtain ⟨hz, hc, hlt⟩ := List.findIdx?_eq_some_iff_getElem.1 h
    have h1 : ieq (z : Int) (-1) = false := by simp [ieq]
    try dsimp only
    rw [acr h1, aco hz (by omega)]
    refine second z hz ?_ ?_
    ·rw [adb, List.filter_eq_self]
     intro x hx
     obtain ⟨j, hj, rfl⟩ := List.mem_iff_getElem.1 hx
     rw [List.length_take] at hj
     rw [List.getElem_take]
     have := hlt j (by omega)
     simpa using this
    ·rw [List.getElem?_eq_getElem hz]; exact hc
def axO (l : List Int) (i : Nat) (a : Int) : Option Bool := if !inP a 1 1099511627776 then some false else if aBF (fun x => x) l i a then some false else none
def ajf (l : List Int) : Bool := match aeN (axO l) 0 l with | some _ => false | none => decide (l.length ≤ 6)
theorem auC {l : List Int} (hn : l.length ≤ 1000000) : aid l = some (ajf l) := by
 unfold aid av4
 refine Eq.trans (ama l (axO l) some (some (decide (l.length ≤ 6))) (fun i a hi ha kn => ?_) (fun kn => ?_)) ?_
 ·try dsimp only
  unfold ajj
  rw [acs hi, acn ha, afl, ab8]
  unfold axO
  cases inP a 1 1099511627776 with
  | false => rfl
  | true =>
    simp only [Bool.not_true, acU, Bool.false_eq_true, if_false]
    rcases Nat.eq_zero_or_pos i with h0 | h0
    ·subst h0
     have : igt ((0 : Nat) : Int) 0 = false := by simp [igt]
     rw [acr this, aco hi (by omega)]
     simp [aBF]
    ·obtain ⟨q, hq⟩ := aHD hi h0
     have h1 : igt (i : Int) 0 = true := by simp [igt]; omega
     rw [acD h1, aP7 h0 (by omega), aJg h0 hq]
     simp only [aBF, h0, decide_true, Bool.true_and, hq, Option.any_some]
     unfold ile
     cases h2 : decide (a ≤ q) with
     | true => rfl
     | false =>
       rw [acU, aco hi (by omega)]
       rfl
 ·try dsimp only
  unfold ajj
  rw [acL, acO]
  simp [ile]
  omega
 ·have hb : ∀ x, aeN (axO l) 0 l = some x → x = false := by
   have : ∀ (m : List Int) (j : Nat) (x : Bool), aeN (axO l) j m = some x → x = false := by
    intro m
    induction m with
    | nil => intro j x h; cases h
    | cons a m ih =>
      intro j x h
      unfold aeN at h
      cases hp : axO l j a with
      | none => rw [hp] at h; exact ih _ _ h
      | some y =>
        rw [hp] at h
        cases h
        unfold axO at hp
        split at hp
        ·cases hp; rfl
        ·split at hp
         ·cases hp; rfl
         ·cases hp
   exact this l 0
  unfold ajf
  cases h : aeN (axO l) 0 l with
  | none => rfl
  | some x => rw [hb x h]
theorem aHG (l : List Int) : ajf l = true ↔ (∀ x ∈ l, 1 ≤ x ∧ x ≤ 1099511627776) ∧ l.Pairwise (· < ·) ∧ l.length ≤ 6 := by
 have h0 : aeN (axO l) 0 l = none ↔ (∀ x ∈ l, 1 ≤ x ∧ x ≤ 1099511627776) ∧ l.Pairwise (· < ·) := by
  rw [aic, ← aMU (fun x => x) l]
  constructor
  ·intro h
   have h1 : ∀ (j : Nat) (a : Int), l[j]? = some a → inP a 1 1099511627776 = true ∧ aBF (fun x => x) l j a = false := by
    intro j a ha
    have := h j a ha
    rw [Nat.zero_add] at this
    unfold axO at this
    split at this
    ·cases this
    ·split at this
     ·cases this
     ·rename_i h1 h2
      exact ⟨by simpa using h1, by simpa using h2⟩
   refine ⟨fun x hx => ?_, fun i a ha => (h1 i a ha).2⟩
   obtain ⟨j, hj, rfl⟩ := List.mem_iff_getElem.1 hx
   have := (h1 j l[j] (List.getElem?_eq_getElem hj)).1
   simpa [inP] using this
  ·rintro ⟨h1, h2⟩ j a ha
   rw [Nat.zero_add]
   have h3 := h1 a (List.mem_of_getElem? ha)
   have : inP a 1 1099511627776 = true := by simpa [inP] using h3
   simp [axO, this, h2 j a ha]
 unfold ajf
 cases h : aeN (axO l) 0 l with
 | none =>
   obtain ⟨h1, h2⟩ := h0.1 h
   simp only [decide_eq_true_eq]
   exact ⟨fun h3 => ⟨h1, h2, h3⟩, fun h3 => h3.2.2⟩
 | some x =>
   constructor
   ·intro h2; cases h2
   ·rintro ⟨h1, h2, h3⟩
    rw [h0.2 ⟨h1, h2⟩] at h; cases h
theorem aQJ {a b : List Int} (ha : a.length ≤ 1000000) (hb : b.length ≤ 1000000) : acF [a, b] = some (a ++ b) := by
 have hk : ∀ n : Nat, n ≤ 4000000 → ∀ (f : Int → Option (List Int)), ck (n : Int) f = f n := fun n h f => acx (by omega) (by omega) f
 have second : acp (fun (v9 : (Val (.pair tI (.slice tI)))) kk12 => acJ [a, b] (acv [a, b]) v9.1 v9.2 (fun u10 u11 => kk12 (u10, u11)) (fun z8 => some z8)) ((0 : Int), ([] : List Int)) = some (a ++ b) := by
  refine adh [a, b] (fun i => ([a, b].take i).flatten) (some (a ++ b)) (f := fun (v9 : (Val (.pair tI (.slice tI)))) kk12 => acJ [a, b] (acv [a, b]) v9.1 v9.2 (fun u10 u11 => kk12 (u10, u11)) (fun z8 => some z8)) rfl (fun i x hi hx kn => ?_) (fun kn => ?_)
  ·try dsimp only
   unfold acJ
   rw [acs hi, acn hx, aco hi (by simp), take_succ hx, List.flatten_append]
   have : acS ((List.take i [a, b]).flatten.length + x.length) = true := by
    refine acu ?_
    have h1 : x.length ≤ 1000000 := by
     have := List.mem_of_getElem? hx
     simp at this
     rcases this with rfl | rfl <;> assumption
    have h2 : (List.take i [a, b]).flatten.length ≤ 2000000 := by
     have : i = 0 ∨ i = 1 := by simp at hi; omega
     rcases this with rfl | rfl <;> simp <;> omega
    omega
   rw [adF this]
   simp
  ·try dsimp only
   unfold acJ
   rw [acL]
   simp
 unfold acF af2
 refine afi (fun x : Int × Int => ∃ i : Nat, i ≤ 2 ∧ x = ((([a, b].take i).flatten.length : Int), (i : Int))) (fun x => 2 - x.2.toNat) ?_ ⟨0, by omega, rfl⟩
 rintro x ⟨i, hi, rfl⟩
 rcases Nat.lt_or_ge i 2 with h2 | h2
 ·refine .inr ⟨((([a, b].take (i + 1)).flatten.length : Int), (i : Int) + 1), ⟨i + 1, h2, by simp⟩, by simp; omega, fun kn => ?_⟩
  have hi' : i < [a, b].length := h2
  obtain ⟨x, hx⟩ : ∃ x, [a, b][i]? = some x := ⟨_, List.getElem?_eq_getElem hi'⟩
  have hxl : x.length ≤ 1000000 := by
   have := List.mem_of_getElem? hx
   simp at this
   rcases this with rfl | rfl <;> assumption
  have h3 : (List.take i [a, b]).flatten.length ≤ 2000000 := by
   have : i = 0 ∨ i = 1 := by omega
   rcases this with rfl | rfl <;> simp <;> omega
  try dsimp only
  unfold adz
  rw [acs hi', acn hx, acO]
  have e1 : (((List.take i [a, b]).flatten.length : Int) + (x.length : Int)) = ((List.take i [a, b]).flatten.length + x.length : Nat) := by omega
  rw [e1, hk _ (by omega)]
  have : ilt ((((List.take i [a, b]).flatten.length + x.length : Nat)) : Int) 0 = false := by simp [ilt]; omega
  rw [acr this, aco hi' (by simp), take_succ hx]
  simp
 ·refine .inl fun kn => ?_
  obtain rfl : i = 2 := by omega
  try dsimp only
  unfold adz
  rw [show ((2 : Nat) : Int) = (([a, b].length : Nat) : Int) from rfl, acL]
  have e1 : ((List.take 2 [a, b]).flatten.length : Int) = ((a.length + b.length : Nat) : Int) := by simp
  have e2 : ilt (((a.length + b.length : Nat)) : Int) 0 = false := by simp [ilt]; omega
  rw [e1]
  dsimp only
  rw [acr e2, Int.sub_zero, hk _ (by omega)]
  rcases Nat.eq_zero_or_pos (a.length + b.length) with h0 | h0
  ·have : igt (((a.length + b.length : Nat)) : Int) 0 = false := by simp [igt]; omega
   rw [acr this]
   exact second
  ·have : igt (((a.length + b.length : Nat)) : Int) 0 = true := by simp [igt]; omega
   rw [acD this]
   have : ((ilt (0 : Int) (((a.length + b.length : Nat)) : Int)) && (acS (Int.toNat (((a.length + b.length : Nat)) : Int)))) = true := by
    rw [Int.toNat_natCast, acu (by omega)]
    simp [ilt]; omega
   rw [adF this]
   have : ile 0 (adE (List.replicate (Int.toNat (((a.length + b.length : Nat)) : Int)) (0 : Int))) = true := by simp [ile]
   rw [adF this]
   exact second
def ayo (b : acC) (id day : Int) : Option aBO := b.2.2.2.1.find? fun l => l.1 == id && inP day l.2.1.1 l.2.1.2
theorem aMD {α : Type} (p : α → Bool) : ∀ l : List α, l.find? p = (match l.findIdx? p with | some j => l[j]? | none => none)
 | [] => rfl
 | a :: l => by
   rw [List.find?_cons, List.findIdx?_cons]
   cases h : p a with
   | true => simp
   | false =>
     simp only [Bool.false_eq_true, if_false]
     rw [aMD p l]
     cases l.findIdx? p <;> simp
theorem aTu {b : acC} (hn : b.2.2.2.1.length ≤ 1000) (id day : Int) : ap9 b id day = some (match ayo b id day with | some l => (l, true) | none => ((0, (0, 0), 0), false)) := by
 unfold ap9 aGl
 refine Eq.trans (afS b.2.2.2.1 (fun l => l.1 == id && inP day l.2.1.1 l.2.1.2) (fun z5 => ifb (ilt z5 (0 : Int)) (some (((0 : Int), ((0 : Int), (0 : Int)), (0 : Int)), false)) (adL b.2.2.2.1 z5 fun e6 => some (e6, true))) (some ((0, (0, 0), 0), false)) (fun i a hi ha kn => ?_) (fun kn => ?_)) ?_
 ·try dsimp only
  unfold ane
  rw [acs hi, acn ha, afl, ab8, aco hi (by omega)]
  cases h1 : (a.1 == id) with
  | false =>
    have : ieq a.1 id = false := h1
    simp [this]
  | true =>
    have : ieq a.1 id = true := h1
    rw [this]
    cases inP day a.2.1.1 a.2.1.2 <;> simp
 ·try dsimp only
  unfold ane
  rw [acL]
 ·unfold ayo
  rw [aMD]
  cases h : b.2.2.2.1.findIdx? (fun l => l.1 == id && inP day l.2.1.1 l.2.1.2) with
  | none => rfl
  | some j =>
    obtain ⟨hj, _, _⟩ := List.findIdx?_eq_some_iff_getElem.1 h
    have : ilt (j : Int) 0 = false := by simp [ilt]
    try dsimp only
    rw [acr this, acn (List.getElem?_eq_getElem hj), List.getElem?_eq_getElem hj]
end Go.Proofs.ZzM
end
noncomputable section
namespace Go.Proofs.ZzM
open Go Go.Am
def aS7 (a : Int) : List Int → List Int
 | [] => [a]
 | b :: t => if a ≤ b then a :: b :: t else b :: aS7 a t
def aD6 : List Int → List Int
 | [] => []
 | a :: t => aS7 a (aD6 t)
def aod (p : Option Int) : List Int → List Int
 | [] => []
 | a :: t => if p = some a then aod (some a) t else a :: aod (some a) t
def aJ2 (l : List Int) : List Int := aod none (aD6 l)
theorem aAX (a : Int) : ∀ l, (aS7 a l).Perm (a :: l)
 | [] => List.Perm.refl _
 | b :: t => by
   unfold aS7
   split
   ·exact List.Perm.refl _
   ·exact ((aAX a t).cons b).trans (List.Perm.swap a b t)
theorem anj : ∀ l, (aD6 l).Perm l
 | [] => List.Perm.refl _
 | a :: t => (aAX a _).trans ((anj t).cons a)
theorem aAW (a : Int) : ∀ {l : List Int}, l.Pairwise (· ≤ ·) → (aS7 a l).Pairwise (· ≤ ·)
 | [], _ => by simp [aS7]
 | b :: t, h => by
   rw [List.pairwise_cons] at h
   unfold aS7
   split
   ·rename_i hab
    refine List.pairwise_cons.2 ⟨fun x hx => ?_, List.pairwise_cons.2 h⟩
    rcases List.mem_cons.1 hx with rfl | hx
    ·exact hab
    ·have := h.1 x hx; omega
   ·rename_i hab
    refine List.pairwise_cons.2 ⟨fun x hx => ?_, aAW a h.2⟩
    rcases List.mem_cons.1 ((aAX a t).mem_iff.1 hx) with rfl | hx
    ·omega
    ·exact h.1 x hx
theorem ani : ∀ l : List Int, (aD6 l).Pairwise (· ≤ ·)
 | [] => List.Pairwise.nil
 | a :: t => aAW a (ani t)
theorem aQ2 (l : List Int) : asA l = aD6 l := by
 have h1 : (asA l).Pairwise (· ≤ ·) := by
  have := List.pairwise_mergeSort (le := fun a b : Int => decide (a ≤ b)) (fun a b c h1 h2 => by simp at *; omega) (fun a b => by simp; omega) l
  exact this.imp fun h => by simpa using h
 exact List.Perm.eq_of_pairwise (le := (· ≤ ·)) (fun a b _ _ h1 h2 => by omega) h1 (ani l) ((List.mergeSort_perm l _).trans (anj l).symm)
theorem aDj (a : Int) : ∀ (l : List Int) (p : Option Int), aod p (l ++ [a]) = aod p l ++ (if (match l.getLast? with | some b => some b | none => p) = some a then [] else [a])
 | [], p => by simp only [List.nil_append, aod, List.getLast?_nil]; rfl
 | b :: t, p => by
   have ih := aDj a t (some b)
   have e : (match (b :: t).getLast? with | some c => some c | none => p) = (match t.getLast? with | some c => some c | none => some b) := by
    cases t with
    | nil => rfl
    | cons c t =>
      rw [List.getLast?_cons_cons]
      cases h : (c :: t).getLast? with
      | none => simp at h
      | some x => rfl
   rw [e]
   simp only [List.cons_append, aod, ih]
   split <;> simp
theorem arf (l : List Int) : ∀ m, m ≤ l.length → Lib.compactUpTo l.toArray m = aod none (l.take m)
 | 0, _ => by simp [Lib.compactUpTo, aod]
 | m + 1, h => by
   have hm : m < l.length := h
   rw [Lib.compactUpTo_succ, arf l m (by omega), take_succ (List.getElem?_eq_getElem hm), aDj]
   congr 1
   have e1 : l.toArray[m]! = l[m] := by simp [getElem!_pos, hm]
   rw [e1]
   unfold Lib.keeps
   rw [e1]
   cases m with
   | zero => simp
   | succ m =>
     have hm' : m < l.length := by omega
     have e2 : l.toArray[m + 1 - 1]! = l[m] := by simp [getElem!_pos, hm']
     rw [e2]
     have e3 : (l.take (m + 1)).getLast? = some l[m] := by rw [take_succ (List.getElem?_eq_getElem hm'), List.getLast?_append]; rfl
     rw [e3]
     by_cases hne : l[m + 1] = l[m]
     ·simp [hne]
     ·have : ¬ l[m] = l[m + 1] := fun h => hne h.symm
      simp [hne, this]
theorem aLp (l : List Int) : aqc l = aod none l := by
 unfold aqc Lib.compact
 rw [arf l l.length (Nat.le_refl _), List.take_length]
theorem aOz (l : List Int) : aqc (asA l) = aJ2 l := by rw [aQ2, aLp]; rfl
theorem aHg : ∀ {l : List Int} {p : Option Int} {x : Int}, p ≠ some x → (x ∈ aod p l ↔ x ∈ l)
 | [], _, _, _ => Iff.rfl
 | a :: t, p, x, hp => by
   unfold aod
   by_cases hx : x = a
   ·subst hx
    rw [if_neg hp]; simp
   ·have ih := aHg (l := t) (p := some a) (x := x) (fun e => hx (by cases e; rfl))
    split <;> simp [ih, hx]
theorem aLT : ∀ {l : List Int} {p : Option Int}, l.Pairwise (· ≤ ·) → (∀ q, p = some q → ∀ x ∈ l, q ≤ x) → (aod p l).Pairwise (· < ·) ∧ ∀ q, p = some q → ∀ x ∈ aod p l, q < x
 | [], p, _, _ => ⟨List.Pairwise.nil, fun _ _ _ h => by cases h⟩
 | a :: t, p, h, hp => by
   rw [List.pairwise_cons] at h
   obtain ⟨i1, i2⟩ := aLT (l := t) (p := some a) h.2 (fun q hq x hx => by cases hq; exact h.1 x hx)
   unfold aod
   split
   ·rename_i e
    exact ⟨i1, fun q hq x hx => by rw [e] at hq; cases hq; exact i2 _ rfl x hx⟩
   ·rename_i e
    refine ⟨List.pairwise_cons.2 ⟨fun x hx => i2 _ rfl x hx, i1⟩, fun q hq x hx => ?_⟩
    have := hp q hq a (by simp)
    have hne : q ≠ a := fun h => e (by rw [hq, h])
    rcases List.mem_cons.1 hx with rfl | hx
    ·omega
    ·have := i2 _ rfl x hx; omega
theorem apO {l : List Int} {x : Int} : x ∈ aJ2 l ↔ x ∈ l := by
 unfold aJ2
 rw [aHg (by simp), (anj l).mem_iff]
theorem aKe (l : List Int) : (aJ2 l).Pairwise (· < ·) := (aLT (ani l) (fun q hq => by cases hq)).1
theorem aHh : ∀ (l : List Int) (p : Option Int), (aod p l).length ≤ l.length
 | [], _ => Nat.le_refl _
 | a :: t, p => by
   have := aHh t (some a)
   unfold aod
   split <;> simp <;> omega
theorem ayv (l : List Int) : (aJ2 l).length ≤ l.length := by
 unfold aJ2
 have := aHh (aD6 l) none
 rwa [(anj l).length_eq] at this
theorem aTv {l m : List Int} (hl : l.Pairwise (· < ·)) (hm : m.Pairwise (· < ·)) (h : ∀ x, x ∈ l ↔ x ∈ m) : l = m := by
 induction l generalizing m with
 | nil =>
   cases m with
   | nil => rfl
   | cons a t => have := (h a).2 (by simp); cases this
 | cons a t ih =>
   rw [List.pairwise_cons] at hl
   cases m with
   | nil => have := (h a).1 (by simp); cases this
   | cons b u =>
     rw [List.pairwise_cons] at hm
     have hab : a = b := by
      rcases List.mem_cons.1 ((h a).1 (by simp)) with h1 | h1
      ·exact h1
      ·rcases List.mem_cons.1 ((h b).2 (by simp)) with h2 | h2
       ·exact h2.symm
       ·have := hm.1 a h1; have := hl.1 b h2; omega
     subst hab
     rw [ih hl.2 hm.2 fun x => ?_]
     constructor
     ·intro hx
      rcases List.mem_cons.1 ((h x).1 (by simp [hx])) with h1 | h1
      ·have := hl.1 x hx; omega
      ·exact h1
     ·intro hx
      rcases List.mem_cons.1 ((h x).2 (by simp [hx])) with h1 | h1
      ·have := hm.1 x hx; omega
      ·exact h1
end Go.Proofs.ZzM
end
noncomputable section
namespace Go.Proofs.ZzM
open Go Go.Am
def awP (b : acC) (s : List (Int × acY)) (c : Cmp) : Int :=
 if (c.2.2.1 ++ c.2.2.2.1).any (fun id => ak9 s id c.2.1 == 5) then 5 else
 if (c.2.2.1 ++ c.2.2.2.1).any (fun id => ak9 s id c.2.1 == 4) then 4 else
 if (c.2.2.1 ++ c.2.2.2.1).any (fun id => (ayo b id c.2.1).isSome) then 9 else
 if 1 < (adb c.2.2.1 c.2.2.2.1).length then 1 else if 1 < (adb c.2.2.2.1 c.2.2.1).length then 1 else
 if (adb c.2.2.1 c.2.2.2.1).length + (adb c.2.2.2.1 c.2.2.1).length = 0 then 1 else 0
def aNn (c : Cmp) : Bool :=
 inP c.1 1 1099511627776 && (aLl c.2.1 && (inP c.2.2.2.2.1 (-1125899906842624) 1125899906842624 && (inP c.2.2.2.2.2.1 0 1073741824 && (akq c.2.2.2.2.2.2 (-10000) 10000 && (ajf c.2.2.1 && ajf c.2.2.2.1)))))
def aqb (b : acC) (s : List (Int × acY)) (i : Nat) (c : Cmp) : Int :=
 if !aNn c then 1 else if (b.2.2.2.2.1.take i).any (fun x => x.1 == c.1) then 6 else awP b s c
theorem aI9 (a b : List Int) : (adb a b).length ≤ a.length := List.length_filter_le _ _
set_option maxHeartbeats 1000000 in
theorem aBr {b : acC} (hn : b.2.2.2.2.1.length ≤ 1000) (hl : b.2.2.2.1.length ≤ 1000) (s : List (Int × acY)) {i : Nat} {c : Cmp} (hA : c.2.2.1.length ≤ 1000) (hB : c.2.2.2.1.length ≤ 1000)
 (hc : b.2.2.2.2.1[i]? = some c) : adN b s i = some (aqb b s i c) := by
 have hi : i < b.2.2.2.2.1.length := (List.getElem?_eq_some_iff.1 hc).1
 unfold adN aiY aqb aNn
 rw [acn hc, afl, ab8]
 cases inP c.1 1 1099511627776 with
 | false => rfl
 | true =>
 rw [aGz, ab8]
 cases aLl c.2.1 with
 | false => rfl
 | true =>
 rw [afl, ab8]
 cases inP c.2.2.2.2.1 (-1125899906842624) 1125899906842624 with
 | false => rfl
 | true =>
 rw [afl, ab8]
 cases inP c.2.2.2.2.2.1 0 1073741824 with
 | false => rfl
 | true =>
 rw [auE, ab8]
 cases akq c.2.2.2.2.2.2 (-10000) 10000 with
 | false => rfl
 | true =>
 rw [auC (by omega), ab8]
 cases ajf c.2.2.1 with
 | false => rfl
 | true =>
 rw [auC (by omega), ab8]
 cases ajf c.2.2.2.1 with
 | false => rfl
 | true =>
 have hg : ((ile (0 : Int) (i : Int)) && (ile (i : Int) (adE b.2.2.2.2.1))) = true := by simp [ile, adE]; omega
 simp only [Bool.not_true, acU, Bool.and_self, Bool.false_eq_true, if_false]
 rw [adF hg, Int.toNat_natCast]
 -- what comes behind the IDs
 have rest : (acb (acF ([c.2.2.1, c.2.2.2.1])) fun r12 => acp (fun (v36 : Int) kk38 => adW s r12 (acv ([(5 : Int), (4 : Int)])) c.2.1 ([(5 : Int), (4 : Int)]) v36 (fun u37 => kk38 u37) (fun z23 => some z23) (fun _ => acp (fun (v33 : Int) kk35 => adV r12 (acv r12) b.1.1 b.1.2 b.2.1 b.2.2.1 b.2.2.2.1 b.2.2.2.2.1 b.2.2.2.2.2 c.2.1 v33 (fun u34 => kk35 u34) (fun z28 => some z28) (fun _ => acb (aeo c.2.2.1 c.2.2.2.1) fun r30 => acb (aeo c.2.2.2.1 c.2.2.1) fun r31 => ifb (igt (acv r30) (1 : Int)) (some (1 : Int)) (ifb (igt (acv r31) (1 : Int)) (some (1 : Int)) (ck ((acv r30) + (acv r31)) fun n32 => ifb (ieq n32 (0 : Int)) (some (1 : Int)) (some (0 : Int)))))) (0 : Int))) (0 : Int)) = some (awP b s c) := by
  rw [aQJ (by omega) (by omega), ab8]
  have hall : (c.2.2.1 ++ c.2.2.2.1).length ≤ 2000 := by simp; omega
  have last : (acb (aeo c.2.2.1 c.2.2.2.1) fun r30 => acb (aeo c.2.2.2.1 c.2.2.1) fun r31 => ifb (igt (acv r30) (1 : Int)) (some (1 : Int)) (ifb (igt (acv r31) (1 : Int)) (some (1 : Int)) (ck ((acv r30) + (acv r31)) fun n32 => ifb (ieq n32 (0 : Int)) (some (1 : Int)) (some (0 : Int))))) =
   some (if 1 < (adb c.2.2.1 c.2.2.2.1).length then 1 else if 1 < (adb c.2.2.2.1 c.2.2.1).length then 1 else if (adb c.2.2.1 c.2.2.2.1).length + (adb c.2.2.2.1 c.2.2.1).length = 0 then 1 else 0) := by
   rw [als (by omega) (by omega), ab8, als (by omega) (by omega), ab8]
   have l1 := aI9 c.2.2.1 c.2.2.2.1
   have l2 := aI9 c.2.2.2.1 c.2.2.1
   rw [acO, acO, acx (by omega) (by omega)]
   by_cases c1 : 1 < (adb c.2.2.1 c.2.2.2.1).length
   ·rw [acD (by simp [igt]; omega), if_pos c1]
   rw [acr (by simp [igt]; omega), if_neg c1]
   by_cases c2 : 1 < (adb c.2.2.2.1 c.2.2.1).length
   ·rw [acD (by simp [igt]; omega), if_pos c2]
   rw [acr (by simp [igt]; omega), if_neg c2]
   by_cases c3 : (adb c.2.2.1 c.2.2.2.1).length + (adb c.2.2.2.1 c.2.2.1).length = 0
   ·rw [acD (by simp [ieq]; omega), if_pos c3]
   rw [acr (by simp [ieq]; omega), if_neg c3]
  refine Eq.trans (ama [(5 : Int), 4] (fun _ want => if (c.2.2.1 ++ c.2.2.2.1).any (fun id => ak9 s id c.2.1 == want) then some want else none) some (some (if (c.2.2.1 ++ c.2.2.2.1).any (fun id => (ayo b id c.2.1).isSome) then 9 else if 1 < (adb c.2.2.1 c.2.2.2.1).length then 1 else if 1 < (adb c.2.2.2.1 c.2.2.1).length then 1 else if (adb c.2.2.1 c.2.2.2.1).length + (adb c.2.2.2.1 c.2.2.1).length = 0 then 1 else 0)) (fun j want hj hw kn => ?_) (fun kn => ?_)) ?_
  ·try dsimp only
   unfold adW
   rw [acs hj, afX hj, aes hw]
   refine Eq.trans (agq (c.2.2.1 ++ c.2.2.2.1) (fun id => ak9 s id c.2.1 == want) (fun _ => some want) (some want) (kn ((j : Int) + 1)) (fun _ => rfl) (fun k a hk ha kn' => ?_) (fun kn' => ?_)) ?_
   ·try dsimp only
    unfold afH
    rw [acs hk, acn ha, aKy, ab8, aco hk (by omega), adM]
   ·try dsimp only
    unfold afH
    rw [acL, aco hj (by simp)]
   ·cases List.any (c.2.2.1 ++ c.2.2.2.1) (fun id => ak9 s id c.2.1 == want) <;> rfl
  ·try dsimp only
   unfold adW
   rw [acL]
   refine Eq.trans (agq (c.2.2.1 ++ c.2.2.2.1) (fun id => (ayo b id c.2.1).isSome) (fun _ => some 9) (some 9) (some (if 1 < (adb c.2.2.1 c.2.2.2.1).length then 1 else if 1 < (adb c.2.2.2.1 c.2.2.1).length then 1 else if (adb c.2.2.1 c.2.2.2.1).length + (adb c.2.2.2.1 c.2.2.1).length = 0 then 1 else 0)) (fun _ => rfl) (fun k a hk ha kn' => ?_) (fun kn' => ?_)) ?_
   ·try dsimp only
    unfold adV
    have haw := aTu hl a c.2.1
    rw [acs hk, acn ha, aco hk (by omega)]
    rw [show ap9 ((b.1.1, b.1.2), b.2.1, b.2.2.1, b.2.2.2.1, b.2.2.2.2.1, b.2.2.2.2.2) a c.2.1 = ap9 b a c.2.1 from rfl, haw, ab8]
    cases ayo b a c.2.1 <;> rfl
   ·try dsimp only
    unfold adV
    rw [acL, last]
   ·cases List.any (c.2.2.1 ++ c.2.2.2.1) (fun id => (ayo b id c.2.1).isSome) <;> rfl
  ·unfold awP aeN aeN aeN
   try dsimp only
   cases List.any (c.2.2.1 ++ c.2.2.2.1) (fun id => ak9 s id c.2.1 == 5) with
   | true => rfl
   | false =>
   cases List.any (c.2.2.1 ++ c.2.2.2.1) (fun id => ak9 s id c.2.1 == 4) <;> rfl
 refine Eq.trans (agq (b.2.2.2.2.1.take i) (fun x => x.1 == c.1) (fun z11 => ifb (ige z11 (0 : Int)) (some 6) (some (awP b s c))) (some 6) (some (awP b s c)) (fun j => ?_) (fun j a hj ha kn => ?_) (fun kn => ?_)) ?_
 ·have : ige (j : Int) 0 = true := by simp [ige]
  rw [acD this]
 ·try dsimp only
  unfold afI
  rw [rest, acs hj, acn ha, aco hj (by rw [List.length_take]; omega), adM]
 ·try dsimp only
  unfold afI
  rw [acL, rest]
 ·cases List.any (b.2.2.2.2.1.take i) (fun x => x.1 == c.1) <;> rfl
def aGI (b : acC) (g : acY) : List Int :=
 [g.2.1] ++ (b.2.2.2.2.1.filter fun c => !(c.2.2.1.contains g.1 == c.2.2.2.1.contains g.1)).map (fun c => c.2.1) ++ (b.2.2.2.2.2.filter fun n => n.1 == g.1).map (fun n => n.2)
def acB (b : acC) (g : acY) : List Int := aJ2 (aGI b g)
structure ahD (b : acC) : Prop where
 gauges : b.2.1.length ≤ 1000
 uses : b.2.2.1.length ≤ 1000
 loans : b.2.2.2.1.length ≤ 1000
 compares : b.2.2.2.2.1.length ≤ 1000
 looks : b.2.2.2.2.2.length ≤ 1000
 piles : ∀ c ∈ b.2.2.2.2.1, c.2.2.1.length ≤ 1000 ∧ c.2.2.2.1.length ≤ 1000
theorem aHp (l : List Int) : (asA l).length = l.length := List.length_mergeSort l
theorem aJy {b : acC} (hs : ahD b) (g : acY) : (aGI b g).length ≤ 2001 := by
 have h1 := hs.compares
 have h2 := hs.looks
 have h3 := List.length_filter_le (fun c : Cmp => !(c.2.2.1.contains g.1 == c.2.2.2.1.contains g.1)) b.2.2.2.2.1
 have h4 := List.length_filter_le (fun n : Int × Int => n.1 == g.1) b.2.2.2.2.2
 simp only [aGI, List.length_append, List.length_map, List.length_singleton]
 omega
theorem aPY {b : acC} (hs : ahD b) (g : acY) : ajp b g = some (acB b g) := by
 unfold ajp aGj
 have hr := aJy hs g
 have hd : (acB b g).length ≤ 2001 := by
  unfold acB
  have := ayv (aGI b g)
  omega
 have hcl := hs.compares
 have hll := hs.looks
 refine adh b.2.2.2.2.1 (fun i => [g.2.1] ++ ((b.2.2.2.2.1.take i).filter fun c => !(c.2.2.1.contains g.1 == c.2.2.2.1.contains g.1)).map (fun c => c.2.1)) _ rfl (fun i c hi hc kn => ?_) (fun kn => ?_)
 ·try dsimp only
  unfold anb
  obtain ⟨p1, p2⟩ := hs.piles c (List.mem_of_getElem? hc)
  rw [acs hi, acn hc, aiS (by omega), ab8, aiS (by omega), ab8, aco hi (by omega), aco hi (by omega), take_succ hc, List.filter_append, List.map_append]
  have hlen : ([g.2.1] ++ ((b.2.2.2.2.1.take i).filter fun c => !(c.2.2.1.contains g.1 == c.2.2.2.1.contains g.1)).map (fun c => c.2.1)).length ≤ 1001 := by
   have h3 := List.length_filter_le (fun c : Cmp => !(c.2.2.1.contains g.1 == c.2.2.2.1.contains g.1)) (b.2.2.2.2.1.take i)
   rw [List.length_take] at h3
   simp only [List.length_append, List.length_map, List.length_singleton]
   omega
  rw [acu (by simp only [List.length_singleton]; omega), Am.iff_true]
  cases h : (c.2.2.1.contains g.1 == c.2.2.2.1.contains g.1) with
  | true => simp only [Bool.not_true, acU, List.filter_cons, h, Bool.false_eq_true, if_false, List.filter_nil, List.map_nil, List.append_nil]
  | false => simp only [Bool.not_false, aeG, List.filter_cons, h, if_true, List.filter_nil, List.map_cons, List.map_nil, List.append_assoc]
 ·try dsimp only
  unfold anb
  rw [acL, List.take_length]
  refine adh b.2.2.2.2.2 (fun i => [g.2.1] ++ (b.2.2.2.2.1.filter fun c => !(c.2.2.1.contains g.1 == c.2.2.2.1.contains g.1)).map (fun c => c.2.1) ++ ((b.2.2.2.2.2.take i).filter fun n => n.1 == g.1).map (fun n => n.2)) _ (by simp) (fun i n hi hn kn => ?_) (fun kn => ?_)
  ·try dsimp only
   unfold ana
   rw [acs hi, acn hn, aco hi (by omega), aco hi (by omega), take_succ hn, List.filter_append, List.map_append]
   have hlen : ([g.2.1] ++ (b.2.2.2.2.1.filter fun c => !(c.2.2.1.contains g.1 == c.2.2.2.1.contains g.1)).map (fun c => c.2.1) ++ ((b.2.2.2.2.2.take i).filter fun n => n.1 == g.1).map (fun n => n.2)).length ≤ 2001 := by
    have h3 := List.length_filter_le (fun c : Cmp => !(c.2.2.1.contains g.1 == c.2.2.2.1.contains g.1)) b.2.2.2.2.1
    have h4 := List.length_filter_le (fun n : Int × Int => n.1 == g.1) (b.2.2.2.2.2.take i)
    rw [List.length_take] at h4
    simp only [List.length_append, List.length_map, List.length_singleton]
    omega
   rw [acu (by simp only [List.length_singleton]; omega), Am.iff_true]
   cases h : (n.1 == g.1) with
   | true =>
     have : ieq n.1 g.1 = true := h
     simp [h, this]
   | false =>
     have : ieq n.1 g.1 = false := h
     simp [h, this]
  ·try dsimp only
   unfold ana
   rw [acL, List.take_length]
   rw [show ([g.2.1] ++ (b.2.2.2.2.1.filter fun c => !(c.2.2.1.contains g.1 == c.2.2.2.1.contains g.1)).map (fun c => c.2.1) ++ (b.2.2.2.2.2.filter fun n => n.1 == g.1).map (fun n => n.2)) = aGI b g from rfl]
   dsimp only
   rw [acu (by omega), Am.iff_true, acu (by rw [aHp]; omega), Am.iff_true, aOz]
   rfl
def ack (b : acC) : List (Int × Int) := b.2.1.flatMap fun g => (acB b g).map fun d => ((g.1, d) : Int × Int)
theorem aBm {b : acC} (hs : ahD b) (g : acY) : (acB b g).length ≤ 2001 := by
 unfold acB
 have := ayv (aGI b g)
 have := aJy hs g
 omega
theorem asm {α β : Type} (f : α → List β) (n : Nat) (h : ∀ a, (f a).length ≤ n) : ∀ l : List α, (l.flatMap f).length ≤ l.length * n
 | [] => by simp
 | a :: l => by
   have := asm f n h l
   have := h a
   simp only [List.flatMap_cons, List.length_append, List.length_cons, Nat.add_mul, Nat.one_mul]
   omega
theorem aEY {b : acC} (hs : ahD b) : aki b = some (ack b) := by
 unfold aki aAE
 have hg := hs.gauges
 have hlen : ∀ l : List acY, (l.flatMap fun g => (acB b g).map fun d => ((g.1, d) : Int × Int)).length ≤ l.length * 2001 := fun l =>
  asm _ 2001 (fun g => by rw [List.length_map]; exact aBm hs g) l
 refine adh b.2.1 (fun i => (b.2.1.take i).flatMap fun g => (acB b g).map fun d => ((g.1, d) : Int × Int)) _ rfl (fun i g hi hg' kn => ?_) (fun kn => ?_)
 ·try dsimp only
  unfold akY
  rw [acs hi, acn hg']
  rw [show ajp ((b.1.1, b.1.2), b.2.1, b.2.2.1, b.2.2.2.1, b.2.2.2.2.1, b.2.2.2.2.2) g = ajp b g from rfl, aPY hs, ab8]
  have hd := aBm hs g
  have hi2 := hlen (b.2.1.take i)
  have htl : (b.2.1.take i).length ≤ 1000 := by rw [List.length_take]; omega
  refine adh (acB b g) (fun j => ((b.2.1.take i).flatMap fun g => (acB b g).map fun d => ((g.1, d) : Int × Int)) ++ ((acB b g).take j).map fun d => ((g.1, d) : Int × Int)) _ (by simp) (fun j d hj hd' kn' => ?_) (fun kn' => ?_)
  ·try dsimp only
   unfold akX
   rw [acs hj, acn hd', aco hj (by omega), take_succ hd', List.map_append]
   rw [acu (by simp only [List.length_append, List.length_map, List.length_take, List.length_singleton]; omega), Am.iff_true]
   simp
  ·try dsimp only
   unfold akX
   rw [acL, List.take_length]
   dsimp only
   rw [aco hi (by omega), take_succ hg', List.flatMap_append]
   simp
 ·try dsimp only
  unfold akY
  rw [acL, List.take_length]
  rfl
def awQ (b : acC) (s : List (Int × acY)) : List Int :=
 b.2.2.1.map (fun u => aQW s u.1 u.2) ++ (b.2.2.2.1.mapIdx (fun i l => aK7 b s i l) ++ (b.2.2.2.2.1.mapIdx (fun i c => aqb b s i c) ++ b.2.2.2.2.2.map (fun u => aQW s u.1 u.2)))
theorem aIa {α : Type} {f : Int → Option Int} {g : Nat → α → Int} (l : List α) (h : ∀ (i : Nat) (a : α), l[i]? = some a → f i = some (g i a)) : azu f (aoc l.length) = some (l.mapIdx g) := by
 have h1 : ∀ i, i < l.length → f (i : Int) = some ((l.mapIdx g)[i]?.getD 0) := by
  intro i hi
  rw [h i l[i] (List.getElem?_eq_getElem hi)]
  simp [hi]
 have h2 : ∀ x ∈ aoc l.length, f x = some ((l.mapIdx g)[x.toNat]?.getD 0) := by
  intro x hx
  unfold aoc at hx
  obtain ⟨i, hi, rfl⟩ := List.mem_map.1 hx
  rw [h1 i (by simpa using hi)]
  rfl
 rw [asY h2]
 congr 1
 refine List.ext_getElem (by simp [aoc]) fun i h3 h4 => ?_
 have h5 : i < l.length := by simpa using h4
 simp [aoc, h5]
theorem aRd {b : acC} (hs : ahD b) (s : List (Int × acY)) : aiK b s = some (awQ b s) := by
 unfold aiK awQ
 rw [asY (fun u _ => aHK s u.1 u.2), ab8, aIa b.2.2.2.1 (fun i l hl => aJC hs.loans hs.uses s hl), ab8,
  aIa b.2.2.2.2.1 (fun i c hc => aBr hs.compares hs.loans s (hs.piles c (List.mem_of_getElem? hc)).1 (hs.piles c (List.mem_of_getElem? hc)).2 hc), ab8, asY (fun u _ => aHK s u.1 u.2), ab8]
def acN (b : acC) : Int :=
 if !akq b.1 0 1000000 then 1 else
 if 12 < b.2.1.length then 2 else if 40 < b.2.2.1.length then 2 else if 12 < b.2.2.2.1.length then 2 else if 40 < b.2.2.2.2.1.length then 2 else if 10 < b.2.2.2.2.2.length then 2 else
 if ai2 b != 0 then ai2 b else
 match (awQ b (ajM b)).find? (fun e => e != 0) with
 | some e => e
 | none => if 59 < (ack b).length then 2 else if 300 < 2 * b.2.1.length + 2 * ((ack b).length - b.2.1.length : Int) + 2 * b.2.2.2.2.1.length then 2 else 0
theorem aDB {b : acC} (hs : ahD b) : (ack b).length ≤ 2001000 := by
 have := asm (fun g : acY => (acB b g).map fun d => ((g.1, d) : Int × Int)) 2001 (fun g => by rw [List.length_map]; exact aBm hs g) b.2.1
 have h2 := hs.gauges
 unfold ack
 omega
theorem af6 {b : acC} (hs : ahD b) (hr : ∀ g ∈ b.2.1, I64 g.2.2.2.2.1.1) : acW b = some (acN b) := by
 unfold acW aAP acN
 rw [auE, ab8]
 cases akq b.1 0 1000000 with
 | false => rfl
 | true =>
 have h1 := hs.gauges
 have h2 := hs.compares
 have h3 := aDB hs
 rw [acr (show (!true) = false from rfl), if_neg (by simp)]
 simp only [acO]
 by_cases c0 : 12 < b.2.1.length
 ·rw [acD (by simp [igt]; omega), if_pos c0]
 rw [acr (by simp [igt]; omega), if_neg c0]
 by_cases c1 : 40 < b.2.2.1.length
 ·rw [acD (by simp [igt]; omega), if_pos c1]
 rw [acr (by simp [igt]; omega), if_neg c1]
 by_cases c2 : 12 < b.2.2.2.1.length
 ·rw [acD (by simp [igt]; omega), if_pos c2]
 rw [acr (by simp [igt]; omega), if_neg c2]
 by_cases c3 : 40 < b.2.2.2.2.1.length
 ·rw [acD (by simp [igt]; omega), if_pos c3]
 rw [acr (by simp [igt]; omega), if_neg c3]
 by_cases c4 : 10 < b.2.2.2.2.2.length
 ·rw [acD (by simp [igt]; omega), if_pos c4]
 rw [acr (by simp [igt]; omega), if_neg c4]
 rw [aDb hr h1, ab8]
 cases hm : (ai2 b != 0) with
 | true =>
   have : ine (ai2 b) 0 = true := hm
   rw [acD this, if_pos rfl]
 | false =>
 have : ine (ai2 b) 0 = false := hm
 rw [acr this, if_neg (by simp)]
 rw [aDp h1, ab8]
 unfold aHB
 rw [aRd hs, ab8]
 cases (awQ b (ajM b)).find? (fun e => e != 0) with
 | some e => rfl
 | none =>
 dsimp only
 rw [aEY hs, ab8]
 by_cases c5 : 59 < (ack b).length
 ·rw [acD (by simp [igt]; omega), if_pos c5]
 rw [acr (by simp [igt]; omega), if_neg c5]
 rw [acx (by omega) (by omega), acx (by omega) (by omega), acx (by omega) (by omega), acx (by omega) (by omega), acx (by omega) (by omega), acx (by omega) (by omega)]
 by_cases c6 : 300 < 2 * b.2.1.length + 2 * ((ack b).length - b.2.1.length : Int) + 2 * b.2.2.2.2.1.length
 ·rw [acD (by simp [igt]; omega), if_pos c6]
 rw [acr (by simp [igt]; omega), if_neg c6]
end Go.Proofs.ZzM
end
noncomputable section
namespace Go.Proofs.ZzM
open Go Go.Am
theorem wrapU {n : Nat} (h : n < 18446744073709551616) : IntKind.wrap .u64 (n : Int) = n := by
 simp only [IntKind.wrap, IntKind.bits, IntKind.signed]
 simp
 omega
theorem wrapI {n : Nat} (h : n < 9223372036854775808) : IntKind.wrap .i64 (n : Int) = n := by
 simp only [IntKind.wrap, IntKind.bits, IntKind.signed]
 simp
 omega
def agy (l : List (Int × Int)) (x d : Int) : Option Nat := l.findIdx? fun n => decide (x = n.1) && decide (d = n.2)
theorem aJV {l : List (Int × Int)} (hn : l.length ≤ 100000000) (x d : Int) : acV l (x, d) = some (match agy l x d with | some j => (j : Int) | none => -1) := by
 unfold acV aez
 refine Eq.trans (afS l (fun n => decide (x = n.1) && decide (d = n.2)) some (some (-1)) (fun i a hi ha kn => ?_) (fun kn => ?_)) ?_
 ·try dsimp only
  unfold adw
  rw [acs hi, acn ha, aco hi (by omega), adM, Bool.and_true]
 ·try dsimp only
  unfold adw
  rw [acL]
 ·unfold agy
  cases List.findIdx? (fun n => decide (x = n.1) && decide (d = n.2)) l <;> rfl
def atP (l : List (Int × Int)) (p : List Int) (d : Int) : Int :=
 match p with
 | [] => 0
 | x :: _ => match agy l x d with | some j => (j : Int) + 1 | none => 0
theorem ag0 {l : List (Int × Int)} {x d : Int} {j : Nat} (h : agy l x d = some j) : j < l.length ∧ l[j]? = some (x, d) := by
 unfold agy at h
 obtain ⟨hj, hp, _⟩ := List.findIdx?_eq_some_iff_getElem.1 h
 refine ⟨hj, ?_⟩
 rw [List.getElem?_eq_getElem hj]
 simp only [Bool.and_eq_true, decide_eq_true_eq] at hp
 congr 1
 exact Prod.ext hp.1.symm hp.2.symm
theorem aQw (m : Maker) (p : List Int) (d : Int) (hn : m.2.1.length ≤ 100000000) : afC m p d = some (atP m.2.1 p d) := by
 unfold afC ao3 atP
 cases p with
 | nil => simp [acO, ieq]
 | cons x p =>
   have h : ieq (acv (x :: p)) 0 = false := by
    rw [acO]
    simp only [ieq, List.length_cons, beq_eq_false_iff_ne, ne_eq]
    omega
   rw [h, acU, show (0 : Int) = ((0 : Nat) : Int) from rfl, acn (a := x) rfl, aJV hn, ab8]
   cases hx : agy m.2.1 x d with
   | none => dsimp only; rw [acx (by omega) (by omega)]; simp only [hx]; rfl
   | some j =>
     have := (ag0 hx).1
     dsimp only
     rw [acx (by omega) (by omega)]
     simp only [hx]
def axN (s : List (Int × acY)) (p : List Int) : Int × Int :=
 match p with
 | [] => (0, 1)
 | x :: _ => match alJ (k := tI) (v := acl) x s with
   | some g => g.2.2.2.2.1
   | none => (0, 0)
theorem aHA (s : List (Int × acY)) (p : List Int) : afT s p = some (axN s p) := by
 unfold afT aiX axN
 cases p with
 | nil => simp [acO, ieq]
 | cons x p =>
   have h : ieq (acv (x :: p)) 0 = false := by
    rw [acO]
    simp only [ieq, List.length_cons, beq_eq_false_iff_ne, ne_eq]
    omega
   rw [h, acU, show (0 : Int) = ((0 : Nat) : Int) from rfl, acn (a := x) rfl]
   cases hx : alJ (k := tI) (v := acl) x s with
   | none => simp only [aG8, hx]
   | some g => simp only [aG8, hx]
theorem aLQ {l : List (Int × Int)} (hr : ∀ r ∈ l, I64 r.1) (hn : l.length ≤ 1000) : agH l = some (if l.any (fun r => !aBX r) then 1 else 0) := by
 unfold agH aAi
 refine Eq.trans (agq l (fun r => !aBX r) (fun _ => some 1) (some 1) (some 0) (fun _ => rfl) (fun i a hi ha kn => ?_) (fun kn => ?_)) ?_
 ·try dsimp only
  unfold akT
  rw [acs hi, acn ha, aG2 (hr a (List.mem_of_getElem? ha)), ab8, aco hi (by omega), adM]
 ·try dsimp only
  unfold akT
  rw [acL]
 ·cases l.any (fun r => !aBX r) <;> rfl
def anG (n d : Int) : Int × Int := (n / (Nat.gcd n.natAbs d.natAbs : Nat), d / (Nat.gcd n.natAbs d.natAbs : Nat))
theorem aje (r : Int × Int) : aBX r = true ↔ 1 ≤ r.2 ∧ r.2 ≤ 2147483647 ∧ (r.1.natAbs : Int) ≤ 2147483647 ∧ Nat.gcd r.1.natAbs r.2.natAbs = 1 := by
 simp [aBX]
theorem aEK {n d : Int} (hd : 0 < d) : ∃ g : Nat, 0 < g ∧ g = Nat.gcd n.natAbs d.natAbs ∧ n = (anG n d).1 * g ∧ d = (anG n d).2 * g := by
 have hg : 0 < Nat.gcd n.natAbs d.natAbs := Nat.gcd_pos_of_pos_right _ (by omega)
 refine ⟨_, hg, rfl, ?_, ?_⟩
 ·exact (Int.ediv_mul_cancel (Int.ofNat_dvd_left.2 (Nat.gcd_dvd_left _ _))).symm
 ·exact (Int.ediv_mul_cancel (Int.ofNat_dvd_left.2 (Nat.gcd_dvd_right _ _))).symm
theorem aKo {n d : Int} (hd : 0 < d) (hn : n.natAbs ≤ 2147483647) (hd2 : d ≤ 2147483647) : aBX (anG n d) = true := by
 obtain ⟨g, h0, hg, h1, h2⟩ := aEK (n := n) hd
 rw [aje]
 have a1 : n.natAbs = (anG n d).1.natAbs * g := by conv => lhs; rw [h1]; rw [Int.natAbs_mul, Int.natAbs_natCast]
 have a2 : d.natAbs = (anG n d).2.natAbs * g := by conv => lhs; rw [h2]; rw [Int.natAbs_mul, Int.natAbs_natCast]
 have p2 : 0 < (anG n d).2 := by
  rcases Int.lt_trichotomy (anG n d).2 0 with h | h | h
  ·have := Int.mul_neg_of_neg_of_pos h (show (0 : Int) < g by omega); omega
  ·rw [h] at h2; simp at h2; omega
  ·exact h
 have b1 : (anG n d).1.natAbs ≤ n.natAbs := by rw [a1]; exact Nat.le_mul_of_pos_right _ h0
 have b2 : (anG n d).2.natAbs ≤ d.natAbs := by rw [a2]; exact Nat.le_mul_of_pos_right _ h0
 refine ⟨by omega, by omega, by omega, ?_⟩
 have := Nat.gcd_mul_right (anG n d).1.natAbs g (anG n d).2.natAbs
 rw [← a1, ← a2, ← hg] at this
 have h3 : (Nat.gcd (anG n d).1.natAbs (anG n d).2.natAbs) * g = 1 * g := by omega
 exact Nat.eq_of_mul_eq_mul_right h0 h3
theorem aDt {n d : Int} (hd : 0 < d) (hn : n.natAbs ≤ 2147483647) (hd2 : d ≤ 2147483647) : akh n d = some (anG n d, 0) := by
 obtain ⟨g, h0, hg, h1, h2⟩ := aEK (n := n) hd
 have hr := (aje _).1 (aKo hd hn hd2)
 unfold akh ar1
 rw [aEF ⟨by omega, by omega⟩, ab8, aEF ⟨by omega, by omega⟩, ab8, aSr, ab8, ← hg]
 have a1 : n.natAbs = (anG n d).1.natAbs * g := by conv => lhs; rw [h1]; rw [Int.natAbs_mul, Int.natAbs_natCast]
 have a2 : d.natAbs = (anG n d).2.natAbs * g := by conv => lhs; rw [h2]; rw [Int.natAbs_mul, Int.natAbs_natCast]
 have q1 : Int.tdiv (n.natAbs : Int) (g : Int) = ((anG n d).1.natAbs : Int) := by
  rw [a1, Int.natCast_mul]; exact Int.mul_tdiv_cancel _ (by omega)
 have q2 : Int.tdiv (d.natAbs : Int) (g : Int) = ((anG n d).2.natAbs : Int) := by
  rw [a2, Int.natCast_mul]; exact Int.mul_tdiv_cancel _ (by omega)
 have z : aeI (g : Int) 0 = false := by simp [aeI]; omega
 have g1 : igt ((anG n d).1.natAbs : Int) 2147483647 = false := by simp [igt]; omega
 have g2 : igt ((anG n d).2.natAbs : Int) 2147483647 = false := by simp [igt]; omega
 rw [acr z, acr z, q1, q2, wrapU (by omega), wrapU (by omega), wrapI (by omega), wrapI (by omega), acr g1, acr g2]
 have hd0 : ilt d 0 = false := by simp [ilt]; omega
 rw [hd0]
 have e2 : ((anG n d).2.natAbs : Int) = (anG n d).2 := by omega
 rw [e2]
 by_cases hneg : n < 0
 ·have hn0 : ilt n 0 = true := by simp [ilt, hneg]
  have : (anG n d).1 ≤ 0 := by
   rcases Int.lt_or_le 0 (anG n d).1 with h | h
   ·have := Int.mul_pos h (show (0 : Int) < g by omega); omega
   ·exact h
  rw [hn0]
  rw [show (!true == false) = true from rfl, aeG, acx (by omega) (by omega)]
  have : 0 - ((anG n d).1.natAbs : Int) = (anG n d).1 := by omega
  rw [this]
 ·have hn0 : ilt n 0 = false := by simp [ilt]; omega
  have : 0 ≤ (anG n d).1 := by
   rcases Int.lt_or_le (anG n d).1 0 with h | h
   ·have := Int.mul_neg_of_neg_of_pos h (show (0 : Int) < g by omega); omega
   ·exact h
  rw [hn0]
  rw [show (!false == false) = false from rfl, acU]
  have : ((anG n d).1.natAbs : Int) = (anG n d).1 := by omega
  rw [this]
structure ams (r : Int × Int) (n d : Int) : Prop where
 rat : aBX r = true
 num : -n ≤ r.1 ∧ r.1 ≤ n
 den : r.2 ≤ d
theorem ams.pos {r : Int × Int} {n d : Int} (h : ams r n d) : 1 ≤ r.2 := ((aje r).1 h.rat).1
theorem ams.i64 {r : Int × Int} {n d : Int} (h : ams r n d) : I64 r.1 := by
 have := ((aje r).1 h.rat).2.2.1
 exact ⟨by omega, by omega⟩
theorem aOm {x y : Int × Int} (hx : aBX x = true) (hy : aBX y = true) : agH [x, y] = some 0 := by
 rw [aLQ]
 ·simp [hx, hy]
 ·intro r hr
  have : aBX r = true := by simp at hr; rcases hr with rfl | rfl <;> assumption
  have := ((aje r).1 this).2.2.1
  exact ⟨by omega, by omega⟩
 ·simp
theorem akz {a b m n : Int} (h1 : -m ≤ a ∧ a ≤ m) (h2 : -n ≤ b ∧ b ≤ n) : -(m * n) ≤ a * b ∧ a * b ≤ m * n := by
 have hm : 0 ≤ m := by omega
 have hn : 0 ≤ n := by omega
 have h3 : (a * b).natAbs ≤ (m * n).natAbs := by
  rw [Int.natAbs_mul, Int.natAbs_mul]
  exact Nat.mul_le_mul (by omega) (by omega)
 have h4 : 0 ≤ m * n := Int.mul_nonneg hm hn
 omega
def subP (x y : Int × Int) : Int × Int := anG (x.1 * y.2 - y.1 * x.2) (x.2 * y.2)
theorem aDl {x y : Int × Int} (hx : ams x 1000 100) (hy : ams y 1000 100) : (x.1 * y.2 - y.1 * x.2).natAbs ≤ 200000 ∧ 0 < x.2 * y.2 ∧ x.2 * y.2 ≤ 10000 := by
 have h1 := akz hx.num (show -100 ≤ y.2 ∧ y.2 ≤ 100 from ⟨by have := hy.pos; omega, hy.den⟩)
 have h2 := akz hy.num (show -100 ≤ x.2 ∧ x.2 ≤ 100 from ⟨by have := hx.pos; omega, hx.den⟩)
 have h3 := akz (show -100 ≤ x.2 ∧ x.2 ≤ 100 from ⟨by have := hx.pos; omega, hx.den⟩) (show -100 ≤ y.2 ∧ y.2 ≤ 100 from ⟨by have := hy.pos; omega, hy.den⟩)
 have h4 := Int.mul_pos (show 0 < x.2 by have := hx.pos; omega) (show 0 < y.2 by have := hy.pos; omega)
 refine ⟨by omega, h4, by omega⟩
theorem Sub_ok {x y : Int × Int} (hx : ams x 1000 100) (hy : ams y 1000 100) : aGF x y = some (subP x y, 0) := by
 obtain ⟨b1, b2, b3⟩ := aDl hx hy
 have h1 := akz hx.num (show -100 ≤ y.2 ∧ y.2 ≤ 100 from ⟨by have := hy.pos; omega, hy.den⟩)
 have h2 := akz hy.num (show -100 ≤ x.2 ∧ x.2 ≤ 100 from ⟨by have := hx.pos; omega, hx.den⟩)
 unfold aGF aKU
 rw [aOm hx.rat hy.rat, ab8]
 rw [show ine (0 : Int) 0 = false from rfl, acU, acx (by omega) (by omega), acx (by omega) (by omega), acx (by omega) (by omega), acx (by omega) (by omega), aDt b2 (by omega) (by omega), ab8]
 rfl
theorem aOJ {n d : Int} (hd : 0 < d) : (anG n d).1.natAbs ≤ n.natAbs ∧ (anG n d).2 ≤ d := by
 obtain ⟨g, h0, hg, h1, h2⟩ := aEK (n := n) hd
 have a1 : n.natAbs = (anG n d).1.natAbs * g := by conv => lhs; rw [h1]; rw [Int.natAbs_mul, Int.natAbs_natCast]
 have a2 : d.natAbs = (anG n d).2.natAbs * g := by conv => lhs; rw [h2]; rw [Int.natAbs_mul, Int.natAbs_natCast]
 have b1 : (anG n d).1.natAbs ≤ n.natAbs := by rw [a1]; exact Nat.le_mul_of_pos_right _ h0
 have b2 : (anG n d).2.natAbs ≤ d.natAbs := by rw [a2]; exact Nat.le_mul_of_pos_right _ h0
 exact ⟨b1, by omega⟩
theorem aEA {x y : Int × Int} (hx : ams x 1000 100) (hy : ams y 1000 100) : ams (subP x y) 200000 10000 := by
 obtain ⟨b1, b2, b3⟩ := aDl hx hy
 obtain ⟨c1, c2⟩ := aOJ (n := x.1 * y.2 - y.1 * x.2) b2
 exact ⟨aKo b2 (by omega) (by omega), by unfold subP; omega, by unfold subP; omega⟩
def aOc (k : Int × Int) (n : Int) : Int × Int := anG (k.1 * n) k.2
theorem aDG {k : Int × Int} (hk : ams k 200000 10000) {n : Int} (hn : -10000 ≤ n ∧ n ≤ 10000) : (k.1 * n).natAbs ≤ 2000000000 := by
 have := akz hk.num hn
 omega
theorem aK9 {n : Int} (hn : -10000 ≤ n ∧ n ≤ 10000) : aBX (n, 1) = true := by
 rw [aje]
 exact ⟨by simp, by simp, by simp; omega, by simp⟩
theorem aSE {k : Int × Int} (hk : ams k 200000 10000) {n : Int} (hn : -10000 ≤ n ∧ n ≤ 10000) : aBh k (n, 1) = some (aOc k n, 0) := by
 have b := aDG hk hn
 have p := hk.pos
 have q := hk.den
 unfold aBh aKW
 rw [aOm hk.rat (aK9 hn), ab8]
 rw [show ine (0 : Int) 0 = false from rfl, acU, acx (by simp only; omega) (by simp only; omega), Int.mul_one, acx (by omega) (by omega), aDt (by omega) (by simp only; omega) (by omega), ab8]
 rfl
theorem aE3 {k : Int × Int} (hk : ams k 200000 10000) {n : Int} (hn : -10000 ≤ n ∧ n ≤ 10000) : ams (aOc k n) 2000000000 10000 := by
 have b := aDG hk hn
 have p := hk.pos
 have q := hk.den
 obtain ⟨c1, c2⟩ := aOJ (n := k.1 * n) (show 0 < k.2 by omega)
 exact ⟨aKo (by omega) (by omega) (by omega), by unfold aOc; omega, by unfold aOc; omega⟩
def cmpP (x y : Int × Int) : Int := if x = y then 0 else if x.1 * y.2 < y.1 * x.2 then -1 else if y.1 * x.2 < x.1 * y.2 then 1 else 0
theorem aSw {x y : Int × Int} {m d : Int} (hx : ams x m d) (hy : ams y m d) (hm : m ≤ 2000000000) (hd : d ≤ 10000) : aBf x y = some (cmpP x y) := by
 have h1 := akz hx.num (show -d ≤ y.2 ∧ y.2 ≤ d from ⟨by have := hy.pos; have := hy.den; omega, hy.den⟩)
 have h2 := akz hy.num (show -d ≤ x.2 ∧ x.2 ≤ d from ⟨by have := hx.pos; have := hx.den; omega, hx.den⟩)
 have h0 : 0 ≤ m ∧ 0 ≤ d := ⟨by have := hx.num; omega, by have := hx.pos; have := hx.den; omega⟩
 have h3 : m * d ≤ 2000000000 * 10000 := Int.mul_le_mul hm hd h0.2 (by omega)
 unfold aBf aKS cmpP
 rw [acx (by omega) (by omega), acx (by omega) (by omega)]
 simp only [adM, Bool.and_true, Bool.and_eq_true, decide_eq_true_eq, aeI, ilt, igt, gt_iff_lt]
 have : (x.1 = y.1 ∧ x.2 = y.2) ↔ x = y := ⟨fun h => Prod.ext h.1 h.2, fun h => by rw [h]; exact ⟨rfl, rfl⟩⟩
 simp only [this]
 (repeat' split) <;> rfl
def aNh (k : Int × Int) (heat : Int × Int) : (Int × Int) × (Int × Int) :=
 if 0 < cmpP (aOc k heat.1) (aOc k heat.2) then (aOc k heat.2, aOc k heat.1) else (aOc k heat.1, aOc k heat.2)
theorem aSX {k heat : Int × Int} (hk : ams k 200000 10000) (hh : akq heat (-10000) 10000 = true) : ajo k heat = some (aNh k heat) := by
 simp only [akq, Bool.and_eq_true, decide_eq_true_eq] at hh
 obtain ⟨h1, h2, h3⟩ := hh
 have n1 : -10000 ≤ heat.1 ∧ heat.1 ≤ 10000 := ⟨by omega, by omega⟩
 have n2 : -10000 ≤ heat.2 ∧ heat.2 ≤ 10000 := ⟨by omega, by omega⟩
 have r1 : ams (heat.1, 1) 10000 10000 := ⟨aK9 n1, n1, by simp⟩
 have r2 : ams (heat.2, 1) 10000 10000 := ⟨aK9 n2, n2, by simp⟩
 unfold ajo am1 aBg aAs alv alp
 rw [aOm r1.rat r2.rat, ab8]
 have : ieq 0 0 = true := rfl
 rw [acD this, aSw r1 r2 (by omega) (by omega), ab8]
 have hc : ile (cmpP (heat.1, 1) (heat.2, 1)) 0 = true := by
  unfold cmpP
  simp only [ile, decide_eq_true_eq, Int.mul_one]
  split
  ·omega
  ·split
   ·omega
   ·rw [if_neg (by omega)]; omega
 rw [hc, ab8]
 simp only [Bool.not_true, acU]
 rw [aG2 hk.i64, hk.rat, ab8]
 simp only [Bool.not_true, acU]
 rw [aSE hk n1, ab8, aSE hk n2, ab8]
 simp only [show ine (0 : Int) 0 = false from rfl, acU]
 rw [aSw (aE3 hk n1) (aE3 hk n2) (by omega) (by omega), ab8]
 unfold aNh
 rw [adM]
 by_cases h : 0 < cmpP (aOc k heat.1) (aOc k heat.2)
 ·rw [if_pos h, if_pos (by simpa [igt] using h)]; rfl
 ·rw [if_neg h, if_neg (by simpa [igt] using h)]; rfl
def rateK (s : List (Int × acY)) (c : Cmp) : Int × Int := subP (axN s (adb c.2.2.1 c.2.2.2.1)) (axN s (adb c.2.2.2.1 c.2.2.1))
def adR (b : acC) (c : Cmp) : (Int × Int) × (Int × Int) := aNh (rateK (ajM b) c) c.2.2.2.2.2.2
theorem aJm {b : acC} (hs : ahD b) {c : Cmp} (hA : c.2.2.1.length ≤ 1000) (hB : c.2.2.2.1.length ≤ 1000)
 (h1 : ams (axN (ajM b) (adb c.2.2.1 c.2.2.2.1)) 1000 100) (h2 : ams (axN (ajM b) (adb c.2.2.2.1 c.2.2.1)) 1000 100) (hh : akq c.2.2.2.2.2.2 (-10000) 10000 = true) : ajF b c = some (adR b c) := by
 unfold ajF av6
 rw [aDp hs.gauges, ab8, als (by omega) (by omega), ab8, aHA, ab8, als (by omega) (by omega), ab8, aHA, ab8]
 unfold anr am2
 rw [Sub_ok h1 h2, ab8, ab8]
 try dsimp only
 rw [aSX (aEA h1 h2) hh, ab8]
 rfl
def ag5 (b : acC) (c : Cmp) : Int × Int :=
 (((c.2.2.1.length - 1 : Nat) : Int) * b.1.1 - ((c.2.2.2.1.length - 1 : Nat) : Int) * b.1.2, ((c.2.2.1.length - 1 : Nat) : Int) * b.1.2 - ((c.2.2.2.1.length - 1 : Nat) : Int) * b.1.1)
theorem aME {b : acC} {c : Cmp} (hA : c.2.2.1.length ≤ 1000) (hB : c.2.2.2.1.length ≤ 1000) (h1 : 0 ≤ b.1.1) (h2 : b.1.1 ≤ 1000000) (h3 : 0 ≤ b.1.2) (h4 : b.1.2 ≤ 1000000) : amm b c = some (ag5 b c) := by
 unfold amm aAL ag5
 have e : ∀ n : Nat, aJ3 0 ((n : Int) - 1) = ((n - 1 : Nat) : Int) := by
  intro n
  unfold aJ3
  split <;> omega
 have bd : ∀ (n : Nat) (x : Int), n ≤ 1000 → 0 ≤ x → x ≤ 1000000 → 0 ≤ ((n - 1 : Nat) : Int) * x ∧ ((n - 1 : Nat) : Int) * x ≤ 1000000000 := by
  intro n x hn h0 hx
  refine ⟨Int.mul_nonneg (by omega) h0, ?_⟩
  have := Int.mul_le_mul (show ((n - 1 : Nat) : Int) ≤ 1000 by omega) hx h0 (by omega)
  omega
 have b1 := bd _ _ hA h1 h2
 have b2 := bd _ _ hA h3 h4
 have b3 := bd _ _ hB h1 h2
 have b4 := bd _ _ hB h3 h4
 simp only [acO]
 rw [acx (by omega) (by omega), acx (by omega) (by omega)]
 simp only [e]
 rw [acx (by omega) (by omega), acx (by omega) (by omega), acx (by omega) (by omega), acx (by omega) (by omega), acx (by omega) (by omega), acx (by omega) (by omega)]
theorem aMC {n d : Int} (hd : 1 ≤ d) (hn : -4000000000 ≤ n ∧ n ≤ 4000000000) : apq n d = some (n / d) := by
 unfold apq aAn
 have z : aeI d 0 = false := by simp [aeI]; omega
 rw [acr z]
 have t := Int.mul_tdiv_add_tmod n d
 have b1 : -4000000000 ≤ Int.tdiv n d ∧ Int.tdiv n d ≤ 4000000000 := by
  have := Int.natAbs_tdiv_le_natAbs n d
  omega
 rw [acx (by omega) (by omega), acr z, adM]
 by_cases h : Int.tmod n d < 0
 ·rw [if_pos (by simpa [ilt] using h), acx (by omega) (by omega)]
  congr 1
  have h5 : -d < Int.tmod n d := by
   have h6 := Int.natAbs_tmod n d
   have h7 := Nat.mod_lt n.natAbs (show 0 < d.natAbs by omega)
   omega
  refine (Int.ediv_eq_iff_of_pos (by omega)).2 ⟨?_, ?_⟩ |>.symm
  ·rw [Int.sub_mul, Int.mul_comm]; omega
  ·rw [Int.sub_mul, Int.mul_comm (Int.tdiv n d)]; omega
 ·rw [if_neg (by simpa [ilt] using h)]
  congr 1
  have h5 : Int.tmod n d < d := by
   have h6 := Int.natAbs_tmod n d
   have h7 := Nat.mod_lt n.natAbs (show 0 < d.natAbs by omega)
   omega
  refine (Int.ediv_eq_iff_of_pos (by omega)).2 ⟨?_, ?_⟩ |>.symm
  ·rw [Int.mul_comm]; omega
  ·rw [Int.mul_comm (Int.tdiv n d)]; omega
theorem aSk {x : Int × Int} (hx : aBX x = true) : agH [x] = some 0 := by
 rw [aLQ]
 ·simp [hx]
 ·intro r hr
  have : aBX r = true := by simp at hr; subst hr; assumption
  have := ((aje r).1 this).2.2.1
  exact ⟨by omega, by omega⟩
 ·simp
def aBv (r : Int × Int) : Int := -(-r.1 / r.2)
theorem aM3 {r : Int × Int} (h : aBX r = true) : apr r = some (r.1 / r.2, 0) := by
 unfold apr aAv
 have := (aje r).1 h
 rw [aSk h, ab8]
 rw [show ine (0 : Int) 0 = false from rfl, acU, aMC (by omega) (by omega), ab8]
theorem awv {n d : Int} (hd : 1 ≤ d) : (n / d).natAbs ≤ n.natAbs := by
 exact Int.natAbs_ediv_le_natAbs n d
theorem aQK {r : Int × Int} (h : aBX r = true) : auU r = some (aBv r, 0) := by
 unfold auU aFW aBv
 have := (aje r).1 h
 rw [aSk h, ab8]
 rw [show ine (0 : Int) 0 = false from rfl, acU, acx (by omega) (by omega), aMC (by omega) (by omega), ab8]
 have hb := awv (n := 0 - r.1) (show 1 ≤ r.2 by omega)
 rw [acx (by omega) (by omega), Int.zero_sub, Int.zero_sub]
def aeO (b : acC) (c : Cmp) : Int × Int :=
 (c.2.2.2.2.1 - c.2.2.2.2.2.1 - (ag5 b c).2 - (adR b c).2.1 / (adR b c).2.2, c.2.2.2.2.1 + c.2.2.2.2.2.1 - (ag5 b c).1 - aBv (adR b c).1)
end Go.Proofs.ZzM
end
noncomputable section
namespace Go.Proofs.ZzM
open Go Go.Am
structure adx (b : acC) : Prop where
 film : 0 ≤ b.1.1 ∧ b.1.1 ≤ b.1.2 ∧ b.1.2 ≤ 1000000
 nG : b.2.1.length ≤ 12
 nU : b.2.2.1.length ≤ 40
 nL : b.2.2.2.1.length ≤ 12
 nC : b.2.2.2.2.1.length ≤ 40
 nK : b.2.2.2.2.2.length ≤ 10
 gauge : ∀ g ∈ b.2.1, ard g = true
 ids : b.2.1.Pairwise fun a b => a.1 < b.1
 uses : ∀ u ∈ b.2.2.1, aQW (ajM b) u.1 u.2 = 0
 loans : ∀ i l, b.2.2.2.1[i]? = some l → aK7 b (ajM b) i l = 0
 compares : ∀ i c, b.2.2.2.2.1[i]? = some c → aqb b (ajM b) i c = 0
 looks : ∀ u ∈ b.2.2.2.2.2, aQW (ajM b) u.1 u.2 = 0
 nodes : (ack b).length ≤ 59
 links : 2 * (ack b).length + 2 * b.2.2.2.2.1.length ≤ 300
theorem aA0 (b : acC) : ai2 b = 0 ↔ (∀ g ∈ b.2.1, ard g = true) ∧ b.2.1.Pairwise fun a b => a.1 < b.1 := by
 have h0 : aeN (apk b.2.1) 0 b.2.1 = none ↔ (∀ g ∈ b.2.1, ard g = true) ∧ b.2.1.Pairwise fun a b => a.1 < b.1 := by
  rw [aic, ← aMU (fun g : acY => g.1) b.2.1]
  constructor
  ·intro h
   have h1 : ∀ (j : Nat) (a : acY), b.2.1[j]? = some a → ard a = true ∧ aBF (fun g : acY => g.1) b.2.1 j a = false := by
    intro j a ha
    have := h j a ha
    rw [Nat.zero_add] at this
    unfold apk at this
    split at this
    ·cases this
    ·split at this
     ·cases this
     ·rename_i h1 h2
      exact ⟨by simpa using h1, by simpa using h2⟩
   refine ⟨fun x hx => ?_, fun i a ha => (h1 i a ha).2⟩
   obtain ⟨j, hj, rfl⟩ := List.mem_iff_getElem.1 hx
   exact (h1 j _ (List.getElem?_eq_getElem hj)).1
  ·rintro ⟨h1, h2⟩ j a ha
   rw [Nat.zero_add]
   simp [apk, h1 a (List.mem_of_getElem? ha), h2 j a ha]
 rw [← h0]
 unfold ai2
 cases h : aeN (apk b.2.1) 0 b.2.1 with
 | none => simp
 | some e =>
   have : ∀ (m : List acY) (j : Nat) (x : Int), aeN (apk b.2.1) j m = some x → x ≠ 0 := by
    intro m
    induction m with
    | nil => intro j x h; cases h
    | cons a m ih =>
      intro j x h
      unfold aeN at h
      cases hp : apk b.2.1 j a with
      | none => rw [hp] at h; exact ih _ _ h
      | some y =>
        rw [hp] at h
        cases h
        unfold apk at hp
        split at hp
        ·cases hp; omega
        ·split at hp
         ·cases hp; omega
         ·cases hp
   simp [this _ _ _ h]
theorem acQ (b : acC) : acN b = 0 ↔ adx b := by
 unfold acN
 constructor
 ·intro h
  split at h
  ·omega
  rename_i h1
  (repeat' split at h) <;> try omega
  ·rename_i hg
   have hg' : ai2 b ≠ 0 := by simpa using hg
   exact (hg' h).elim
  ·rename_i hf
   have := List.find?_some hf
   rename_i e
   simp at this
   exact (this h).elim
  ·rename_i hn1 hn2 hn3 hn4 hn5 hg e hf hn6 hn7
   have hg0 : ai2 b = 0 := by simpa using hg
   obtain ⟨g1, g2⟩ := (aA0 b).1 hg0
   have hall : ∀ x ∈ awQ b (ajM b), x = 0 := fun x hx => by
    have := List.find?_eq_none.1 hf x hx
    simpa using this
   simp only [awQ, List.mem_append] at hall
   have hs : akq b.1 0 1000000 = true := by simpa using h1
   simp only [akq, Bool.and_eq_true, decide_eq_true_eq] at hs
   refine ⟨⟨hs.1, hs.2.1, hs.2.2⟩, by omega, by omega, by omega, by omega, by omega, g1, g2, fun u hu => hall _ (.inl (List.mem_map.2 ⟨u, hu, rfl⟩)), fun i l hl => ?_, fun i c hc => ?_, fun u hu => hall _ (.inr (.inr (.inr (List.mem_map.2 ⟨u, hu, rfl⟩)))), by omega, by omega⟩
   ·obtain ⟨hi, rfl⟩ := List.getElem?_eq_some_iff.1 hl
    exact hall _ (.inr (.inl (List.mem_mapIdx.2 ⟨i, hi, rfl⟩)))
   ·obtain ⟨hi, rfl⟩ := List.getElem?_eq_some_iff.1 hc
    exact hall _ (.inr (.inr (.inl (List.mem_mapIdx.2 ⟨i, hi, rfl⟩))))
 ·intro h
  have hs : akq b.1 0 1000000 = true := by simp [akq, h.film.1, h.film.2.1, h.film.2.2]
  have hg : ai2 b = 0 := (aA0 b).2 ⟨h.gauge, h.ids⟩
  have hall : (awQ b (ajM b)).find? (fun e => e != 0) = none := by
   rw [List.find?_eq_none]
   intro x hx
   simp only [awQ, List.mem_append, List.mem_map, List.mem_mapIdx] at hx
   have : x = 0 := by
    rcases hx with ⟨u, hu, rfl⟩ | ⟨i, hi, rfl⟩ | ⟨i, hi, rfl⟩ | ⟨u, hu, rfl⟩
    ·exact h.uses u hu
    ·exact h.loans i _ (List.getElem?_eq_getElem hi)
    ·exact h.compares i _ (List.getElem?_eq_getElem hi)
    ·exact h.looks u hu
   simp [this]
  have := h.nG; have := h.nU; have := h.nL; have := h.nC; have := h.nK; have := h.nodes; have := h.links
  rw [hs, hg, hall]
  simp only [Bool.not_true, Bool.false_eq_true, if_false, bne_self_eq_false]
  rw [if_neg (by omega), if_neg (by omega), if_neg (by omega), if_neg (by omega), if_neg (by omega), if_neg (by omega), if_neg (by omega)]
section
variable {b : acC}
theorem aeV {l : List Int} (h : ajf l = true) : l.length ≤ 6 := ((aHG l).1 h).2.2
theorem adx.nums (h : adx b) {c : Cmp} (hc : c ∈ b.2.2.2.2.1) : aNn c = true := by
 obtain ⟨i, hi, rfl⟩ := List.mem_iff_getElem.1 hc
 have := h.compares i _ (List.getElem?_eq_getElem hi)
 unfold aqb at this
 split at this
 ·omega
 ·rename_i h; simpa using h
theorem adx.pilesOf (h : adx b) {c : Cmp} (hc : c ∈ b.2.2.2.2.1) : awP b (ajM b) c = 0 := by
 obtain ⟨i, hi, rfl⟩ := List.mem_iff_getElem.1 hc
 have := h.compares i _ (List.getElem?_eq_getElem hi)
 unfold aqb at this
 split at this
 ·omega
 ·split at this
  ·omega
  ·exact this
theorem ahi (c : Cmp) : aNn c = true ↔ (1 ≤ c.1 ∧ c.1 ≤ 1099511627776) ∧ (0 ≤ c.2.1 ∧ c.2.1 ≤ 20000) ∧ (-1125899906842624 ≤ c.2.2.2.2.1 ∧ c.2.2.2.2.1 ≤ 1125899906842624) ∧ (0 ≤ c.2.2.2.2.2.1 ∧ c.2.2.2.2.2.1 ≤ 1073741824) ∧ akq c.2.2.2.2.2.2 (-10000) 10000 = true ∧ ajf c.2.2.1 = true ∧ ajf c.2.2.2.1 = true := by
 simp [aNn, inP, aLl, and_assoc]
theorem adx.size (h : adx b) : ahD b := by
 have h1 := h.nG; have h2 := h.nU; have h3 := h.nL; have h4 := h.nC; have h5 := h.nK
 refine ⟨by omega, by omega, by omega, by omega, by omega, fun c hc => ?_⟩
 have := (ahi c).1 (h.nums hc)
 have a := aeV this.2.2.2.2.2.1
 have b := aeV this.2.2.2.2.2.2
 omega
theorem aEc (g : acY) : ard g = true ↔ aBX g.2.2.2.2.1 = true ∧ (-1000 ≤ g.2.2.2.2.1.1 ∧ g.2.2.2.2.1.1 ≤ 1000) ∧ g.2.2.2.2.1.2 ≤ 100 ∧ (1 ≤ g.1 ∧ g.1 ≤ 1099511627776) ∧ (0 ≤ g.2.1 ∧ g.2.1 ≤ 20000) ∧ (1 ≤ g.2.2.1 ∧ g.2.2.1 ≤ 1125899906842624) ∧ (-1073741824 ≤ g.2.2.2.1.1 ∧ g.2.2.2.1.1 ≤ g.2.2.2.1.2 ∧ g.2.2.2.1.2 ≤ 1073741824) ∧ (0 ≤ g.2.2.2.2.2 ∧ g.2.2.2.2.2 ≤ 1048576) := by
 simp [ard, inP, aLl, akq, and_assoc]
theorem ak2 {id : Int} {g : acY} (h : ahx b id = some g) : g ∈ b.2.1 ∧ g.1 = id := by
 unfold ahx at h
 exact ⟨List.mem_of_find?_eq_some h, by simpa using List.find?_some h⟩
theorem asg (hi : b.2.1.Pairwise fun a b => a.1 < b.1) {g : acY} (hg : g ∈ b.2.1) : ahx b g.1 = some g := by
 unfold ahx
 induction hl : b.2.1 generalizing b with
 | nil => rw [hl] at hg; cases hg
 | cons a t ih =>
   rw [hl] at hg hi
   rw [List.pairwise_cons] at hi
   rw [List.find?_cons]
   rcases List.mem_cons.1 hg with rfl | hg
   ·simp
   ·have h1 := hi.1 g hg
    have : (a.1 == g.1) = false := by simp; omega
    rw [this]
    have := ih (b := (b.1, t, b.2.2)) hi.2 hg rfl
    exact this
theorem avo (h : adx b) {id day : Int} (hm : ak9 (ajM b) id day = 0) : ∃ g, ahx b id = some g ∧ g.2.1 ≤ day := by
 unfold ak9 at hm
 rw [aDH h.ids] at hm
 split at hm
 ·rename_i g hg
  split at hm
  ·omega
  ·exact ⟨g, hg, by omega⟩
 ·omega
theorem aKz (s : List (Int × acY)) (id day : Int) : ak9 s id day = 0 ∨ ak9 s id day = 4 ∨ ak9 s id day = 5 := by
 unfold ak9
 split
 ·split <;> simp
 ·simp
theorem adx.pile (h : adx b) {c : Cmp} (hc : c ∈ b.2.2.2.2.1) {x : Int} (hx : x ∈ c.2.2.1 ++ c.2.2.2.1) : (∃ g, ahx b x = some g ∧ g.2.1 ≤ c.2.1) ∧ ayo b x c.2.1 = none := by
 have hp := h.pilesOf hc
 unfold awP at hp
 split at hp
 ·omega
 rename_i h5
 split at hp
 ·omega
 rename_i h4
 split at hp
 ·omega
 rename_i h9
 have a5 := (List.any_eq_false.1 (Bool.eq_false_iff.2 h5)) x hx
 have a4 := (List.any_eq_false.1 (Bool.eq_false_iff.2 h4)) x hx
 have a9 := (List.any_eq_false.1 (Bool.eq_false_iff.2 h9)) x hx
 simp at a5 a4 a9
 refine ⟨avo h ?_, a9⟩
 rcases aKz (ajM b) x c.2.1 with h0 | h0 | h0
 ·exact h0
 ·exact (a4 h0).elim
 ·exact (a5 h0).elim
theorem adx.lefts (h : adx b) {c : Cmp} (hc : c ∈ b.2.2.2.2.1) : (adb c.2.2.1 c.2.2.2.1).length ≤ 1 ∧ (adb c.2.2.2.1 c.2.2.1).length ≤ 1 ∧ (adb c.2.2.1 c.2.2.2.1).length + (adb c.2.2.2.1 c.2.2.1).length ≠ 0 := by
 have hp := h.pilesOf hc
 unfold awP at hp
 (repeat' split at hp) <;> first | omega | exact ⟨by omega, by omega, by omega⟩
theorem aiJ {a c : List Int} {x : Int} : x ∈ adb a c ↔ x ∈ a ∧ x ∉ c := by
 simp [adb]
theorem adx.rate (h : adx b) {p : List Int} (hp : ∀ x ∈ p, ∃ g, ahx b x = some g) : ams (axN (ajM b) p) 1000 100 := by
 unfold axN
 cases p with
 | nil =>
   have : ams (0, 1) 1000 100 := ⟨by decide, by decide, by decide⟩
   exact this
 | cons x t =>
   obtain ⟨g, hg⟩ := hp x (by simp)
   try dsimp only
   rw [aDH h.ids, hg]
   have := (aEc g).1 (h.gauge g (ak2 hg).1)
   exact ⟨this.1, this.2.1, this.2.2.1⟩
theorem adx.rates (h : adx b) {c : Cmp} (hc : c ∈ b.2.2.2.2.1) : ams (axN (ajM b) (adb c.2.2.1 c.2.2.2.1)) 1000 100 ∧ ams (axN (ajM b) (adb c.2.2.2.1 c.2.2.1)) 1000 100 := by
 constructor
 ·exact h.rate fun x hx => by
   obtain ⟨⟨g, hg, _⟩, _⟩ := h.pile hc (List.mem_append_left _ (aiJ.1 hx).1)
   exact ⟨g, hg⟩
 ·exact h.rate fun x hx => by
   obtain ⟨⟨g, hg, _⟩, _⟩ := h.pile hc (List.mem_append_right _ (aiJ.1 hx).1)
   exact ⟨g, hg⟩
theorem adx.growth (h : adx b) {c : Cmp} (hc : c ∈ b.2.2.2.2.1) : ajF b c = some (adR b c) := by
 obtain ⟨r1, r2⟩ := h.rates hc
 have hn := (ahi c).1 (h.nums hc)
 have a := aeV hn.2.2.2.2.2.1
 have b := aeV hn.2.2.2.2.2.2
 exact aJm h.size (by omega) (by omega) r1 r2 hn.2.2.2.2.1
theorem adx.films (h : adx b) {c : Cmp} (hA : c.2.2.1.length ≤ 1000) (hB : c.2.2.2.1.length ≤ 1000) : amm b c = some (ag5 b c) := by
 have := h.film
 exact aME hA hB (by omega) (by omega) (by omega) (by omega)
theorem aEW {k heat : Int × Int} (hk : ams k 200000 10000) (hh : akq heat (-10000) 10000 = true) : ams (aNh k heat).1 2000000000 10000 ∧ ams (aNh k heat).2 2000000000 10000 := by
 simp only [akq, Bool.and_eq_true, decide_eq_true_eq] at hh
 have r1 := aE3 hk (n := heat.1) ⟨by omega, by omega⟩
 have r2 := aE3 hk (n := heat.2) ⟨by omega, by omega⟩
 unfold aNh
 split
 ·exact ⟨r2, r1⟩
 ·exact ⟨r1, r2⟩
theorem asn {c : Cmp} (hA : c.2.2.1.length ≤ 1000) (hB : c.2.2.2.1.length ≤ 1000) (h1 : 0 ≤ b.1.1) (h2 : b.1.1 ≤ 1000000) (h3 : 0 ≤ b.1.2) (h4 : b.1.2 ≤ 1000000) :
 (-1000000000 ≤ (ag5 b c).1 ∧ (ag5 b c).1 ≤ 1000000000) ∧ (-1000000000 ≤ (ag5 b c).2 ∧ (ag5 b c).2 ≤ 1000000000) := by
 have bd : ∀ (n : Nat) (x : Int), n ≤ 1000 → 0 ≤ x → x ≤ 1000000 → 0 ≤ ((n - 1 : Nat) : Int) * x ∧ ((n - 1 : Nat) : Int) * x ≤ 1000000000 := by
  intro n x hn h0 hx
  refine ⟨Int.mul_nonneg (by omega) h0, ?_⟩
  have := Int.mul_le_mul (show ((n - 1 : Nat) : Int) ≤ 1000 by omega) hx h0 (by omega)
  omega
 have b1 := bd _ _ hA h1 h2
 have b2 := bd _ _ hA h3 h4
 have b3 := bd _ _ hB h1 h2
 have b4 := bd _ _ hB h3 h4
 unfold ag5
 try dsimp only
 omega
theorem asj {r : Int × Int} (h : ams r 2000000000 10000) : -2000000000 ≤ r.1 / r.2 ∧ r.1 / r.2 ≤ 2000000000 := by
 have := awv (n := r.1) h.pos
 have := h.num
 omega
theorem awB {r : Int × Int} (h : ams r 2000000000 10000) : -2000000000 ≤ aBv r ∧ aBv r ≤ 2000000000 := by
 have := awv (n := -r.1) h.pos
 have := h.num
 unfold aBv
 omega
theorem adx.says (h : adx b) {c : Cmp} (hc : c ∈ b.2.2.2.2.1) : anq b c = some (aeO b c) := by
 obtain ⟨r1, r2⟩ := h.rates hc
 have hn := (ahi c).1 (h.nums hc)
 have ha := aeV hn.2.2.2.2.2.1
 have hb := aeV hn.2.2.2.2.2.2
 have hf := h.film
 obtain ⟨g1, g2⟩ := aEW (aEA r1 r2) hn.2.2.2.2.1
 have fb := asn (b := b) (c := c) (by omega) (by omega) (by omega) (by omega) (by omega) (by omega)
 have q1 : ams (adR b c).1 2000000000 10000 := g1
 have q2 : ams (adR b c).2 2000000000 10000 := g2
 have c1 := awB q1
 have c2 := asj q2
 unfold anq aF0 aeO
 rw [h.growth hc, ab8, h.films (by omega) (by omega), ab8, aM3 q2.rat, ab8, aQK q1.rat, ab8]
 try dsimp only
 have n3 := hn.2.2.1
 have n4 := hn.2.2.2.1
 rw [acx (by omega) (by omega), acx (by omega) (by omega), acx (by omega) (by omega), acx (by omega) (by omega), acx (by omega) (by omega), acx (by omega) (by omega)]
end
def adi (l : aBO) (f t : Int) : Int := min l.2.1.2 (t - 1) - max l.2.1.1 f + 1
def adC (id f t : Int) : List aBO → Int
 | [] => 0
 | l :: r => (if l.1 = id ∧ 0 < adi l f t then adi l f t * l.2.2 else 0) + adC id f t r
theorem apd (id f t : Int) : ∀ (x y : List aBO), adC id f t (x ++ y) = adC id f t x + adC id f t y
 | [], y => by simp [adC]
 | l :: r, y => by
   simp only [List.cons_append, adC, apd id f t r y]
   omega
def afW (b : acC) (id f t : Int) : List Int := (b.2.2.1.filter fun u => u.1 == id && inP u.2 f (t - 1)).map fun u => u.2
def agW (b : acC) (g : acY) (f t : Int) : Int := adC g.1 f t b.2.2.2.1 + (aJ2 (afW b g.1 f t)).length * g.2.2.2.2.2
theorem awm (a c : Int) : aJf a c = min a c := by unfold aJf; split <;> omega
theorem aLc (a c : Int) : aJ3 a c = max a c := by unfold aJ3; split <;> omega
theorem awd {b : acC} (h : adx b) {l : aBO} (hl : l ∈ b.2.2.2.1) : (0 ≤ l.2.1.1 ∧ l.2.1.1 ≤ l.2.1.2 ∧ l.2.1.2 ≤ 20000) ∧ (0 ≤ l.2.2 ∧ l.2.2 ≤ 1048576) := by
 obtain ⟨i, hi, rfl⟩ := List.mem_iff_getElem.1 hl
 have := h.loans i _ (List.getElem?_eq_getElem hi)
 unfold aK7 at this
 split at this
 ·omega
 rename_i h1
 split at this
 ·omega
 rename_i h2
 simp only [Bool.not_eq_true', Bool.not_eq_false, akq, inP, Bool.and_eq_true, decide_eq_true_eq] at h1 h2
 exact ⟨h1, h2⟩
theorem aDY {l : aBO} (h : (0 ≤ l.2.1.1 ∧ l.2.1.1 ≤ l.2.1.2 ∧ l.2.1.2 ≤ 20000) ∧ (0 ≤ l.2.2 ∧ l.2.2 ≤ 1048576)) {f t : Int} (hf : 0 ≤ f) (hd : 0 < adi l f t) : 0 ≤ adi l f t * l.2.2 ∧ adi l f t * l.2.2 ≤ 20001 * 1048576 := by
 refine ⟨Int.mul_nonneg (by omega) h.2.1, Int.mul_le_mul ?_ h.2.2 h.2.1 (by omega)⟩
 unfold adi
 omega
theorem alr {id f t : Int} (hf : 0 ≤ f) : ∀ {x : List aBO}, (∀ l ∈ x, (0 ≤ l.2.1.1 ∧ l.2.1.1 ≤ l.2.1.2 ∧ l.2.1.2 ≤ 20000) ∧ (0 ≤ l.2.2 ∧ l.2.2 ≤ 1048576)) → 0 ≤ adC id f t x ∧ adC id f t x ≤ x.length * (20001 * 1048576)
 | [], _ => by simp [adC]
 | l :: r, h => by
   have ih := alr (id := id) (t := t) hf (x := r) fun l hl => h l (by simp [hl])
   simp only [adC, List.length_cons, Int.natCast_succ, Int.add_mul, Int.one_mul]
   split
   ·rename_i hc
    have := aDY (h l (by simp)) hf hc.2
    omega
   ·omega
theorem aS5 {b : acC} (h : adx b) {g : acY} (hg : 0 ≤ g.2.2.2.2.2 ∧ g.2.2.2.2.2 ≤ 1048576) {f t : Int} (hf : 0 ≤ f ∧ f ≤ 100000) (ht : 0 ≤ t ∧ t ≤ 100000) : ap8 b g f t = some (agW b g f t) := by
 have hL := h.nL
 have hU := h.nU
 have hlb : ∀ i, 0 ≤ adC g.1 f t (b.2.2.2.1.take i) ∧ adC g.1 f t (b.2.2.2.1.take i) ≤ 12 * (20001 * 1048576) := by
  intro i
  have h1 := alr (id := g.1) (t := t) hf.1 (x := b.2.2.2.1.take i) fun l hl => awd h (List.mem_of_mem_take hl)
  have h2 : ((b.2.2.2.1.take i).length : Int) * (20001 * 1048576) ≤ 12 * (20001 * 1048576) := Int.mul_le_mul_of_nonneg_right (by rw [List.length_take]; omega) (by omega)
  omega
 unfold ap8 aF8
 refine afi (fun x : Int × Int => ∃ i : Nat, i ≤ b.2.2.2.1.length ∧ x = (adC g.1 f t (b.2.2.2.1.take i), (i : Int))) (fun x => b.2.2.2.1.length - x.2.toNat) ?_ ⟨0, by omega, rfl⟩
 rintro x ⟨i, hi, rfl⟩
 rcases Nat.lt_or_ge i b.2.2.2.1.length with hlt | hge
 ·have hl : b.2.2.2.1[i]? = some b.2.2.2.1[i] := List.getElem?_eq_getElem hlt
  have hz := awd h (List.mem_of_getElem? hl)
  refine .inr ⟨(adC g.1 f t (b.2.2.2.1.take (i + 1)), (i : Int) + 1), ⟨i + 1, hlt, by simp⟩, by simp; omega, fun kn => ?_⟩
  try dsimp only
  unfold am8
  have b1 := hlb i
  have b2 := hlb (i + 1)
  have e1 : adC g.1 f t (b.2.2.2.1.take (i + 1)) = adC g.1 f t (b.2.2.2.1.take i) + (if b.2.2.2.1[i].1 = g.1 ∧ 0 < adi b.2.2.2.1[i] f t then adi b.2.2.2.1[i] f t * b.2.2.2.1[i].2.2 else 0) := by
   rw [take_succ hl, apd]; simp [adC]
  rw [acs hlt, acn hl, acx (by omega) (by omega), awm, aLc, acx (by omega) (by omega), acx (by omega) (by omega)]
  rw [show min b.2.2.2.1[i].2.1.2 (t - 1) - max b.2.2.2.1[i].2.1.1 f + 1 = adi b.2.2.2.1[i] f t from rfl, adM]
  by_cases hid : b.2.2.2.1[i].1 = g.1
  ·rw [if_pos (by simpa [ieq] using hid), adM]
   by_cases hd : 0 < adi b.2.2.2.1[i] f t
   ·have lb := aDY hz hf.1 hd
    rw [if_pos ⟨hid, hd⟩] at e1
    rw [if_pos (by simpa [igt] using hd), acx (by omega) (by omega), acx (by omega) (by omega), aco hlt (by omega), e1]
   ·rw [if_neg (fun hc => hd hc.2)] at e1
    rw [if_neg (by simpa [igt] using hd), aco hlt (by omega), e1, Int.add_zero]
  ·rw [if_neg (fun hc => hid hc.1)] at e1
   rw [if_neg (by simpa [ieq] using hid), aco hlt (by omega), e1, Int.add_zero]
 ·refine .inl fun kn => ?_
  have : i = b.2.2.2.1.length := by omega
  subst this
  try dsimp only
  unfold am8
  rw [acL, List.take_length]
  have hud : ∀ x : List (Int × Int), x.length ≤ 40 → ((x.filter fun u => u.1 == g.1 && inP u.2 f (t - 1)).map fun u => u.2).length ≤ 40 := by
   intro x hx
   rw [List.length_map]
   exact Nat.le_trans (List.length_filter_le _ _) hx
  refine adh b.2.2.1 (fun i => ((b.2.2.1.take i).filter fun u => u.1 == g.1 && inP u.2 f (t - 1)).map fun u => u.2) _ rfl (fun i u hi hu kn' => ?_) (fun kn' => ?_)
  ·try dsimp only
   unfold am7
   have hx := hud (b.2.2.1.take i) (by rw [List.length_take]; omega)
   rw [acs hi, acn hu, acx (by omega) (by omega), afl, ab8, acu (by simp only [List.length_singleton]; omega), Am.iff_true, aco hi (by omega), aco hi (by omega), take_succ hu, List.filter_append, List.map_append]
   cases h1 : (u.1 == g.1) with
   | false =>
     have : ieq u.1 g.1 = false := h1
     simp only [this, acU, List.filter_cons, h1, Bool.false_and, Bool.false_eq_true, if_false, List.filter_nil, List.map_nil, List.append_nil]
   | true =>
     have : ieq u.1 g.1 = true := h1
     rw [this]
     cases h2 : inP u.2 f (t - 1) with
     | false => simp only [aeG, acU, List.filter_cons, h1, h2, Bool.true_and, Bool.false_eq_true, if_false, List.filter_nil, List.map_nil, List.append_nil]
     | true => simp only [aeG, List.filter_cons, h1, h2, Bool.true_and, if_true, List.filter_nil, List.map_nil, List.map_cons]
  ·try dsimp only
   unfold am7
   rw [acL, List.take_length]
   rw [show ((b.2.2.1.filter fun u => u.1 == g.1 && inP u.2 f (t - 1)).map fun u => u.2) = afW b g.1 f t from rfl]
   have h40 : (afW b g.1 f t).length ≤ 40 := hud _ hU
   have hc40 : (aJ2 (afW b g.1 f t)).length ≤ 40 := by
    have := ayv (afW b g.1 f t)
    omega
   have hm : 0 ≤ ((aJ2 (afW b g.1 f t)).length : Int) * g.2.2.2.2.2 ∧ ((aJ2 (afW b g.1 f t)).length : Int) * g.2.2.2.2.2 ≤ 40 * 1048576 :=
    ⟨Int.mul_nonneg (by omega) hg.1, Int.mul_le_mul (by omega) hg.2 hg.1 (by omega)⟩
   have b1 := hlb b.2.2.2.1.length
   rw [List.take_length] at b1
   dsimp only
   rw [acu (by omega), Am.iff_true, acu (by rw [aHp]; omega), Am.iff_true, aOz, acO, acx (by omega) (by omega), acx (by omega) (by omega)]
   rfl
end Go.Proofs.ZzM
end
noncomputable section
namespace Go.Proofs.ZzM
open Go Go.Am
abbrev Lk : Type := Int × Int × Int
inductive Wl (L : List Lk) (S : Int → Prop) : List Int → Int → Int → Prop
 | nil {v : Int} : S v → Wl L S [] v 0
 | step {vs : List Int} {u v m d : Int} : Wl L S vs u d → (u, v, m) ∈ L → Wl L S (u :: vs) v (d + m)
def Pot (L : List Lk) (p : Int → Int) : Prop := ∀ u v m, (u, v, m) ∈ L → p v ≤ p u + m
def InR (L : List Lk) (N : Nat) : Prop := ∀ l ∈ L, (0 ≤ l.1 ∧ l.1 < N) ∧ (0 ≤ l.2.1 ∧ l.2.1 < N)
section
variable {L : List Lk} {S : Int → Prop} {N : Nat} {p : Int → Int}
theorem Wl.cut (hp : Pot L p) {vs : List Int} {v d : Int} (h : Wl L S vs v d) : ∀ x ∈ vs, ∃ vs1 d1, Wl L S vs1 x d1 ∧ (x :: vs1) <:+ vs ∧ d1 + (p v - p x) ≤ d := by
 induction h with
 | nil h => intro x hx; cases hx
 | @step vs u v m d hw hl ih =>
   intro x hx
   have h1 := hp u v m hl
   rcases List.mem_cons.1 hx with rfl | hx
   ·exact ⟨vs, d, hw, List.suffix_refl _, by omega⟩
   ·obtain ⟨vs1, d1, g1, g2, g3⟩ := ih x hx
    exact ⟨vs1, d1, g1, g2.trans (List.suffix_cons _ _), by omega⟩
theorem Wl.simple (hp : Pot L p) {vs : List Int} {v d : Int} (h : Wl L S vs v d) : ∃ vs' d', Wl L S vs' v d' ∧ d' ≤ d ∧ (v :: vs').Nodup := by
 induction h with
 | nil h => exact ⟨[], 0, .nil h, Int.le_refl _, by simp⟩
 | @step vs u v m d hw hl ih =>
   obtain ⟨vs1, d1, g1, g2, g3⟩ := ih
   have hw1 := Wl.step g1 hl
   by_cases hv : v ∈ u :: vs1
   ·obtain ⟨vs2, d2, k1, k2, k3⟩ := hw1.cut hp v hv
    exact ⟨vs2, d2, k1, by omega, g3.sublist k2.sublist⟩
   ·exact ⟨u :: vs1, d1 + m, hw1, by omega, List.nodup_cons.2 ⟨hv, g3⟩⟩
theorem Wl.range (hL : InR L N) (hS : ∀ v, S v → 0 ≤ v ∧ v < N) {vs : List Int} {v d : Int} (h : Wl L S vs v d) : (0 ≤ v ∧ v < N) ∧ ∀ u ∈ vs, 0 ≤ u ∧ u < N := by
 induction h with
 | nil h => exact ⟨hS _ h, fun u hu => by cases hu⟩
 | @step vs u v m d hw hl ih =>
   refine ⟨(hL _ hl).2, fun w hw' => ?_⟩
   rcases List.mem_cons.1 hw' with rfl | h
   ·exact ih.1
   ·exact ih.2 w h
theorem aL6 : ∀ (N : Nat) (l : List Int), l.Nodup → (∀ x ∈ l, 0 ≤ x ∧ x < N) → l.length ≤ N
 | 0, l, _, h => by
   cases l with
   | nil => simp
   | cons a l => have := h a (by simp); omega
 | N + 1, l, hn, h => by
   have h1 : (l.erase (N : Int)).length ≤ N := aL6 N _ (hn.erase _) fun x hx => by
    have h2 := (hn.mem_erase_iff).1 hx
    have := h x h2.2
    have := h2.1
    omega
   have := List.length_erase (a := (N : Int)) (l := l)
   split at this <;> omega
theorem Wl.short (hL : InR L N) (hS : ∀ v, S v → 0 ≤ v ∧ v < N) {vs : List Int} {v d : Int} (h : Wl L S vs v d) (hn : (v :: vs).Nodup) : vs.length + 1 ≤ N := by
 have := h.range hL hS
 exact aL6 N (v :: vs) hn fun x hx => by
  rcases List.mem_cons.1 hx with rfl | hx
  ·exact this.1
  ·exact this.2 x hx
def axR (f : Lk → Bool) : List Lk → Int
 | [] => 0
 | l :: t => (if f l then min l.2.2 0 else 0) + axR f t
theorem aO4 (f : Lk → Bool) : ∀ L : List Lk, axR (fun _ => true) L ≤ axR f L
 | [] => Int.le_refl _
 | l :: t => by
   have := aO4 f t
   simp only [axR, if_true]
   split <;> omega
theorem amz (f : Lk → Bool) : ∀ L : List Lk, axR f L ≤ 0
 | [] => Int.le_refl _
 | l :: t => by
   have := amz f t
   simp only [axR]
   split <;> omega
theorem aMh {f : Lk → Bool} {l : Lk} (hf : f l = true) : ∀ {L : List Lk}, l ∈ L → axR f L ≤ l.2.2
 | a :: t, h => by
   simp only [axR]
   rcases List.mem_cons.1 h with rfl | h
   ·have := amz f t
    rw [if_pos hf]; omega
   ·have := aMh hf h
    split <;> omega
theorem aO3 {f g : Lk → Bool} (h : ∀ l, f l = true → g l = false) : ∀ L : List Lk, axR (fun l => f l || g l) L = axR f L + axR g L
 | [] => rfl
 | l :: t => by
   have ih := aO3 h t
   simp only [axR, ih]
   by_cases hf : f l = true
   ·simp [hf, h l hf]; omega
   ·have hf' : f l = false := by simpa using hf
    by_cases hg : g l = true
    ·simp [hf', hg]; omega
    ·simp [hf', hg]
theorem Wl.low {vs : List Int} {v d : Int} (h : Wl L S vs v d) : vs.Nodup → axR (fun l => vs.contains l.1) L ≤ d := by
 induction h with
 | nil h => intro _; exact amz _ _
 | @step vs u v m d hw hl ih =>
   intro hn
   rw [List.nodup_cons] at hn
   have h1 := ih hn.2
   have h2 : axR (fun l => l.1 == u) L ≤ m := aMh (f := fun l => l.1 == u) (l := (u, v, m)) (by simp) hl
   have h3 := aO3 (f := fun l : Lk => l.1 == u) (g := fun l => vs.contains l.1) (fun l hf => by
    simp only [beq_iff_eq] at hf
    rw [hf]
    simpa using hn.1) L
   have h4 : (fun l : Lk => (u :: vs).contains l.1) = fun l => (l.1 == u) || vs.contains l.1 := by funext l; rw [List.contains_cons]
   rw [h4, h3]
   omega
def ayy (L : List Lk) : Int := axR (fun _ => true) L
theorem Wl.low' (hp : Pot L p) {vs : List Int} {v d : Int} (h : Wl L S vs v d) : ayy L ≤ d := by
 obtain ⟨vs', d', h1, h2, h3⟩ := h.simple hp
 have := h1.low (List.nodup_cons.1 h3).2
 have := aO4 (fun l => vs'.contains l.1) L
 unfold ayy
 omega
theorem Wl.high {M : Int} (hM : ∀ l ∈ L, l.2.2 ≤ M) {vs : List Int} {v d : Int} (h : Wl L S vs v d) : d ≤ vs.length * M := by
 induction h with
 | nil h => simp
 | @step vs u v m d hw hl ih =>
   have := hM _ hl
   simp only [List.length_cons, Int.natCast_succ, Int.add_mul, Int.one_mul]
   simp only at this
   omega
theorem Wl.mono {S' : Int → Prop} (hS : ∀ v, S v → S' v) {vs : List Int} {v d : Int} (h : Wl L S vs v d) : Wl L S' vs v d := by
 induction h with
 | nil h => exact .nil (hS _ h)
 | step hw hl ih => exact .step ih hl
theorem Wl.pot (hp : Pot L p) {vs : List Int} {v d : Int} (h : Wl L S vs v d) : ∃ s, S s ∧ p v - p s ≤ d := by
 induction h with
 | @nil v h => exact ⟨v, h, by omega⟩
 | @step vs u v m d hw hl ih =>
   obtain ⟨s, h1, h2⟩ := ih
   have := hp u v m hl
   exact ⟨s, h1, by omega⟩
end
abbrev afx : Int := 1152921504606846976
structure aOg (L : List Lk) (S : Int → Prop) (N : Nat) (x : Int → Int) : Prop where
 att : ∀ v : Int, 0 ≤ v → v < N → x v ≠ afx → ∃ vs, Wl L S vs v (x v)
 low : ∀ v vs d, Wl L S vs v d → x v ≤ d
 bd : ∀ v : Int, 0 ≤ v → v < N → x v ≤ afx
theorem aOg.uniq {L : List Lk} {S : Int → Prop} {N : Nat} {x y : Int → Int} (hx : aOg L S N x) (hy : aOg L S N y) {v : Int} (h0 : 0 ≤ v) (h1 : v < N) : x v = y v := by
 have key : ∀ {x y : Int → Int}, aOg L S N x → aOg L S N y → x v ≤ y v := by
  intro x y hx hy
  by_cases h : y v = afx
  ·rw [h]; exact hx.bd v h0 h1
  ·obtain ⟨vs, hw⟩ := hy.att v h0 h1 h
   exact hx.low v vs _ hw
 exact Int.le_antisymm (key hx hy) (key hy hx)
def gv (x : List Int) (v : Int) : Int := x[v.toNat]?.getD 0
theorem aMv {x : List Int} {v : Int} (h : v.toNat < x.length) : x[v.toNat]? = some (gv x v) := by
 unfold gv; rw [List.getElem?_eq_getElem h]; rfl
theorem apj {x : List Int} {u v : Int} (hu : 0 ≤ u) (hv : 0 ≤ v) (h : u.toNat < x.length) (y : Int) : gv (x.set u.toNat y) v = if v = u then y else gv x v := by
 unfold gv
 rw [List.getElem?_set]
 by_cases hvu : v = u
 ·subst hvu; simp [h]
 ·have : ¬ u.toNat = v.toNat := by omega
  simp [hvu, this]
theorem aMw {x y : List Int} (hl : x.length = y.length) (h : ∀ v : Int, 0 ≤ v → v < x.length → gv x v = gv y v) : x = y := by
 refine List.ext_getElem hl fun i h1 h2 => ?_
 have := h i (by omega) (by omega)
 unfold gv at this
 simpa [h1, h2] using this
def ahL (x : List Int) (l : Lk) : List Int := if gv x l.1 < afx ∧ gv x l.1 + l.2.2 < gv x l.2.1 then x.set l.2.1.toNat (gv x l.1 + l.2.2) else x
def axP (L : List Lk) (x : List Int) : List Int := L.foldl ahL x
def ahg (L : List Lk) : Nat → List Int → List Int
 | 0, x => x
 | n + 1, x => ahg L n (axP L x)
theorem ajd (x : List Int) (l : Lk) : (ahL x l).length = x.length := by unfold ahL; split <;> simp
theorem aol (L : List Lk) : ∀ x : List Int, (axP L x).length = x.length := by
 induction L with
 | nil => intro x; rfl
 | cons l t ih => intro x; show (axP t (ahL x l)).length = _; rw [ih, ajd]
theorem aem (L : List Lk) : ∀ (n : Nat) (x : List Int), (ahg L n x).length = x.length
 | 0, x => rfl
 | n + 1, x => by rw [ahg, aem L n, aol]
theorem aru (L : List Lk) : ∀ (n : Nat) (x : List Int), ahg L (n + 1) x = axP L (ahg L n x)
 | 0, x => rfl
 | n + 1, x => by rw [ahg, aru L n]; rfl
section
variable {L0 : List Lk} {S : Int → Prop} {N : Nat}
theorem aHz {x : List Int} {l : Lk} (hl : (0 ≤ l.1 ∧ l.1 < N) ∧ (0 ≤ l.2.1 ∧ l.2.1 < N)) (hx : x.length = N) (v : Int) (hv : 0 ≤ v) : gv (ahL x l) v ≤ gv x v := by
 unfold ahL
 split
 ·rename_i h
  rw [apj hl.2.1 hv (by omega)]
  split
  ·rename_i h2; subst h2; omega
  ·exact Int.le_refl _
 ·exact Int.le_refl _
theorem asF : ∀ {L : List Lk}, InR L N → ∀ {x : List Int}, x.length = N → ∀ v, 0 ≤ v → gv (axP L x) v ≤ gv x v
 | [], _, x, _, v, _ => Int.le_refl _
 | l :: t, hL, x, hx, v, hv => by
   have h1 := aHz (hL l (by simp)) hx v hv
   have h2 := asF (L := t) (fun l hl => hL l (by simp [hl])) (x := ahL x l) (by rw [ajd, hx]) v hv
   show gv (axP t (ahL x l)) v ≤ _
   omega
theorem avj : ∀ {L : List Lk}, InR L N → ∀ {x : List Int}, x.length = N → ∀ u v m, (u, v, m) ∈ L → gv x u < afx → gv (axP L x) v ≤ gv x u + m
 | l :: t, hL, x, hx, u, v, m, hm, hf => by
   have ht : InR t N := fun l hl => hL l (by simp [hl])
   have hx' : (ahL x l).length = N := by rw [ajd, hx]
   show gv (axP t (ahL x l)) v ≤ _
   rcases List.mem_cons.1 hm with rfl | hm
   ·have hl := hL (u, v, m) (by simp)
    have h2 := asF ht hx' v hl.2.1
    have h3 : gv (ahL x (u, v, m)) v ≤ gv x u + m := by
     unfold ahL
     split
     ·rw [apj hl.2.1 hl.2.1 (by simp only at hl; simp only; omega), if_pos rfl]; exact Int.le_refl _
     ·rename_i h; simp only [not_and, Int.not_lt] at h; exact h hf
    omega
   ·have hl := hL (u, v, m) (by simp [hm])
    have h1 := aHz (hL l (by simp)) hx u hl.1.1
    have := avj ht hx' u v m hm (by omega)
    omega
def Att (L0 : List Lk) (S : Int → Prop) (N : Nat) (x : List Int) : Prop := ∀ v : Int, 0 ≤ v → v < N → gv x v < afx → ∃ vs, Wl L0 S vs v (gv x v)
theorem aNf {x : List Int} {l : Lk} (hl : (0 ≤ l.1 ∧ l.1 < N) ∧ (0 ≤ l.2.1 ∧ l.2.1 < N)) (hm : l ∈ L0) (hx : x.length = N) (h : Att L0 S N x) : Att L0 S N (ahL x l) := by
 unfold ahL
 split
 ·rename_i hc
  intro v h0 h1 hf
  rw [apj hl.2.1 h0 (by omega)] at hf ⊢
  split
  ·rename_i h2
   obtain ⟨vs, hw⟩ := h l.1 hl.1.1 hl.1.2 hc.1
   exact ⟨_, h2 ▸ Wl.step hw hm⟩
  ·rename_i h2
   rw [if_neg h2] at hf
   exact h v h0 h1 hf
 ·exact h
theorem aHJ : ∀ {L : List Lk}, InR L N → (∀ l ∈ L, l ∈ L0) → ∀ {x : List Int}, x.length = N → Att L0 S N x → Att L0 S N (axP L x)
 | [], _, _, _, _, h => h
 | l :: t, hL, hsub, x, hx, h => aHJ (L := t) (fun l hl => hL l (by simp [hl])) (fun l hl => hsub l (by simp [hl])) (x := ahL x l) (by rw [ajd, hx]) (aNf (hL l (by simp)) (hsub l (by simp)) hx h)
theorem aDw (hL : InR L0 N) : ∀ (n : Nat) {x : List Int}, x.length = N → Att L0 S N x → Att L0 S N (ahg L0 n x)
 | 0, _, _, h => h
 | n + 1, x, hx, h => aDw hL n (by rw [aol, hx]) (aHJ hL (fun _ h => h) hx h)
theorem asE (hL : InR L0 N) : ∀ (n : Nat) {x : List Int}, x.length = N → ∀ v, 0 ≤ v → gv (ahg L0 n x) v ≤ gv x v
 | 0, _, _, _, _ => Int.le_refl _
 | n + 1, x, hx, v, hv => Int.le_trans (asE hL n (by rw [aol, hx]) v hv) (asF hL hx v hv)
def amv (S : Int → Bool) (N : Nat) : List Int := (List.range N).map fun (i : Nat) => if S i then 0 else afx
theorem afZ (S : Int → Bool) {N : Nat} {v : Int} (h0 : 0 ≤ v) (h1 : v < N) : gv (amv S N) v = if S v then 0 else afx := by
 unfold gv amv
 have : v.toNat < N := by omega
 rw [List.getElem?_map, List.getElem?_range this]
 simp only [Option.map_some, Option.getD_some]
 rw [Int.toNat_of_nonneg h0]
theorem ac4 (S : Int → Bool) (N : Nat) : (amv S N).length = N := by simp [amv]
end
theorem avi {L : List Lk} {S : Int → Bool} {N : Nat} {M : Int} (hL : InR L N) (hS : ∀ v, S v = true → 0 ≤ v ∧ v < N) (hM : ∀ l ∈ L, l.2.2 ≤ M) : ∀ (n : Nat), n * M < afx → 0 ≤ M → ∀ vs v d, Wl L (fun v => S v = true) vs v d → vs.length ≤ n → gv (ahg L n (amv S N)) v ≤ d
 | 0, _, _, vs, v, d, hw, hl => by
   cases hw with
   | nil h =>
     have := hS v h
     rw [ahg, afZ S this.1 this.2, if_pos h]; exact Int.le_refl _
   | step => simp at hl
 | n + 1, hn, hM0, vs, v, d, hw, hl => by
   have hn' : n * M < afx := by rw [Int.natCast_succ, Int.add_mul, Int.one_mul] at hn; omega
   have hlen : (ahg L n (amv S N)).length = N := by rw [aem, ac4]
   rw [aru]
   cases hw with
   | nil h =>
     have h1 := asF hL hlen v (hS v h).1
     have h2 := avi hL hS hM n hn' hM0 [] v 0 (.nil h) (by simp)
     omega
   | @step vs u _ m d hw hlk =>
     have h2 := avi hL hS hM n hn' hM0 vs u d hw (by simpa using hl)
     have h3 := hw.high hM
     have h4 : (vs.length : Int) * M ≤ n * M := Int.mul_le_mul_of_nonneg_right (by simp at hl; omega) hM0
     have := avj hL hlen u v m hlk (by omega)
     omega
theorem azc {L : List Lk} {S : Int → Bool} {N : Nat} {M : Int} {p : Int → Int} (hp : Pot L p) (hL : InR L N) (hS : ∀ v, S v = true → 0 ≤ v ∧ v < N) (hM : ∀ l ∈ L, l.2.2 ≤ M) (hM0 : 0 ≤ M) (hN : N * M < afx) (n : Nat) (hn : N ≤ n + 1) : aOg L (fun v => S v = true) N (gv (ahg L n (amv S N))) := by
 have hatt : Att L (fun v => S v = true) N (amv S N) := fun v h0 h1 hf => by
  rw [afZ S h0 h1] at hf ⊢
  split
  ·rename_i h; exact ⟨[], .nil h⟩
  ·rename_i h; rw [if_neg h] at hf; omega
 have hbd : ∀ v : Int, 0 ≤ v → v < N → gv (ahg L n (amv S N)) v ≤ afx := fun v h0 h1 => by
  have := asE hL n (ac4 S N) v h0
  rw [afZ S h0 h1] at this
  have hF : (0 : Int) ≤ afx := by decide
  split at this <;> omega
 have hlow : ∀ (n : Nat), N ≤ n + 1 → ∀ v vs d, Wl L (fun v => S v = true) vs v d → gv (ahg L n (amv S N)) v ≤ d := by
  intro n hn v vs d hw
  obtain ⟨vs', d', h1, h2, h3⟩ := hw.simple hp
  have h4 := h1.short hL hS h3
  have hpos : 0 < N := by omega
  obtain ⟨k, rfl⟩ : ∃ k, N = k + 1 := ⟨N - 1, by omega⟩
  have hk : (k : Int) * M < afx := by rw [Int.natCast_succ, Int.add_mul, Int.one_mul] at hN; omega
  have h5 := avi hL hS hM k hk hM0 vs' v d' h1 (by omega)
  obtain ⟨j, rfl⟩ : ∃ j, n = k + j := ⟨n - k, by omega⟩
  have h6 : ∀ (j : Nat), gv (ahg L (k + j) (amv S (k + 1))) v ≤ gv (ahg L k (amv S (k + 1))) v := by
   intro j
   induction j with
   | zero => exact Int.le_refl _
   | succ j ih =>
     rw [← Nat.add_assoc, aru]
     have := asF hL (x := ahg L (k + j) (amv S (k + 1))) (by rw [aem, ac4]) v (h1.range hL hS).1.1
     omega
  have := h6 j
  omega
 exact ⟨fun v h0 h1 hne => aDw hL n (ac4 S N) hatt v h0 h1 (by have := hbd v h0 h1; omega), hlow n hn, hbd⟩
theorem aOg.pot {L : List Lk} {S : Int → Prop} {N : Nat} {x : Int → Int} (h : aOg L S N x) (hL : InR L N) {u v m : Int} (hl : (u, v, m) ∈ L) (hf : x u ≠ afx) : x v ≤ x u + m := by
 obtain ⟨vs, hw⟩ := h.att u (hL _ hl).1.1 (hL _ hl).1.2 hf
 exact h.low v _ _ (.step hw hl)
end Go.Proofs.ZzM
end
noncomputable section
namespace Go.Proofs.ZzM
open Go Go.Am
def adt (b : acC) (g : acY) : List Lk :=
 [(0, atP (ack b) [g.1] g.2.1, g.2.2.1 + g.2.2.2.1.2), (atP (ack b) [g.1] g.2.1, 0, -(g.2.2.1 + g.2.2.2.1.1))] ++
 (List.range ((acB b g).length - 1)).flatMap fun (k : Nat) => [(atP (ack b) [g.1] g.2.1 + k, atP (ack b) [g.1] g.2.1 + k + 1, 0), (atP (ack b) [g.1] g.2.1 + k + 1, atP (ack b) [g.1] g.2.1 + k, agW b g ((acB b g)[k]?.getD 0) ((acB b g)[k + 1]?.getD 0))]
def cx (b : acC) (c : Cmp) : Int := atP (ack b) (adb c.2.2.1 c.2.2.2.1) c.2.1
def cy (b : acC) (c : Cmp) : Int := atP (ack b) (adb c.2.2.2.1 c.2.2.1) c.2.1
def ac7 (b : acC) (c : Cmp) : List Lk := [(cy b c, cx b c, (aeO b c).2), (cx b c, cy b c, -(aeO b c).1)]
def acy (b : acC) : List Lk := b.2.1.flatMap (adt b) ++ b.2.2.2.2.1.flatMap (ac7 b)
def adA (b : acC) (i : Nat) (g : acY) : List (Int × Int) := [(1, (i : Int)), (1, (i : Int))] ++ (List.range ((acB b g).length - 1)).flatMap fun _ => [(2, (i : Int)), (2, (i : Int))]
def aeF (b : acC) : List (Int × Int) := (b.2.1.mapIdx (adA b)).flatten ++ (b.2.2.2.2.1.mapIdx fun i _ => [(3, (i : Int)), (3, (i : Int))]).flatten
section
variable {b : acC}
theorem aOn (h : adx b) {id day : Int} (hu : aQW (ajM b) id day = 0) : (0 ≤ day ∧ day ≤ 20000) ∧ ∃ g, ahx b id = some g ∧ g.2.1 ≤ day := by
 unfold aQW at hu
 split at hu
 ·omega
 ·rename_i hd
  simp only [Bool.not_eq_true', Bool.not_eq_false, aLl, inP, Bool.and_eq_true, decide_eq_true_eq] at hd
  exact ⟨hd, avo h hu⟩
theorem aiP {g : acY} {d : Int} : d ∈ acB b g ↔ d = g.2.1 ∨ (∃ c ∈ b.2.2.2.2.1, (c.2.2.1.contains g.1) ≠ (c.2.2.2.1.contains g.1) ∧ c.2.1 = d) ∨ (∃ n ∈ b.2.2.2.2.2, n.1 = g.1 ∧ n.2 = d) := by
 unfold acB
 rw [apO, aGI]
 simp only [List.mem_append, List.mem_singleton, List.mem_map, List.mem_filter]
 constructor
 ·rintro ((h | ⟨c, ⟨h1, h2⟩, h3⟩) | ⟨n, ⟨h1, h2⟩, h3⟩)
  ·exact .inl h
  ·exact .inr (.inl ⟨c, h1, by simpa using h2, h3⟩)
  ·exact .inr (.inr ⟨n, h1, by simpa using h2, h3⟩)
 ·rintro (h | ⟨c, h1, h2, h3⟩ | ⟨n, h1, h2, h3⟩)
  ·exact .inl (.inl h)
  ·exact .inl (.inr ⟨c, ⟨h1, by simpa using h2⟩, h3⟩)
  ·exact .inr ⟨n, ⟨h1, by simpa using h2⟩, h3⟩
theorem adx.gaugeR (h : adx b) {g : acY} (hg : g ∈ b.2.1) : aBX g.2.2.2.2.1 = true ∧ (-1000 ≤ g.2.2.2.2.1.1 ∧ g.2.2.2.2.1.1 ≤ 1000) ∧ g.2.2.2.2.1.2 ≤ 100 ∧ (1 ≤ g.1 ∧ g.1 ≤ 1099511627776) ∧ (0 ≤ g.2.1 ∧ g.2.1 ≤ 20000) ∧ (1 ≤ g.2.2.1 ∧ g.2.2.1 ≤ 1125899906842624) ∧ (-1073741824 ≤ g.2.2.2.1.1 ∧ g.2.2.2.1.1 ≤ g.2.2.2.1.2 ∧ g.2.2.2.1.2 ≤ 1073741824) ∧ (0 ≤ g.2.2.2.2.2 ∧ g.2.2.2.2.2 ≤ 1048576) := (aEc g).1 (h.gauge g hg)
theorem adx.day (h : adx b) {g : acY} (hg : g ∈ b.2.1) {d : Int} (hd : d ∈ acB b g) : g.2.1 ≤ d ∧ 0 ≤ d ∧ d ≤ 20000 := by
 have hr := h.gaugeR hg
 have hgo := asg h.ids hg
 rcases aiP.1 hd with rfl | ⟨c, hc, h1, rfl⟩ | ⟨n, hn, h1, rfl⟩
 ·have := hr.2.2.2.2.1; omega
 ·have hn := (ahi c).1 (h.nums hc)
  have hx : g.1 ∈ c.2.2.1 ++ c.2.2.2.1 := by
   rw [List.mem_append]
   by_cases h2 : g.1 ∈ c.2.2.1
   ·exact .inl h2
   ·refine .inr ?_
    have e1 : c.2.2.1.contains g.1 = false := by simpa using h2
    rw [e1] at h1
    have : c.2.2.2.1.contains g.1 = true := by cases hh : c.2.2.2.1.contains g.1 <;> simp_all
    simpa using this
  obtain ⟨⟨g', h3, h4⟩, _⟩ := h.pile hc hx
  rw [hgo] at h3; cases h3
  have := hn.2.1
  omega
 ·obtain ⟨h2, g', h3, h4⟩ := aOn h (h.looks n hn)
  rw [h1, hgo] at h3; cases h3
  omega
theorem air (g : acY) : g.2.1 ∈ acB b g := aiP.2 (.inl rfl)
theorem aGH (h : adx b) {g : acY} (hg : g ∈ b.2.1) : (acB b g).length ≤ 59 := by
 have h1 : ∀ l : List acY, g ∈ l → (acB b g).length ≤ (l.flatMap fun g => (acB b g).map fun d => ((g.1, d) : Int × Int)).length := by
  intro l
  induction l with
  | nil => intro hg; cases hg
  | cons a t ih =>
    intro hg
    rw [List.flatMap_cons, List.length_append, List.length_map]
    rcases List.mem_cons.1 hg with rfl | hg
    ·omega
    ·have := ih hg; omega
 have := h1 b.2.1 hg
 have := h.nodes
 unfold ack at this
 omega
theorem aQx {p : List Int} {d : Int} : 0 ≤ atP (ack b) p d ∧ atP (ack b) p d ≤ (ack b).length := by
 unfold atP
 cases p with
 | nil => simp
 | cons x t =>
   try dsimp only
   cases h : agy (ack b) x d with
   | none => simp
   | some j => have := (ag0 h).1; dsimp only; omega
theorem ay3 (h : adx b) {c : Cmp} (hc : c ∈ b.2.2.2.2.1) : (-1125904000000000 ≤ (aeO b c).1 ∧ (aeO b c).1 ≤ 1125904000000000) ∧ (-1125904000000000 ≤ (aeO b c).2 ∧ (aeO b c).2 ≤ 1125904000000000) := by
 obtain ⟨r1, r2⟩ := h.rates hc
 have hn := (ahi c).1 (h.nums hc)
 have ha := aeV hn.2.2.2.2.2.1
 have hb := aeV hn.2.2.2.2.2.2
 have hf := h.film
 obtain ⟨g1, g2⟩ := aEW (aEA r1 r2) hn.2.2.2.2.1
 have fb := asn (b := b) (c := c) (by omega) (by omega) (by omega) (by omega) (by omega) (by omega)
 have q1 : ams (adR b c).1 2000000000 10000 := g1
 have q2 : ams (adR b c).2 2000000000 10000 := g2
 have c1 := awB q1
 have c2 := asj q2
 have n3 := hn.2.2.1
 have n4 := hn.2.2.2.1
 unfold aeO
 try dsimp only
 omega
theorem anh (h : adx b) {g : acY} (hg : g ∈ b.2.1) {f t : Int} (hf : 0 ≤ f) : 0 ≤ agW b g f t ∧ agW b g f t ≤ 12 * (20001 * 1048576) + 40 * 1048576 := by
 have hr := (h.gaugeR hg).2.2.2.2.2.2.2
 have h1 := alr (id := g.1) (t := t) hf (x := b.2.2.2.1) fun l hl => awd h hl
 have h2 : (b.2.2.2.1.length : Int) * (20001 * 1048576) ≤ 12 * (20001 * 1048576) := Int.mul_le_mul_of_nonneg_right (by have := h.nL; omega) (by omega)
 have h3 : (afW b g.1 f t).length ≤ 40 := by
  unfold afW
  rw [List.length_map]
  exact Nat.le_trans (List.length_filter_le _ _) h.nU
 have h4 := ayv (afW b g.1 f t)
 have hm : 0 ≤ ((aJ2 (afW b g.1 f t)).length : Int) * g.2.2.2.2.2 ∧ ((aJ2 (afW b g.1 f t)).length : Int) * g.2.2.2.2.2 ≤ 40 * 1048576 :=
  ⟨Int.mul_nonneg (by omega) hr.1, Int.mul_le_mul (by omega) hr.2 hr.1 (by omega)⟩
 unfold agW
 omega
end
theorem ahU {α β : Type} (f : Nat → α → β) {l : List α} {i : Nat} {a : α} (h : l[i]? = some a) : (l.take (i + 1)).mapIdx f = (l.take i).mapIdx f ++ [f i a] := by
 have hi : i < l.length := (List.getElem?_eq_some_iff.1 h).1
 have : (l.take i).length = i := by rw [List.length_take]; omega
 rw [take_succ h, List.mapIdx_append]
 simp [this]
theorem avg {α : Type} (f : Nat → List α) (j : Nat) : (List.range (j + 1)).flatMap f = (List.range j).flatMap f ++ f j := by
 rw [List.range_succ, List.flatMap_append]; simp
theorem agL {α : Type} (f : Nat → List α) (n : Nat) (h : ∀ k, (f k).length = 2) : ((List.range n).flatMap f).length = 2 * n := by
 induction n with
 | zero => rfl
 | succ n ih => rw [avg, List.length_append, ih, h]; omega
set_option maxHeartbeats 2000000 in
theorem aMn {b : acC} (h : adx b) : auW b = some (b, ack b, (((ack b).length : Int) + 1, acy b), aeF b) := by
 unfold auW aF5
 have hN := h.nodes
 have hG := h.nG
 have hC := h.nC
 rw [aEY h.size, ab8, acO, acx (by omega) (by omega)]
 -- lengths of what comes
 have gl : ∀ g ∈ b.2.1, (adt b g).length ≤ 120 ∧ ∀ i, (adA b i g).length ≤ 120 := by
  intro g hg
  have := aGH h hg
  constructor
  ·unfold adt
   rw [List.length_append, agL _ _ (fun _ => rfl)]
   simp only [List.length_cons, List.length_nil]; omega
  ·intro i
   unfold adA
   rw [List.length_append, agL _ _ (fun _ => rfl)]
   simp only [List.length_cons, List.length_nil]; omega
 have gls : ∀ i, ((b.2.1.take i).flatMap (adt b)).length ≤ 1440 ∧ (((b.2.1.take i).mapIdx (adA b)).flatten).length ≤ 1440 := by
  intro i
  induction i with
  | zero => simp
  | succ i ih =>
    have key : ∀ i, i ≤ b.2.1.length → ((b.2.1.take i).flatMap (adt b)).length ≤ i * 120 ∧ (((b.2.1.take i).mapIdx (adA b)).flatten).length ≤ i * 120 := by
     intro i
     induction i with
     | zero => intro _; simp
     | succ i ih =>
       intro hi
       have ih := ih (by omega)
       have hg : b.2.1[i]? = some b.2.1[i] := List.getElem?_eq_getElem hi
       have h2 := gl _ (List.mem_of_getElem? hg)
       have h3 := h2.2 i
       rw [ahU _ hg, take_succ hg, List.flatMap_append, List.flatten_append, List.length_append, List.length_append]
       simp only [List.flatMap_cons, List.flatMap_nil, List.append_nil, List.flatten_cons, List.flatten_nil]
       omega
    rcases Nat.lt_or_ge b.2.1.length (i + 1) with h1 | h1
    ·rw [List.take_of_length_le (by omega)]
     have := key b.2.1.length (Nat.le_refl _)
     rw [List.take_length] at this
     omega
    ·have := key (i + 1) h1
     omega
 refine adh b.2.1 (fun i => ((b.2.1.take i).flatMap (adt b), ((b.2.1.take i).mapIdx (adA b)).flatten)) _ rfl (fun i g hi hg kn => ?_) (fun kn => ?_)
 ·try dsimp only
  unfold am6
  have hgm := List.mem_of_getElem? hg
  have hr := h.gaugeR hgm
  have hd := aGH h hgm
  have hls := gls i
  have hat := aQx (b := b) (p := [g.1]) (d := g.2.1)
  rw [acs hi, acn hg]
  rw [show ajp ((b.1.1, b.1.2), b.2.1, b.2.2.1, b.2.2.2.1, b.2.2.2.2.1, b.2.2.2.2.2) g = ajp b g from rfl, aPY h.size, ab8]
  rw [aQw _ _ _ (by dsimp only; omega), ab8]
  try dsimp only
  have r1 := hr.2.2.2.2.2.1
  have r2 := hr.2.2.2.2.2.2.1
  rw [acx (by omega) (by omega), acx (by omega) (by omega), acx (by omega) (by omega), acu (by simp only [List.length_cons, List.length_nil]; omega), Am.iff_true, acu (by simp only [List.length_cons, List.length_nil]; omega), Am.iff_true]
  refine afi (fun x : Int × List Lk × List (Int × Int) => ∃ j : Nat, j + 1 ≤ (acB b g).length ∧ x.1 = (j : Int) + 1 ∧
   x.2.1 = (b.2.1.take i).flatMap (adt b) ++ ([(0, atP (ack b) [g.1] g.2.1, g.2.2.1 + g.2.2.2.1.2), (atP (ack b) [g.1] g.2.1, 0, -(g.2.2.1 + g.2.2.2.1.1))] ++
    (List.range j).flatMap fun (k : Nat) => [(atP (ack b) [g.1] g.2.1 + k, atP (ack b) [g.1] g.2.1 + k + 1, 0), (atP (ack b) [g.1] g.2.1 + k + 1, atP (ack b) [g.1] g.2.1 + k, agW b g ((acB b g)[k]?.getD 0) ((acB b g)[k + 1]?.getD 0))]) ∧
   x.2.2 = ((b.2.1.take i).mapIdx (adA b)).flatten ++ ([(1, (i : Int)), (1, (i : Int))] ++ (List.range j).flatMap fun _ => [(2, (i : Int)), (2, (i : Int))])) (fun x => (acB b g).length - x.1.toNat) ?_
   ⟨0, List.length_pos_of_mem (air g), rfl, by simp, by simp⟩
  rintro ⟨x1, ls, ss⟩ ⟨j, hj, e1, e2, e3⟩
  dsimp only at e1 e2 e3 ⊢
  subst e1
  have hlls : ls.length ≤ 1562 := by
   rw [e2, List.length_append, List.length_append, agL _ _ (fun _ => rfl)]
   simp only [List.length_cons, List.length_nil]; omega
  have hlss : ss.length ≤ 1562 := by
   rw [e3, List.length_append, List.length_append, agL _ _ (fun _ => rfl)]
   simp only [List.length_cons, List.length_nil]; omega
  rcases Nat.lt_or_ge (j + 1) (acB b g).length with hlt | hge
  ·refine .inr ⟨((j : Int) + 1 + 1, _, _), ⟨j + 1, hlt, by push_cast; rfl, rfl, rfl⟩, by dsimp only; omega, fun kn' => ?_⟩
   try dsimp only
   unfold am5
   have g1 : (acB b g)[j]? = some ((acB b g)[j]?.getD 0) := by rw [List.getElem?_eq_getElem (by omega)]; rfl
   have g2 : (acB b g)[j + 1]? = some ((acB b g)[j + 1]?.getD 0) := by rw [List.getElem?_eq_getElem hlt]; rfl
   have d1 := h.day hgm (List.mem_of_getElem? g1)
   have d2 := h.day hgm (List.mem_of_getElem? g2)
   have lb := anh h hgm (t := (acB b g)[j + 1]?.getD 0) d1.2.1
   have ec : ((j : Int) + 1) = ((j + 1 : Nat) : Int) := by push_cast; rfl
   rw [ec, acs hlt, acx (by omega) (by omega), acx (by omega) (by omega), acx (by omega) (by omega), acx (by omega) (by omega)]
   rw [show (((j + 1 : Nat) : Int) - 1) = ((j : Nat) : Int) by omega, acn g1, acn g2]
   rw [show ap8 ((b.1.1, b.1.2), b.2.1, b.2.2.1, b.2.2.2.1, b.2.2.2.2.1, b.2.2.2.2.2) (g.1, g.2.1, g.2.2.1, (g.2.2.2.1.1, g.2.2.2.1.2), (g.2.2.2.2.1.1, g.2.2.2.2.1.2), g.2.2.2.2.2) ((acB b g)[j]?.getD 0) ((acB b g)[j + 1]?.getD 0) = ap8 b g ((acB b g)[j]?.getD 0) ((acB b g)[j + 1]?.getD 0) from rfl]
   rw [aS5 h hr.2.2.2.2.2.2.2 ⟨by omega, by omega⟩ ⟨by omega, by omega⟩, ab8, acx (by omega) (by omega), acx (by omega) (by omega), acu (by simp only [List.length_cons, List.length_nil]; omega), Am.iff_true, acu (by simp only [List.length_cons, List.length_nil]; omega), Am.iff_true, aco hlt (by omega)]
   rw [avg, avg, e2, e3]
   have a1 : atP (ack b) [g.1] g.2.1 + ((j + 1 : Nat) : Int) - 1 = atP (ack b) [g.1] g.2.1 + (j : Int) := by push_cast; omega
   have a2 : atP (ack b) [g.1] g.2.1 + ((j + 1 : Nat) : Int) = atP (ack b) [g.1] g.2.1 + (j : Int) + 1 := by push_cast; omega
   have a3 : 0 - (0 - agW b g ((acB b g)[j]?.getD 0) ((acB b g)[j + 1]?.getD 0)) = agW b g ((acB b g)[j]?.getD 0) ((acB b g)[j + 1]?.getD 0) := by omega
   rw [a1, a2, a3]
   simp only [List.append_assoc]
  ·refine .inl fun kn' => ?_
   have hje : j + 1 = (acB b g).length := by omega
   unfold am5
   rw [show ((j : Int) + 1) = (((acB b g).length : Nat) : Int) by rw [← hje]; push_cast; rfl, acL]
   dsimp only
   rw [aco hi (by omega)]
   rw [ahU _ hg, take_succ hg, List.flatMap_append, List.flatten_append, e2, e3, show j = (acB b g).length - 1 by omega]
   simp only [List.flatMap_cons, List.flatMap_nil, List.append_nil, List.flatten_cons, List.flatten_nil]
   rfl
 ·try dsimp only
  unfold am6
  rw [acL, List.take_length]
  have hls := gls b.2.1.length
  rw [List.take_length] at hls
  have cl : ∀ i, i ≤ b.2.2.2.2.1.length → ((b.2.2.2.2.1.take i).flatMap (ac7 b)).length = 2 * i ∧ (((b.2.2.2.2.1.take i).mapIdx fun i _ => [((3 : Int), (i : Int)), ((3 : Int), (i : Int))]).flatten).length = 2 * i := by
   intro i
   induction i with
   | zero => intro _; simp
   | succ i ih =>
     intro hi
     have ih := ih (by omega)
     have hg : b.2.2.2.2.1[i]? = some b.2.2.2.2.1[i] := List.getElem?_eq_getElem hi
     rw [ahU _ hg, take_succ hg, List.flatMap_append, List.flatten_append, List.length_append, List.length_append]
     simp only [List.flatMap_cons, List.flatMap_nil, List.append_nil, List.flatten_cons, List.flatten_nil, ac7, List.length_cons, List.length_nil]
     omega
  refine adh b.2.2.2.2.1 (fun i => (b.2.1.flatMap (adt b) ++ (b.2.2.2.2.1.take i).flatMap (ac7 b), (b.2.1.mapIdx (adA b)).flatten ++ ((b.2.2.2.2.1.take i).mapIdx fun i _ => [((3 : Int), (i : Int)), ((3 : Int), (i : Int))]).flatten)) _ (by simp) (fun i c hi hc kn' => ?_) (fun kn' => ?_)
  ·try dsimp only
   unfold am4
   have hcm := List.mem_of_getElem? hc
   have hn := (ahi c).1 (h.nums hcm)
   have ha := aeV hn.2.2.2.2.2.1
   have hb := aeV hn.2.2.2.2.2.2
   have sb := ay3 h hcm
   have c1 := cl i (by omega)
   rw [acs hi, acn hc, als (by omega) (by omega), ab8, aQw _ _ _ (by dsimp only; omega), ab8, als (by omega) (by omega), ab8, aQw _ _ _ (by dsimp only; omega), ab8]
   rw [show anq ((b.1.1, b.1.2), b.2.1, b.2.2.1, b.2.2.2.1, b.2.2.2.2.1, b.2.2.2.2.2) c = anq b c from rfl, h.says hcm, ab8]
   rw [acx (by omega) (by omega), acu (by simp only [List.length_append, List.length_cons, List.length_nil]; omega), Am.iff_true, acu (by simp only [List.length_append, List.length_cons, List.length_nil]; omega), Am.iff_true, aco hi (by omega), ahU _ hc, take_succ hc, List.flatMap_append, List.flatten_append]
   simp only [List.flatMap_cons, List.flatMap_nil, List.append_nil, List.flatten_cons, List.flatten_nil, List.append_assoc, Int.zero_sub]
   rfl
  ·try dsimp only
   unfold am4
   rw [acL, List.take_length]
   rfl
end Go.Proofs.ZzM
end
noncomputable section
namespace Go.Proofs.ZzM
open Go Go.Am
section
variable {ρ : Type}
def wv (w : List Bool) (v : Int) : Bool := w[v.toNat]?.getD false
theorem aLJ {w : List Bool} {u v : Int} (hu : 0 ≤ u) (hv : 0 ≤ v) (h : u.toNat < w.length) (y : Bool) : wv (w.set u.toNat y) v = if v = u then y else wv w v := by
 unfold wv
 rw [List.getElem?_set]
 by_cases hvu : v = u
 ·subst hvu; simp [h]
 ·have : ¬ u.toNat = v.toNat := by omega
  simp [hvu, this]
theorem agO {x : List Int} {v : Int} (h : v.toNat < x.length) (f : Int → Option ρ) : afm x v.toNat f = f (gv x v) := aky (aMv h) f
theorem aE0 {w : List Bool} {v : Int} (h : v.toNat < w.length) (f : Bool → Option ρ) : afm w v.toNat f = f (wv w v) := by
 refine aky ?_ f
 unfold wv; rw [List.getElem?_eq_getElem h]; rfl
theorem age {v : Int} {n : Nat} (h0 : 0 ≤ v) (h1 : v < n) (x : Option ρ) : acT ((ile 0 v) && (ilt v (n : Int))) x = x := by
 have : ((ile 0 v) && (ilt v (n : Int))) = true := by simp [ile, ilt, h0, h1]
 rw [this, Am.iff_true]
end
def aj8 (n least : Int) : List Lk → List Int → List Bool → List Int → Bool × List Int × List Bool × List Int
 | [], x, w, q => (true, x, w, q)
 | l :: t, x, w, q =>
   if l.1 ≠ n then aj8 n least t x w q else
   if gv x l.2.1 ≤ gv x n + l.2.2 then aj8 n least t x w q else
   if gv x n + l.2.2 < least then (false, x.set l.2.1.toNat (gv x n + l.2.2), w, q) else
   if wv w l.2.1 then aj8 n least t (x.set l.2.1.toNat (gv x n + l.2.2)) w q else aj8 n least t (x.set l.2.1.toNat (gv x n + l.2.2)) (w.set l.2.1.toNat true) (q ++ [l.2.1])
structure afN (L : List Lk) (N : Nat) (M : Int) : Prop where
 inr : InR L N
 noloop : ∀ l ∈ L, l.1 ≠ l.2.1
 most : ∀ l ∈ L, -M ≤ l.2.2 ∧ l.2.2 ≤ M
 len : L.length ≤ 400
 nodes : N ≤ 1000
 m0 : 0 ≤ M
 m1 : M ≤ 4503599627370496
set_option maxHeartbeats 1000000 in
theorem aRx {ρ : Type} {L : List Lk} {N : Nat} {M : Int} (hL : afN L N M) {n least : Int} (hn : 0 ≤ n ∧ n < N) {x : List Int} {w : List Bool} {q : List Int} (hx : x.length = N) (hw : w.length = N) (hq : q.length ≤ 1000000)
 (hb : -2305843009213693952 ≤ gv x n ∧ gv x n ≤ 2305843009213693952) (K0 : (Val (.pair .bool (.pair (.slice tI) (.pair (.slice .bool) (.slice tI))))) → Option ρ) (K1 : (Val (.pair (.slice tI) (.pair (.slice .bool) (.slice tI)))) → Option ρ) :
 acp (fun (v47 : (Val (.pair tI (.pair (.slice tI) (.pair (.slice .bool) (.slice tI)))))) kk52 => agc [] least n L (acv L) v47.1 v47.2.1 v47.2.2.1 v47.2.2.2 (fun u48 u49 u50 u51 => kk52 (u48, u49, u50, u51)) K0 K1) ((0 : Int), x, w, q) =
  match aj8 n least L x w q with
  | (true, r) => K1 r
  | (false, r) => K0 (false, r) := by
 have hlen := hL.len
 refine aGu L (fun i (s : List Int × List Bool × List Int) t => match aj8 n least t s.1 s.2.1 s.2.2 with | (true, r) => K1 r | (false, r) => K0 (false, r))
  (fun i s => s.1.length = N ∧ s.2.1.length = N ∧ gv s.1 n = gv x n ∧ s.2.2.length ≤ 1000000 + i) (fun s hs kn => ?_) (fun i l t s hd hi hl hI kn hk => ?_) (s := (x, w, q)) ⟨hx, hw, rfl, by simpa using hq⟩
 ·try dsimp only
  unfold agc
  rw [acL]
  rfl
 ·obtain ⟨y, u, p⟩ := s
  obtain ⟨h1, h2, h3, h4⟩ := hI
  dsimp only at h1 h2 h3 h4 hk ⊢
  have hmem : l ∈ L := List.mem_of_getElem? hl
  have hr := hL.inr l hmem
  have hm := hL.most l hmem
  have hm1 := hL.m1
  have hnl := hL.noloop l hmem
  unfold agc
  rw [acs hi, acn hl]
  unfold aj8
  by_cases hln : l.1 = n
  ·have e0 : ine l.1 n = false := by simp [ine, hln]
   rw [acr e0]
   have e1 : ∀ (f : Bool → Option ρ) (g : Option ρ), aG8 (k := tI) (v := .bool) (i : Int) [] f g = g := fun f g => rfl
   rw [e1, if_neg (by simp [hln])]
   have tn : n.toNat < y.length := by omega
   have tt : l.2.1.toNat < y.length := by omega
   have tu : l.2.1.toNat < u.length := by omega
   rw [age hn.1 (by omega), agO tn, acx (by omega) (by omega), age hr.2.1 (by omega), agO tt, adM]
   by_cases hge : gv y l.2.1 ≤ gv y n + l.2.2
   ·rw [if_pos (by simpa [ige] using hge), if_pos hge, aco hi (by omega)]
    exact hk (y, u, p) ⟨h1, h2, h3, by dsimp only; omega⟩
   ·rw [if_neg (by simpa [ige] using hge), if_neg hge]
    have hset : gv (y.set l.2.1.toNat (gv y n + l.2.2)) n = gv x n := by
     rw [apj hr.2.1 hn.1 tt, if_neg (fun h => hnl (hln.trans h)), h3]
    have hself : gv (y.set l.2.1.toNat (gv y n + l.2.2)) l.2.1 = gv y n + l.2.2 := by
     rw [apj hr.2.1 hr.2.1 tt, if_pos rfl]
    rw [age hn.1 (by omega), agO tn, acx (by omega) (by omega), age hr.2.1 (by omega), agO tt]
    rw [show (adE (List.set y l.2.1.toNat (gv y n + l.2.2))) = ((y.length : Nat) : Int) by simp [adE]]
    rw [age hr.2.1 (by omega), agO (by simpa using tt), hself, adM]
    by_cases hlt : gv y n + l.2.2 < least
    ·rw [if_pos (by simpa [ilt] using hlt), if_pos hlt]
    ·rw [if_neg (by simpa [ilt] using hlt), if_neg hlt, age hr.2.1 (by omega), aE0 tu, adM]
     cases hwv : wv u l.2.1 with
     | true =>
       rw [if_neg (by simp), if_pos rfl, aco hi (by omega)]
       exact hk (y.set l.2.1.toNat (gv y n + l.2.2), u, p) ⟨by simpa using h1, h2, hset, by dsimp only; omega⟩
     | false =>
       rw [if_pos (by simp), if_neg (by simp), acu (by simp only [List.length_singleton]; omega), Am.iff_true, age hr.2.1 (by omega), aE0 tu, aco hi (by omega)]
       exact hk (y.set l.2.1.toNat (gv y n + l.2.2), u.set l.2.1.toNat true, p ++ [l.2.1]) ⟨by simpa using h1, by simpa using h2, hset, by simp only [List.length_append, List.length_singleton]; omega⟩
  ·have e0 : ine l.1 n = true := by simp [ine, hln]
   rw [acD e0, if_pos hln, aco hi (by omega)]
   exact hk (y, u, p) ⟨h1, h2, h3, by dsimp only; omega⟩
structure aSj (N : Nat) (n least : Int) (L : List Lk) (x : List Int) (q : List Int) (x' : List Int) (w' : List Bool) (q' : List Int) : Prop where
 lx : x'.length = N
 lw : w'.length = N
 same : gv x' n = gv x n
 le : ∀ v : Int, 0 ≤ v → v < N → gv x' v ≤ gv x v
 link : ∀ v m, (n, v, m) ∈ L → gv x' v ≤ gv x n + m
 chg : ∀ v : Int, 0 ≤ v → v < N → gv x' v = gv x v ∨ (v ∈ q' ∧ gv x' v < gv x v ∧ ∃ m, (n, v, m) ∈ L ∧ gv x' v = gv x n + m ∧ least ≤ gv x' v)
 new : ∃ l, q' = q ++ l ∧ ∀ v ∈ l, (0 ≤ v ∧ v < N) ∧ gv x' v < gv x v
 nodup : q'.Nodup
 waits : ∀ v : Int, 0 ≤ v → v < N → (wv w' v = true ↔ v ∈ q')
theorem ag4 {N : Nat} {n least : Int} (hn : 0 ≤ n ∧ n < N) : ∀ {L : List Lk}, InR L N → (∀ l ∈ L, l.1 ≠ l.2.1) → ∀ {x : List Int} {w : List Bool} {q : List Int}, x.length = N → w.length = N → q.Nodup → (∀ v : Int, 0 ≤ v → v < N → (wv w v = true ↔ v ∈ q)) →
 ∀ {x' : List Int} {w' : List Bool} {q' : List Int}, aj8 n least L x w q = (true, x', w', q') → aSj N n least L x q x' w' q'
 | [], _, _, x, w, q, hx, hw, hq, hwq, x', w', q', h => by
   cases h
   exact ⟨hx, hw, rfl, fun _ _ _ => Int.le_refl _, fun _ _ h => (by cases h), fun _ _ _ => .inl rfl, ⟨[], by simp, fun _ h => by cases h⟩, hq, hwq⟩
 | l :: t, hL, hnl, x, w, q, hx, hw, hq, hwq, x', w', q', h => by
   have hLt : InR t N := fun l hl => hL l (by simp [hl])
   have hnt : ∀ l ∈ t, l.1 ≠ l.2.1 := fun l hl => hnl l (by simp [hl])
   have hr := hL l (by simp)
   have hl0 := hnl l (by simp)
   unfold aj8 at h
   split at h
   ·rename_i hne
    have a := ag4 hn hLt hnt hx hw hq hwq h
    exact ⟨a.lx, a.lw, a.same, a.le, fun v m hm => by
     rcases List.mem_cons.1 hm with rfl | hm
     ·exact (hne rfl).elim
     ·exact a.link v m hm, fun v h0 h1 => (a.chg v h0 h1).imp id fun ⟨g1, g2, m, g3, g4⟩ => ⟨g1, g2, m, by simp [g3], g4⟩, a.new, a.nodup, a.waits⟩
   ·rename_i hne
    have hln : l.1 = n := by simpa using hne
    split at h
    ·rename_i hle
     have a := ag4 hn hLt hnt hx hw hq hwq h
     exact ⟨a.lx, a.lw, a.same, a.le, fun v m hm => by
      rcases List.mem_cons.1 hm with rfl | hm
      ·have := a.le v hr.2.1 hr.2.2; simp only at hle; omega
      ·exact a.link v m hm, fun v h0 h1 => (a.chg v h0 h1).imp id fun ⟨g1, g2, m, g3, g4⟩ => ⟨g1, g2, m, by simp [g3], g4⟩, a.new, a.nodup, a.waits⟩
    ·rename_i hgt
     split at h
     ·cases h
     ·rename_i hls
      have tt : l.2.1.toNat < x.length := by omega
      have tw : l.2.1.toNat < w.length := by omega
      have hy : (x.set l.2.1.toNat (gv x n + l.2.2)).length = N := by simpa using hx
      have hyn : gv (x.set l.2.1.toNat (gv x n + l.2.2)) n = gv x n := by
       rw [apj hr.2.1 hn.1 tt, if_neg (fun h => hl0 (hln.trans h))]
      have hyv : ∀ v, 0 ≤ v → gv (x.set l.2.1.toNat (gv x n + l.2.2)) v = if v = l.2.1 then gv x n + l.2.2 else gv x v := fun v h0 => apj hr.2.1 h0 tt _
      have hlm : (n, l.2.1, l.2.2) ∈ l :: t := by rw [← hln]; simp
      -- what both ways have in common
      have fin : ∀ {w1 : List Bool} {q1 : List Int}, aSj N n least t (x.set l.2.1.toNat (gv x n + l.2.2)) q1 x' w' q' → l.2.1 ∈ q1 → (∃ l', q1 = q ++ l' ∧ ∀ v ∈ l', v = l.2.1) → aSj N n least (l :: t) x q x' w' q' := by
       intro w1 q1 a hmem hq1
       obtain ⟨new, hnew, hnv⟩ := a.new
       obtain ⟨l', hl', hlv⟩ := hq1
       have hto : gv x' l.2.1 ≤ gv x n + l.2.2 := by
        have := a.le l.2.1 hr.2.1 hr.2.2
        rw [hyv _ hr.2.1, if_pos rfl] at this
        exact this
       refine ⟨a.lx, a.lw, a.same.trans hyn, fun v h0 h1 => ?_, fun v m hm => ?_, fun v h0 h1 => ?_, ⟨l' ++ new, by rw [hnew, hl', List.append_assoc], fun v hv => ?_⟩, a.nodup, a.waits⟩
       ·have := a.le v h0 h1
        rw [hyv v h0] at this
        split at this
        ·rename_i e; subst e; omega
        ·exact this
       ·rcases List.mem_cons.1 hm with rfl | hm
        ·exact hto
        ·have := a.link v m hm
         rwa [hyn] at this
       ·rcases a.chg v h0 h1 with g | ⟨g1, g2, m, g3, g4, g5⟩
        ·rw [hyv v h0] at g
         split at g
         ·rename_i e
          subst e
          exact .inr ⟨by rw [hnew]; exact List.mem_append_left _ hmem, by omega, l.2.2, hlm, g, by omega⟩
         ·exact .inl g
        ·rw [hyv v h0] at g2
         rw [hyn] at g4
         refine .inr ⟨g1, ?_, m, by simp [g3], g4, g5⟩
         split at g2
         ·rename_i e; subst e; omega
         ·exact g2
       ·rcases List.mem_append.1 hv with hv | hv
        ·rw [hlv v hv]; exact ⟨hr.2, by omega⟩
        ·obtain ⟨g1, g2⟩ := hnv v hv
         rw [hyv v g1.1] at g2
         refine ⟨g1, ?_⟩
         split at g2
         ·rename_i e; subst e; omega
         ·exact g2
      split at h
      ·rename_i hwt
       exact fin (w1 := w) (ag4 hn hLt hnt hy hw hq hwq h) ((hwq _ hr.2.1 hr.2.2).1 hwt) ⟨[], by simp, fun _ h => by cases h⟩
      ·rename_i hwt
       have hnq : l.2.1 ∉ q := fun hc => hwt ((hwq _ hr.2.1 hr.2.2).2 hc)
       refine fin (w1 := w.set l.2.1.toNat true) (ag4 hn hLt hnt hy (by simpa using hw) ?_ ?_ h) (by simp) ⟨[l.2.1], rfl, fun v hv => by simpa using hv⟩
       ·rw [List.nodup_append]
        exact ⟨hq, by simp, fun a ha b hb => by simp at hb; subst hb; exact fun e => hnq (e ▸ ha)⟩
       ·intro v h0 h1
        rw [aLJ hr.2.1 h0 tw]
        by_cases hv : v = l.2.1
        ·simp [hv]
        ·simp only [hv, if_false, List.mem_append, List.mem_singleton, or_false]
         exact hwq v h0 h1
theorem aiI {n least : Int} : ∀ {L : List Lk}, (∀ l ∈ L, l.1 ≠ l.2.1) → (∀ l ∈ L, 0 ≤ l.2.1) → 0 ≤ n → ∀ {x : List Int} {w : List Bool} {q : List Int} {r}, aj8 n least L x w q = (false, r) → ∃ v m, (n, v, m) ∈ L ∧ gv x n + m < least
 | [], _, _, _, x, w, q, r, h => by cases h
 | l :: t, hnl, h0, hn, x, w, q, r, h => by
   have hnt : ∀ l ∈ t, l.1 ≠ l.2.1 := fun l hl => hnl l (by simp [hl])
   have h0t : ∀ l ∈ t, 0 ≤ l.2.1 := fun l hl => h0 l (by simp [hl])
   have up : (∃ v m, (n, v, m) ∈ t ∧ gv x n + m < least) → ∃ v m, (n, v, m) ∈ l :: t ∧ gv x n + m < least := fun ⟨v, m, g1, g2⟩ => ⟨v, m, by simp [g1], g2⟩
   unfold aj8 at h
   split at h
   ·exact up (aiI hnt h0t hn h)
   ·rename_i hne
    have hln : l.1 = n := by simpa using hne
    split at h
    ·exact up (aiI hnt h0t hn h)
    ·split at h
     ·rename_i hlt
      exact ⟨l.2.1, l.2.2, by rw [← hln]; simp, hlt⟩
     ·have hyn : gv (x.set l.2.1.toNat (gv x n + l.2.2)) n = gv x n := by
       unfold gv
       rw [List.getElem?_set]
       have h1 := hnl l (by simp)
       have h2 := h0 l (by simp)
       have : ¬ l.2.1.toNat = n.toNat := by omega
       simp [this]
      split at h
      ·have := aiI hnt h0t hn h
       rw [hyn] at this
       exact up this
      ·have := aiI hnt h0t hn h
       rw [hyn] at this
       exact up this
end Go.Proofs.ZzM
end
noncomputable section
namespace Go.Proofs.ZzM
open Go Go.Am
theorem aMg {ρ : Type} {L : List Lk} {N : Nat} {M : Int} (hL : afN L N M) {n least : Int} (hn : 0 ≤ n ∧ n < N) {x : List Int} {w : List Bool} {t rest : List Int} (hx : x.length = N) (hw : w.length = N) (ht : t.length = N) (hq : rest.length ≤ 1000000)
 (hb : -2305843009213693952 ≤ gv x n ∧ gv x n ≤ 2305843009213693952) (htn : 0 ≤ gv t n ∧ gv t n ≤ 1000000) (kn : List Int → List Bool → List Int → List Int → Option ρ) (k0 : (Val (.pair .bool (.pair (.slice tI) (.pair (.slice .bool) (.pair (.slice tI) (.slice tI)))))) → Option ρ) :
 ady [] least (N : Int) L x w t (n :: rest) kn k0 =
  if (N : Int) + 1 < gv t n + 1 then k0 (false, x, w.set n.toNat false, t.set n.toNat (gv t n + 1), rest) else
  match aj8 n least L x (w.set n.toNat false) rest with
  | (true, x', w', q') => kn x' w' (t.set n.toNat (gv t n + 1)) q'
  | (false, x', w', q') => k0 (false, x', w', t.set n.toNat (gv t n + 1), q') := by
 have hN := hL.nodes
 have tn : n.toNat < x.length := by omega
 have tw : n.toNat < w.length := by omega
 have tt : n.toNat < t.length := by omega
 unfold ady
 have e0 : ieq (acv (n :: rest)) 0 = false := by
  rw [acO]
  simp only [ieq, List.length_cons, beq_eq_false_iff_ne, ne_eq]
  omega
 have e1 : ilt (0 : Int) (adE (n :: rest)) = true := by simp [ilt, adE]
 have e2 : ile (1 : Int) (adE (n :: rest)) = true := by simp [ile, adE]; omega
 have e3 : decide (1 + (List.length (n :: rest) - 1) = List.length (n :: rest)) = true := by simp; omega
 rw [acr e0, adF e1]
 rw [show afm (n :: rest) 0 = fun (f : Int → Option ρ) => f n from rfl]
 try dsimp only
 rw [adF e2, adF e3, age hn.1 (by omega), aE0 tw, age hn.1 (by omega), agO tt, acx (by omega) (by omega), age hn.1 (by omega), agO tt]
 rw [show (adE (List.set t n.toNat (gv t n + 1))) = ((t.length : Nat) : Int) by simp [adE]]
 rw [age hn.1 (by omega), agO (by simpa using tt), apj hn.1 hn.1 tt, if_pos rfl, acx (by omega) (by omega), adM]
 rw [show List.drop 1 (n :: rest) = rest from rfl]
 by_cases hlt : (N : Int) + 1 < gv t n + 1
 ·rw [if_pos (by simpa [igt] using hlt), if_pos hlt]
 ·rw [if_neg (by simpa [igt] using hlt), if_neg hlt]
  rw [aRx hL hn hx (w := w.set n.toNat false) (by simpa using hw) hq hb]
  generalize aj8 n least L x (w.set n.toNat false) rest = r
  obtain ⟨b, x', w', q'⟩ := r
  cases b <;> rfl
theorem aON {ρ : Type} {L : List Lk} {N : Int} {least : Int} {x : List Int} {w : List Bool} {t : List Int} (kn : List Int → List Bool → List Int → List Int → Option ρ) (k0 : (Val (.pair .bool (.pair (.slice tI) (.pair (.slice .bool) (.pair (.slice tI) (.slice tI)))))) → Option ρ) :
 ady [] least N L x w t [] kn k0 = k0 (true, x, w, t, []) := by
 unfold ady
 have e0 : ieq (acv ([] : List Int)) 0 = true := by rw [acO]; rfl
 rw [acD e0]
def aGx (N : Nat) (t : List Int) : Nat := (t.map fun a => ((N : Int) + 2 - a).toNat).sum
theorem aMq (N : Nat) : ∀ (t : List Int) (i : Nat) (a b : Int), t[i]? = some a → a < b → a < (N : Int) + 2 → aGx N (t.set i b) < aGx N t
 | a0 :: t, 0, a, b, h, h1, h2 => by
   simp at h; subst h
   simp only [aGx, List.set_cons_zero, List.map_cons, List.sum_cons]
   omega
 | a0 :: t, i + 1, a, b, h, h1, h2 => by
   have := aMq N t i a b (by simpa using h) h1 h2
   simp only [aGx] at this
   simp only [aGx, List.set_cons_succ, List.map_cons, List.sum_cons]
   omega
theorem aI8 {N : Nat} {t : List Int} {n : Int} (hn : n.toNat < t.length) (h : gv t n ≤ (N : Int) + 1) : aGx N (t.set n.toNat (gv t n + 1)) < aGx N t :=
 aMq N t n.toNat (gv t n) _ (aMv hn) (by omega) (by omega)
structure aOf (L : List Lk) (S : Int → Prop) (N : Nat) (M : Int) (k : Nat) (A B : List Int) (x : List Int) (w : List Bool) (t q : List Int) : Prop where
 q_eq : q = A ++ B
 lx : x.length = N
 lw : w.length = N
 lt : t.length = N
 nodup : q.Nodup
 rng : ∀ v ∈ q, 0 ≤ v ∧ v < N
 waits : ∀ v : Int, 0 ≤ v → v < N → (wv w v = true ↔ v ∈ q)
 t0 : ∀ v : Int, 0 ≤ v → v < N → 0 ≤ gv t v ∧ gv t v ≤ (k : Int) + 1
 tA : ∀ v ∈ A, gv t v ≤ k
 low : ∀ vs v d, Wl L S vs v d → vs.length ≤ k → gv x v ≤ d
 nxt : ∀ vs u d, Wl L S vs u d → vs.length ≤ k → u ∉ A → ∀ v m, (u, v, m) ∈ L → gv x v ≤ d + m
 rel : ∀ u : Int, 0 ≤ u → u < N → u ∉ q → gv x u ≠ afx → ∀ v m, (u, v, m) ∈ L → gv x v ≤ gv x u + m
 att : ∀ v : Int, 0 ≤ v → v < N → gv x v ≠ afx → ∃ vs, Wl L S vs v (gv x v)
 bd : ∀ v : Int, 0 ≤ v → v < N → gv x v = afx ∨ gv x v ≤ ((k : Int) + 1) * M
 bA : ∀ v ∈ A, gv x v ≤ (k : Int) * M
 fin : ∀ v ∈ q, gv x v < afx
 kN : k + 1 ≤ N
 last : k + 1 = N → B = []
section
variable {L : List Lk} {S : Int → Prop} {N : Nat} {M : Int} {p : Int → Int} {k : Nat} {A B x : List Int} {w : List Bool} {t q : List Int}
theorem ayz {a b : Nat} {M : Int} (h : a ≤ b) (hM : 0 ≤ M) : (a : Int) * M ≤ (b : Int) * M := Int.mul_le_mul_of_nonneg_right (by omega) hM
theorem Wl.lt_free (hL : afN L N M) (hNM : N * M < afx) {vs : List Int} {v d : Int} (hw : Wl L S vs v d) (h : vs.length ≤ N) : d < afx := by
 have h1 := hw.high fun l hl => (hL.most l hl).2
 have h2 := ayz h hL.m0
 omega
theorem aOf.next (hL : afN L N M) (hNM : N * M < afx) (hS : ∀ v, S v → 0 ≤ v ∧ v < N) (h : aOf L S N M k [] B x w t q) (hB : B ≠ []) : aOf L S N M (k + 1) B [] x w t q := by
 have hM := hL.m0
 have hq : q = B := by simpa using h.q_eq
 have hk : k + 1 ≠ N := fun e => hB (h.last e)
 have hkN := h.kN
 have low' : ∀ vs v d, Wl L S vs v d → vs.length ≤ k + 1 → gv x v ≤ d := by
  intro vs v d hw hl
  cases hw with
  | nil hs => exact h.low [] v 0 (.nil hs) (by simp)
  | @step vs u _ m d hw hlk => exact h.nxt vs u d hw (by simpa using hl) (by simp) v m hlk
 refine ⟨by simp [hq], h.lx, h.lw, h.lt, h.nodup, h.rng, h.waits, fun v h0 h1 => ⟨(h.t0 v h0 h1).1, by have := (h.t0 v h0 h1).2; push_cast; omega⟩, fun v hv => ?_, low', fun vs u d hw hl hu v m hlk => ?_, h.rel, h.att, fun v h0 h1 => ?_, fun v hv => ?_, h.fin, by omega, fun _ => rfl⟩
 ·have := h.rng v (by rw [hq]; exact hv)
  have := (h.t0 v this.1 this.2).2
  push_cast; omega
 ·have h1 := low' vs u d hw hl
  have h2 := hw.lt_free hL hNM (by omega)
  have h3 := (hw.range hL.inr hS).1
  have := h.rel u h3.1 h3.2 (by rw [hq]; exact hu) (by omega) v m hlk
  omega
 ·rcases h.bd v h0 h1 with h2 | h2
  ·exact .inl h2
  ·refine .inr ?_
   have := ayz (show k + 1 ≤ k + 1 + 1 by omega) hM
   push_cast at this ⊢
   omega
 ·have h1 := h.rng v (by rw [hq]; exact hv)
  have h2 := h.fin v (by rw [hq]; exact hv)
  rcases h.bd v h1.1 h1.2 with h3 | h3
  ·omega
  ·push_cast; exact h3
theorem aOf.step {n : Int} {A' : List Int} {least : Int} {x' : List Int} {w' : List Bool} {q' : List Int} (hL : afN L N M) (hNM : N * M < afx) (hp : Pot L p) (hS : ∀ v, S v → 0 ≤ v ∧ v < N) (h : aOf L S N M k (n :: A') B x w t q)
 (ha : aSj N n least L x (A' ++ B) x' w' q') : ∃ B', aOf L S N M k A' B' x' w' (t.set n.toNat (gv t n + 1)) q' := by
 have hM := hL.m0
 have hq : q = n :: (A' ++ B) := by simpa using h.q_eq
 have hkN := h.kN
 have hnr := h.rng n (by rw [hq]; simp)
 have hnf := h.fin n (by rw [hq]; simp)
 have hnd : n ∉ A' ++ B := by have := h.nodup; rw [hq, List.nodup_cons] at this; exact this.1
 have htn : n.toNat < t.length := by have := h.lt; omega
 have tset : ∀ v, 0 ≤ v → gv (t.set n.toNat (gv t n + 1)) v = if v = n then gv t n + 1 else gv t v := fun v h0 => apj hnr.1 h0 htn _
 have hkM : ((k : Int) + 1) * M < afx := by
  have := ayz hkN hM
  push_cast at this
  omega
 have xle : ∀ v : Int, 0 ≤ v → v < N → gv x v ≤ afx := fun v h0 h1 => by rcases h.bd v h0 h1 with h2 | h2 <;> omega
 obtain ⟨l, hl, hlv⟩ := ha.new
 have att' : ∀ v : Int, 0 ≤ v → v < N → gv x' v ≠ afx → ∃ vs, Wl L S vs v (gv x' v) := by
  intro v h0 h1 hne
  rcases ha.chg v h0 h1 with g | ⟨_, _, m, g3, g4, _⟩
  ·rw [g] at hne ⊢; exact h.att v h0 h1 hne
  ·obtain ⟨vs, hw⟩ := h.att n hnr.1 hnr.2 (by omega)
   rw [g4]; exact ⟨_, hw.step g3⟩
 refine ⟨B ++ l, by rw [hl, List.append_assoc], ha.lx, ha.lw, by rw [List.length_set]; exact h.lt, ha.nodup, fun v hv => ?_, ha.waits, fun v h0 h1 => ?_, fun v hv => ?_, fun vs v d hw hlen => ?_, fun vs u d hw hlen hu v m hlk => ?_,
  fun u h0 h1 hu hf v m hlk => ?_, att', fun v h0 h1 => ?_, fun v hv => ?_, fun v hv => ?_, hkN, fun hk => ?_⟩
 ·rw [hl] at hv
  rcases List.mem_append.1 hv with hv | hv
  ·exact h.rng v (by rw [hq]; simp only [List.mem_cons]; exact .inr hv)
  ·exact (hlv v hv).1
 ·rw [tset v h0]
  have h2 := h.t0 v h0 h1
  split
  ·have h3 := h.tA n (by simp)
   have h4 := h.t0 n hnr.1 hnr.2
   omega
  ·exact h2
 ·have h1 := h.rng v (by rw [hq]; simp [hv])
  rw [tset v h1.1, if_neg (fun e => hnd (by rw [← e]; simp [hv]))]
  exact h.tA v (by simp [hv])
 ·have h1 := h.low vs v d hw hlen
  have h2 := (hw.range hL.inr hS).1
  have := ha.le v h2.1 h2.2
  omega
 ·have hvr := (hL.inr _ hlk).2
  by_cases hun : u = n
  ·subst hun
   have h1 := ha.link v m hlk
   have h2 := h.low vs u d hw hlen
   omega
  ·have h1 := h.nxt vs u d hw hlen (by simp [hun, hu]) v m hlk
   have := ha.le v hvr.1 hvr.2
   omega
 ·have hvr := (hL.inr _ hlk).2
  have heq : gv x' u = gv x u := by
   rcases ha.chg u h0 h1 with g | ⟨g, _⟩
   ·exact g
   ·exact (hu g).elim
  by_cases hun : u = n
  ·subst hun
   have h1 := ha.link v m hlk
   omega
  ·have hur : u ∉ q := by
    rw [hq]
    intro hc
    rcases List.mem_cons.1 hc with e | hc
    ·exact hun e
    ·exact hu (by rw [hl]; exact List.mem_append_left _ hc)
   have h2 := h.rel u h0 h1 hur (by rw [← heq]; exact hf) v m hlk
   have := ha.le v hvr.1 hvr.2
   omega
 ·rcases ha.chg v h0 h1 with g | ⟨_, _, m, g3, g4, _⟩
  ·rw [g]; exact h.bd v h0 h1
  ·have h2 := h.bA n (by simp)
   have h3 := (hL.most _ g3).2
   simp only at h3
   refine .inr ?_
   rw [g4, Int.add_mul, Int.one_mul]
   omega
 ·have h1 := h.rng v (by rw [hq]; simp [hv])
  have h2 := h.bA v (by simp [hv])
  have := ha.le v h1.1 h1.2
  omega
 ·rw [hl] at hv
  rcases List.mem_append.1 hv with hv | hv
  ·have h1 := h.rng v (by rw [hq]; simp only [List.mem_cons]; exact .inr hv)
   have h2 := h.fin v (by rw [hq]; simp only [List.mem_cons]; exact .inr hv)
   have := ha.le v h1.1 h1.2
   omega
  ·obtain ⟨g1, g2⟩ := hlv v hv
   have := xle v g1.1 g1.2
   omega
 ·rw [h.last hk]
  cases l with
  | nil => rfl
  | cons v l =>
    exfalso
    obtain ⟨g1, g2⟩ := hlv v (by simp)
    have := xle v g1.1 g1.2
    obtain ⟨vs, hw⟩ := att' v g1.1 g1.2 (by omega)
    obtain ⟨vs', d', k1, k2, k3⟩ := hw.simple hp
    have k4 := k1.short hL.inr hS k3
    have := h.low vs' v d' k1 (by omega)
    omega
theorem aOf.done (hL : afN L N M) (hNM : N * M < afx) (hp : Pot L p) (hS : ∀ v, S v → 0 ≤ v ∧ v < N) (h : aOf L S N M k A B x w t []) : aOg L S N (gv x) := by
 have hkN := h.kN
 have hM := hL.m0
 have hkM : ((k : Int) + 1) * M < afx := by
  have := ayz hkN hM
  push_cast at this
  omega
 have key : ∀ vs v d, Wl L S vs v d → vs.length + 1 ≤ N → gv x v ≤ d := by
  intro vs v d hw
  induction hw with
  | nil hs => intro _; exact h.low [] _ 0 (.nil hs) (by simp)
  | @step vs u v m d hw hlk ih =>
    intro hlen
    simp only [List.length_cons] at hlen
    have h1 := ih (by omega)
    have h2 := hw.lt_free hL hNM (by omega)
    have h3 := (hw.range hL.inr hS).1
    have := h.rel u h3.1 h3.2 (by simp) (by omega) v m hlk
    omega
 refine ⟨h.att, fun v vs d hw => ?_, fun v h0 h1 => ?_⟩
 ·obtain ⟨vs', d', k1, k2, k3⟩ := hw.simple hp
  have := key vs' v d' k1 (k1.short hL.inr hS k3)
  omega
 ·rcases h.bd v h0 h1 with h2 | h2 <;> omega
theorem aHo {ρ : Type} {r : Option ρ} (hL : afN L N M) (hNM : N * M < afx) (hp : Pot L p) (hS : ∀ v, S v → 0 ≤ v ∧ v < N) (k0 : (Val (.pair .bool (.pair (.slice tI) (.pair (.slice .bool) (.pair (.slice tI) (.slice tI)))))) → Option ρ)
 (hK : ∀ x w t q, x.length = N → aOg L S N (gv x) → k0 (true, x, w, t, q) = r) (h : aOf L S N M k A B x w t q) :
 acp (fun (v64 : (Val (.pair (.slice tI) (.pair (.slice .bool) (.pair (.slice tI) (.slice tI)))))) kk69 => ady [] (ayy L) (N : Int) L v64.1 v64.2.1 v64.2.2.1 v64.2.2.2 (fun u65 u66 u67 u68 => kk69 (u65, u66, u67, u68)) k0) (x, w, t, q) = r := by
 refine afi (fun s : List Int × List Bool × List Int × List Int => ∃ k A B, aOf L S N M k A B s.1 s.2.1 s.2.2.1 s.2.2.2) (fun s => aGx N s.2.2.1) ?_ ⟨k, A, B, h⟩
 rintro ⟨x, w, t, q⟩ ⟨k, A, B, h⟩
 dsimp only at h ⊢
 have hN := hL.nodes
 cases q with
 | nil => exact .inl fun kn => by rw [aON]; exact hK x w t [] h.lx (h.done hL hNM hp hS)
 | cons n rest =>
   -- the phase in which the first one is
   have hph : ∃ k A' B, aOf L S N M k (n :: A') B x w t (n :: rest) := by
    cases A with
    | nil =>
      have hB : B = n :: rest := by simpa using h.q_eq.symm
      subst hB
      exact ⟨k + 1, rest, [], h.next hL hNM hS (by simp)⟩
    | cons a A' =>
      have := h.q_eq
      simp only [List.cons_append, List.cons.injEq] at this
      obtain ⟨rfl, _⟩ := this
      exact ⟨k, A', B, h⟩
   clear h k A B
   obtain ⟨k, A', B, h⟩ := hph
   have hrest : rest = A' ++ B := by have := h.q_eq; simpa using this
   have hnr := h.rng n (by simp)
   have hnf := h.fin n (by simp)
   have hkN := h.kN
   have h1 := h.tA n (by simp)
   have h2 := h.t0 n hnr.1 hnr.2
   obtain ⟨vs, hw⟩ := h.att n hnr.1 hnr.2 (by omega)
   have hlow := hw.low' hp
   have hneg : -(400 * 4503599627370496) ≤ ayy L := by
    have : ∀ L' : List Lk, (∀ l ∈ L', -M ≤ l.2.2) → -((L'.length : Int) * M) ≤ ayy L' := by
     intro L'
     induction L' with
     | nil => intro _; simp [ayy, axR]
     | cons l t ih =>
       intro hh
       have i1 := ih fun l hl => hh l (by simp [hl])
       have i2 := hh l (by simp)
       have i3 := hL.m0
       unfold ayy at i1 ⊢
       simp only [axR, if_true, List.length_cons, Int.natCast_succ, Int.add_mul, Int.one_mul]
       omega
    have h3 := this L fun l hl => (hL.most l hl).1
    have h4 : (L.length : Int) * M ≤ 400 * 4503599627370496 := Int.mul_le_mul (by have := hL.len; omega) hL.m1 hL.m0 (by omega)
    omega
   have hrl : rest.length ≤ 1000000 := by
    have := aL6 N (n :: rest) h.nodup h.rng
    simp only [List.length_cons] at this
    omega
   refine .inr ?_
   have hw' : (w.set n.toNat false).length = N := by rw [List.length_set]; exact h.lw
   cases hr : aj8 n (ayy L) L x (w.set n.toNat false) rest with
   | mk b r' =>
   obtain ⟨x', w', q'⟩ := r'
   cases b with
   | false =>
     exfalso
     obtain ⟨v, m, g1, g2⟩ := aiI hL.noloop (fun l hl => (hL.inr l hl).2.1) hnr.1 hr
     have := (hw.step g1).low' hp
     omega
   | true =>
     have hnd := h.nodup
     rw [List.nodup_cons] at hnd
     have ha := ag4 hnr hL.inr hL.noloop h.lx hw' hnd.2 (fun v h0 h1 => by
      rw [aLJ hnr.1 h0 (by have := h.lw; omega)]
      by_cases hv : v = n
      ·subst hv; simp [hnd.1]
      ·rw [if_neg hv, h.waits v h0 h1]
       simp [hv]) hr
     rw [hrest] at ha
     obtain ⟨B', hB'⟩ := h.step hL hNM hp hS ha
     refine ⟨(x', w', t.set n.toNat (gv t n + 1), q'), ⟨k, A', B', hB'⟩, aI8 (by have := h.lt; omega) (by omega), fun kn => ?_⟩
     have hF : afx = 1152921504606846976 := rfl
     rw [aMg hL hnr h.lx h.lw h.lt hrl (by constructor <;> omega) (by constructor <;> omega), if_neg (by omega), hr]
end
end Go.Proofs.ZzM
end
noncomputable section
namespace Go.Proofs.ZzM
open Go Go.Am
theorem azp (f : Lk → Bool) : ∀ (L L' : List Lk), axR f (L ++ L') = axR f L + axR f L'
 | [], L' => by simp [axR]
 | l :: t, L' => by
   simp only [List.cons_append, axR, azp f t L']
   omega
theorem aH1 {L : List Lk} {i : Nat} {l : Lk} (h : L[i]? = some l) : ayy (L.take (i + 1)) = ayy (L.take i) + min l.2.2 0 := by
 rw [take_succ h, ayy, ayy, azp]
 simp [axR]
theorem imin0 (e : Int) : aJf e 0 = min e 0 := by
 unfold aJf
 split <;> omega
theorem aE1 {L : List Lk} {M : Int} (h : ∀ l ∈ L, -M ≤ l.2.2) (hM : 0 ≤ M) : -((L.length : Int) * M) ≤ ayy L := by
 induction L with
 | nil => simp [ayy, axR]
 | cons l t ih =>
   have i1 := ih fun l hl => h l (by simp [hl])
   have i2 := h l (by simp)
   unfold ayy at i1 ⊢
   simp only [axR, if_true, List.length_cons, Int.natCast_succ, Int.add_mul, Int.one_mul]
   omega
theorem aS2 (L : List Lk) : ayy L ≤ 0 := amz _ L
section
variable {ρ : Type} {L : List Lk} {N : Nat} {M : Int}
theorem aMr (hL : afN L N M) (k0 : Int → Option ρ) : acp (fun (v75 : Val aca) kk78 => afq L (acv L) v75.1 v75.2 (fun u76 u77 => kk78 (u76, u77)) k0) ((0 : Int), (0 : Int)) = k0 (ayy L) := by
 refine afi (fun x : Int × Int => ∃ i : Nat, i ≤ L.length ∧ x = (ayy (L.take i), (i : Int))) (fun x => L.length - x.2.toNat) ?_ ⟨0, by omega, rfl⟩
 rintro x ⟨i, hi, rfl⟩
 have hlen := hL.len
 rcases Nat.lt_or_ge i L.length with h | h
 ·have hl : L[i]? = some L[i] := List.getElem?_eq_getElem h
  refine .inr ⟨(ayy (L.take (i + 1)), (i : Int) + 1), ⟨i + 1, h, by simp⟩, by simp; omega, fun kn => ?_⟩
  try dsimp only
  unfold afq
  have hb : ∀ j, j ≤ L.length → -(400 * 4503599627370496) ≤ ayy (L.take j) := by
   intro j hj
   have h1 := aE1 (L := L.take j) (fun l hl => (hL.most l (List.mem_of_mem_take hl)).1) hL.m0
   have h2 : ((L.take j).length : Int) * M ≤ 400 * 4503599627370496 := Int.mul_le_mul (by rw [List.length_take]; omega) hL.m1 hL.m0 (by omega)
   omega
  have h1 := hb i hi
  have h2 := hb (i + 1) h
  have h3 := aS2 (L.take i)
  rw [aH1 hl] at h2
  rw [acs h, acn hl, imin0, acx (by omega) (by omega), aco h (by omega), aH1 hl]
 ·refine .inl fun kn => ?_
  have : i = L.length := by omega
  subst this
  try dsimp only
  unfold afq
  rw [acL, List.take_length]
theorem aOv {x : List Int} (hx : x.length = N) (hN : N ≤ 1000) {r : Option ρ} (k0 : (Val (.pair (.slice .bool) (.slice tI))) → Option ρ)
 (hK : ∀ (w : List Bool) (q : List Int), w.length = N → q.Nodup → (∀ v ∈ q, 0 ≤ v ∧ v < N) → (∀ v : Int, 0 ≤ v → v < N → (wv w v = true ↔ v ∈ q)) → (∀ v : Int, 0 ≤ v → v < N → (v ∈ q ↔ gv x v ≠ afx)) → k0 (w, q) = r) :
 acp (fun (v70 : (Val (.pair tI (.pair (.slice .bool) (.slice tI))))) kk74 => ad7 (N : Int) x v70.1 v70.2.1 v70.2.2 (fun u71 u72 u73 => kk74 (u71, u72, u73)) k0) ((0 : Int), (List.replicate N false), ([] : List Int)) = r := by
 refine afi (fun s : Int × List Bool × List Int => ∃ i : Nat, i ≤ N ∧ s.1 = i ∧ s.2.1.length = N ∧ s.2.2.Nodup ∧ s.2.2.length ≤ i ∧ (∀ v ∈ s.2.2, 0 ≤ v ∧ v < i) ∧ (∀ v : Int, 0 ≤ v → v < N → (wv s.2.1 v = true ↔ v ∈ s.2.2)) ∧ (∀ v : Int, 0 ≤ v → v < i → (v ∈ s.2.2 ↔ gv x v ≠ afx))) (fun s => N - s.1.toNat) ?_
  ⟨0, by omega, rfl, by simp, by simp, by simp, by simp, fun v h0 h1 => ?_, fun v h0 h1 => by omega⟩
 ·rintro ⟨s, w, q⟩ ⟨i, hi, h1, h2, h3, h4, h5, h6, h7⟩
  simp only at h1 h2 h3 h4 h5 h6 h7
  subst h1
  rcases Nat.lt_or_ge i N with h | h
  ·refine .inr ?_
   have hix : i < x.length := by omega
   have hiw : i < w.length := by omega
   have hnq : ((i : Int)) ∉ q := fun hc => by have := (h5 _ hc).2; omega
   by_cases hf : gv x i = afx
   ·refine ⟨((i : Int) + 1, w, q), ⟨i + 1, h, by simp, h2, h3, by simp only; omega, fun v hv => ⟨(h5 v hv).1, by have := (h5 v hv).2; push_cast; omega⟩, h6, fun v h0 h1 => ?_⟩, by simp; omega, fun kn => ?_⟩
    ·by_cases hv : v = i
     ·subst hv; simp [hf, hnq]
     ·exact h7 v h0 (by push_cast at h1; omega)
    ·try dsimp only
     unfold ad7
     have e : ilt (i : Int) (N : Int) = true := by simp [ilt, h]
     rw [acD e, afX hix, agO (by simpa using hix)]
     have e2 : ine (gv x i) 1152921504606846976 = false := by simp [ine, hf]
     rw [acr e2, aco h (by omega)]
   ·refine ⟨((i : Int) + 1, w.set i true, q ++ [(i : Int)]), ⟨i + 1, h, by simp, by simpa using h2, ?_, by simp; omega, fun v hv => ?_, fun v h0 h1 => ?_, fun v h0 h1 => ?_⟩, by simp; omega, fun kn => ?_⟩
    ·rw [List.nodup_append]
     exact ⟨h3, by simp, fun a ha b hb => by simp at hb; subst hb; exact fun e => hnq (e ▸ ha)⟩
    ·rcases List.mem_append.1 hv with hv | hv
     ·exact ⟨(h5 v hv).1, by have := (h5 v hv).2; push_cast; omega⟩
     ·simp at hv; subst hv; push_cast; omega
    ·have := aLJ (w := w) (u := (i : Int)) (by omega) h0 (by simpa using hiw) true
     rw [Int.toNat_natCast] at this
     show wv (w.set i true) v = true ↔ v ∈ q ++ [(i : Int)]
     rw [this]
     by_cases hv : v = i
     ·simp [hv]
     ·simp only [hv, if_false, List.mem_append, List.mem_singleton, or_false]
      exact h6 v h0 h1
    ·show v ∈ q ++ [(i : Int)] ↔ _
     by_cases hv : v = i
     ·subst hv; simp [hf]
     ·simp only [List.mem_append, List.mem_singleton, hv, or_false]
      exact h7 v h0 (by push_cast at h1; omega)
    ·try dsimp only
     unfold ad7
     have e : ilt (i : Int) (N : Int) = true := by simp [ilt, h]
     rw [acD e, afX hix, agO (by simpa using hix)]
     have e2 : ine (gv x i) 1152921504606846976 = true := by simp [ine, hf]
     rw [acD e2, acu (by simp only [List.length_singleton]; omega), Am.iff_true, afX hiw, aE0 (by simpa using hiw), aco h (by omega), Int.toNat_natCast]
  ·refine .inl fun kn => ?_
   have : i = N := by omega
   subst this
   try dsimp only
   unfold ad7
   have e : ilt (i : Int) (i : Int) = false := by simp [ilt]
   rw [acr e]
   exact hK w q h2 h3 h5 h6 h7
 ·have : wv (List.replicate N false) v = false := by
   unfold wv
   rw [List.getElem?_replicate]
   split <;> rfl
  simp [this]
theorem aDn (hL : afN L N M) (hN : 1 ≤ N) {S : Int → Bool} (hS : ∀ v, S v = true → 0 ≤ v ∧ v < N) {w : List Bool} {q : List Int} (hw : w.length = N) (hq : q.Nodup) (hr : ∀ v ∈ q, 0 ≤ v ∧ v < N) (hwq : ∀ v : Int, 0 ≤ v → v < N → (wv w v = true ↔ v ∈ q)) (hqs : ∀ v : Int, 0 ≤ v → v < N → (v ∈ q ↔ gv (amv S N) v ≠ afx)) :
 aOf L (fun v => S v = true) N M 0 q [] (amv S N) w (List.replicate N 0) q := by
 have ht : ∀ v : Int, 0 ≤ v → v < N → gv (List.replicate N (0 : Int)) v = 0 := by
  intro v h0 h1
  unfold gv
  rw [List.getElem?_replicate]
  split <;> rfl
 have hg : ∀ v : Int, 0 ≤ v → v < N → (v ∈ q ↔ S v = true) := by
  intro v h0 h1
  rw [hqs v h0 h1, afZ S h0 h1]
  cases S v <;> simp [afx]
 have hM := hL.m0
 refine ⟨by simp, ac4 S N, hw, by simp, hq, hr, hwq, fun v h0 h1 => ?_, fun v hv => ?_, fun vs v d hw hl => ?_, fun vs u d hw hl hu v m hlk => ?_, fun u h0 h1 hu hf v m hlk => ?_, fun v h0 h1 hf => ?_, fun v h0 h1 => ?_, fun v hv => ?_, fun v hv => ?_, by omega, fun _ => rfl⟩
 ·rw [ht v h0 h1]; omega
 ·have := hr v hv
  rw [ht v this.1 this.2]; omega
 ·cases hw with
  | nil hs =>
    have := hS v hs
    rw [afZ S this.1 this.2, if_pos hs]; omega
  | step => simp at hl
 ·cases hw with
  | nil hs =>
    have := hS u hs
    exact (hu ((hg u this.1 this.2).2 hs)).elim
  | step => simp at hl
 ·rw [afZ S h0 h1] at hf
  have := mt (hg u h0 h1).2 hu
  rw [if_neg this] at hf
  exact (hf rfl).elim
 ·rw [afZ S h0 h1] at hf ⊢
  split at hf
  ·rename_i hs
   rw [if_pos hs]; exact ⟨[], .nil hs⟩
  ·exact (hf rfl).elim
 ·rw [afZ S h0 h1]
  split
  ·exact .inr (by simp [hM])
  ·exact .inl rfl
 ·have h1 := hr v hv
  rw [afZ S h1.1 h1.2, if_pos ((hg v h1.1 h1.2).1 hv)]; simp
 ·have h1 := hr v hv
  rw [afZ S h1.1 h1.2, if_pos ((hg v h1.1 h1.2).1 hv)]; simp [afx]
structure Bad (L : List Lk) (N : Nat) (x : List Int) (w : List Bool) (t q : List Int) : Prop where
 lx : x.length = N
 lw : w.length = N
 lt : t.length = N
 nodup : q.Nodup
 rng : ∀ v ∈ q, 0 ≤ v ∧ v < N
 waits : ∀ v : Int, 0 ≤ v → v < N → (wv w v = true ↔ v ∈ q)
 t0 : ∀ v : Int, 0 ≤ v → v < N → 0 ≤ gv t v ∧ gv t v ≤ (N : Int) + 1
 bd : ∀ v : Int, 0 ≤ v → v < N → -2305843009213693952 ≤ gv x v ∧ gv x v ≤ 0
 rel : ∀ u : Int, 0 ≤ u → u < N → u ∉ q → ∀ v m, (u, v, m) ∈ L → gv x v ≤ gv x u + m
theorem aQ1 {r : Option ρ} {x : List Int} {w : List Bool} {t q : List Int} (hL : afN L N M) (hp : ¬ ∃ p, Pot L p) (k0 : (Val (.pair .bool (.pair (.slice tI) (.pair (.slice .bool) (.pair (.slice tI) (.slice tI)))))) → Option ρ)
 (hK : ∀ x w t q, k0 (false, x, w, t, q) = r) (h : Bad L N x w t q) :
 acp (fun (v64 : (Val (.pair (.slice tI) (.pair (.slice .bool) (.pair (.slice tI) (.slice tI)))))) kk69 => ady [] (ayy L) (N : Int) L v64.1 v64.2.1 v64.2.2.1 v64.2.2.2 (fun u65 u66 u67 u68 => kk69 (u65, u66, u67, u68)) k0) (x, w, t, q) = r := by
 refine afi (fun s : List Int × List Bool × List Int × List Int => Bad L N s.1 s.2.1 s.2.2.1 s.2.2.2) (fun s => aGx N s.2.2.1) ?_ h
 rintro ⟨x, w, t, q⟩ h
 dsimp only at h ⊢
 have hN := hL.nodes
 cases q with
 | nil =>
   exfalso
   exact hp ⟨gv x, fun u v m hl => h.rel u (hL.inr _ hl).1.1 (hL.inr _ hl).1.2 (by simp) v m hl⟩
 | cons n rest =>
   have hnr := h.rng n (by simp)
   have hb := h.bd n hnr.1 hnr.2
   have ht := h.t0 n hnr.1 hnr.2
   have hrl : rest.length ≤ 1000000 := by
    have := aL6 N (n :: rest) h.nodup h.rng
    simp only [List.length_cons] at this
    omega
   have hout := fun (kn : List Int → List Bool → List Int → List Int → Option ρ) => aMg (ρ := ρ) hL (least := ayy L) hnr h.lx h.lw h.lt hrl ⟨hb.1, by omega⟩ ⟨ht.1, by omega⟩ kn k0
   by_cases hlt : (N : Int) + 1 < gv t n + 1
   ·exact .inl fun kn => by rw [hout, if_pos hlt]; exact hK _ _ _ _
   ·have hw' : (w.set n.toNat false).length = N := by rw [List.length_set]; exact h.lw
    cases hr : aj8 n (ayy L) L x (w.set n.toNat false) rest with
    | mk b r' =>
    obtain ⟨x', w', q'⟩ := r'
    cases b with
    | false => exact .inl fun kn => by rw [hout, if_neg hlt, hr]; exact hK _ _ _ _
    | true =>
      have hnd := h.nodup
      rw [List.nodup_cons] at hnd
      have htl : n.toNat < t.length := by have := h.lt; omega
      have ha := ag4 hnr hL.inr hL.noloop h.lx hw' hnd.2 (fun v h0 h1 => by
       rw [aLJ hnr.1 h0 (by have := h.lw; omega)]
       by_cases hv : v = n
       ·subst hv; simp [hnd.1]
       ·rw [if_neg hv, h.waits v h0 h1]
        simp [hv]) hr
      obtain ⟨l, hl, hlv⟩ := ha.new
      refine .inr ⟨(x', w', t.set n.toNat (gv t n + 1), q'), ⟨ha.lx, ha.lw, by rw [List.length_set]; exact h.lt, ha.nodup, fun v hv => ?_, ha.waits, fun v h0 h1 => ?_, fun v h0 h1 => ?_, fun u h0 h1 hu v m hlk => ?_⟩, aI8 htl (by omega), fun kn => by rw [hout, if_neg hlt, hr]⟩
      ·dsimp only at hv
       rw [hl] at hv
       rcases List.mem_append.1 hv with hv | hv
       ·exact h.rng v (by simp [hv])
       ·exact (hlv v hv).1
      ·try dsimp only
       rw [apj hnr.1 h0 htl]
       have := h.t0 v h0 h1
       split <;> omega
      ·try dsimp only
       have h2 := h.bd v h0 h1
       rcases ha.chg v h0 h1 with g | ⟨_, g2, m, g3, g4, g5⟩
       ·rw [g]; exact h2
       ·have h3 := aE1 (L := L) (fun l hl => (hL.most l hl).1) hL.m0
        have h4 : (L.length : Int) * M ≤ 400 * 4503599627370496 := Int.mul_le_mul (by have := hL.len; omega) hL.m1 hL.m0 (by omega)
        omega
      ·dsimp only at hu ⊢
       have hvr := (hL.inr _ hlk).2
       have heq : gv x' u = gv x u := by
        rcases ha.chg u h0 h1 with g | ⟨g, _⟩
        ·exact g
        ·exact (hu g).elim
       by_cases hun : u = n
       ·subst hun
        have h1 := ha.link v m hlk
        omega
       ·have hur : u ∉ n :: rest := by
         intro hc
         rcases List.mem_cons.1 hc with e | hc
         ·exact hun e
         ·exact hu (by rw [hl]; exact List.mem_append_left _ hc)
        have h2 := h.rel u h0 h1 hur v m hlk
        have := ha.le v hvr.1 hvr.2
        omega
end
def aOe (N : Nat) (v : Int) : Bool := decide (0 ≤ v) && decide (v < (N : Int))
def aOW (s : Int) (v : Int) : Bool := v == s
theorem aHn (N : Nat) : amv (aOe N) N = List.replicate N 0 := by
 refine aMw (by simp [ac4]) fun v h0 h1 => ?_
 rw [ac4] at h1
 rw [afZ _ h0 h1]
 have : aOe N v = true := by simp [aOe, h0, h1]
 rw [if_pos this]
 unfold gv
 rw [List.getElem?_replicate]
 split <;> rfl
def af0 (L : List Lk) (N : Nat) : List Int := ahg L N (amv (aOe N) N)
def ad5 (L : List Lk) (N : Nat) : Bool := decide (axP L (af0 L N) = af0 L N)
def alA (L : List Lk) (N : Nat) (s : Int) : List Int := ahg L N (amv (aOW s) N)
section
variable {L : List Lk} {N : Nat} {M : Int}
theorem aRm (hL : afN L N M) (hN : N ≤ 200) : N * M < afx := by
 have : (N : Int) * M ≤ 200 * 4503599627370496 := Int.mul_le_mul (by omega) hL.m1 hL.m0 (by omega)
 unfold afx
 omega
theorem avb {p : Int → Int} (hL : afN L N M) (hN : N ≤ 200) (hp : Pot L p) : aOg L (fun v => aOe N v = true) N (gv (af0 L N)) :=
 azc hp hL.inr (fun v h => by simpa [aOe] using h) (fun l hl => (hL.most l hl).2) hL.m0 (aRm hL hN) N (by omega)
theorem aii {p : Int → Int} (hL : afN L N M) (hN : N ≤ 200) (hp : Pot L p) {s : Int} (hs : 0 ≤ s ∧ s < N) : aOg L (fun v => aOW s v = true) N (gv (alA L N s)) :=
 azc hp hL.inr (fun v h => by simp [aOW] at h; subst h; exact hs) (fun l hl => (hL.most l hl).2) hL.m0 (aRm hL hN) N (by omega)
theorem aHI : ∀ {L : List Lk} {x : List Int}, (∀ u v m, (u, v, m) ∈ L → gv x u < afx → gv x v ≤ gv x u + m) → axP L x = x
 | [], x, _ => rfl
 | l :: t, x, h => by
   have h1 : ahL x l = x := by
    unfold ahL
    split
    ·rename_i hc
     have := h l.1 l.2.1 l.2.2 (by simp) hc.1
     omega
    ·rfl
   show axP t (ahL x l) = x
   rw [h1]
   exact aHI fun u v m hm => h u v m (by simp [hm])
theorem afQ (hL : afN L N M) (hN : N ≤ 200) : ad5 L N = true ↔ ∃ p, Pot L p := by
 unfold ad5
 rw [decide_eq_true_eq]
 have hle : ∀ v : Int, 0 ≤ v → v < N → gv (af0 L N) v ≤ 0 := by
  intro v h0 h1
  have := asE hL.inr N (ac4 (aOe N) N) v h0
  rw [afZ _ h0 h1, if_pos (by simp [aOe, h0, h1])] at this
  exact this
 constructor
 ·intro h
  refine ⟨gv (af0 L N), fun u v m hl => ?_⟩
  have hr := (hL.inr _ hl).1
  have := avj hL.inr (x := af0 L N) (by unfold af0; rw [aem, ac4]) u v m hl (by have := hle u hr.1 hr.2; unfold afx; omega)
  rwa [h] at this
 ·rintro ⟨p, hp⟩
  have hd := avb hL hN hp
  exact aHI fun u v m hl hf => hd.pot hL.inr hl (by omega)
end
end Go.Proofs.ZzM
end
noncomputable section
namespace Go.Proofs.ZzM
open Go Go.Am
section
variable {ρ : Type} {L : List Lk} {N : Nat} {M : Int}
theorem auG (hN : N ≤ 1000) (x : Option ρ) : acT ((ile (0 : Int) (N : Int)) && (acS (Int.toNat (N : Int)))) x = x := by
 rw [Int.toNat_natCast, acu (by omega)]
 have : ((ile (0 : Int) (N : Int)) && true) = true := by simp [ile]
 rw [this, Am.iff_true]
theorem aKm (hL : afN L N M) (h1 : 1 ≤ N) (hN : N ≤ 200) (k0 : (Val (.pair .bool (.pair (.slice tI) (.pair (.slice .bool) (.pair (.slice tI) (.slice tI)))))) → Option ρ) {rT rF : Option ρ}
 (hT : ad5 L N = true → ∀ w t q, k0 (true, af0 L N, w, t, q) = rT) (hF : ∀ x w t q, k0 (false, x, w, t, q) = rF) :
 (acp (fun (v70 : (Val (.pair tI (.pair (.slice .bool) (.slice tI))))) kk74 => ad7 (N : Int) (List.replicate N (0 : Int)) v70.1 v70.2.1 v70.2.2 (fun u71 u72 u73 => kk74 (u71, u72, u73)) (fun z9 => acp (fun (v64 : (Val (.pair (.slice tI) (.pair (.slice .bool) (.pair (.slice tI) (.slice tI)))))) kk69 => ady [] (ayy L) (N : Int) L v64.1 v64.2.1 v64.2.2.1 v64.2.2.2 (fun u65 u66 u67 u68 => kk69 (u65, u66, u67, u68)) k0) ((List.replicate N (0 : Int)), z9.1, (List.replicate N (0 : Int)), z9.2))) ((0 : Int), (List.replicate N false), ([] : List Int))) = if ad5 L N then rT else rF := by
 refine aOv (by simp) (by omega) _ fun w q hw hq hr hwq hqs => ?_
 try dsimp only
 have hS : ∀ v, aOe N v = true → 0 ≤ v ∧ v < N := fun v h => by simpa [aOe] using h
 by_cases ho : ad5 L N = true
 ·rw [if_pos ho]
  obtain ⟨p, hp⟩ := (afQ hL hN).1 ho
  have hs := aDn hL h1 hS hw hq hr hwq (fun v a b => by rw [aHn]; exact hqs v a b)
  rw [aHn] at hs
  refine aHo hL (aRm hL hN) hp hS k0 (fun x w t q hx hd => ?_) hs
  have : x = af0 L N := by
   refine aMw (by rw [hx]; unfold af0; rw [aem, ac4]) fun v a b => ?_
   exact hd.uniq (avb hL hN hp) a (by omega)
  rw [this]; exact hT ho w t q
 ·rw [if_neg ho]
  refine aQ1 hL (fun hp => ho ((afQ hL hN).2 hp)) k0 hF ?_
  have hg : ∀ v, gv (List.replicate N (0 : Int)) v = 0 := by
   intro v
   unfold gv
   rw [List.getElem?_replicate]
   split <;> rfl
  refine ⟨by simp, hw, by simp, hq, hr, hwq, fun v a b => ?_, fun v a b => ?_, fun u a b hu v m hl => ?_⟩
  ·rw [hg]; omega
  ·rw [hg]; omega
  ·exact (hu ((hqs u a b).2 (by rw [hg]; unfold afx; omega))).elim
end
theorem shift_ok {ρ : Type} {x : List Int} (f : Int) (hx : x.length ≤ 1000) (hf : -2305843009213693952 ≤ f ∧ f ≤ 2305843009213693952) (hb : ∀ a ∈ x, -2305843009213693952 ≤ a ∧ a ≤ 2305843009213693952) (k0 : List Int → Option ρ) :
 acp (fun (v60 : (Val (.pair tI (.slice tI)))) kk63 => agb f (acv x) v60.1 v60.2 (fun u61 u62 => kk63 (u61, u62)) k0) ((0 : Int), x) = k0 (x.map fun a => a - f) := by
 refine adh x (fun i => (x.take i).map (fun a => a - f) ++ x.drop i) _ (by simp) (fun i a hi ha kn => ?_) (fun kn => ?_)
 ·try dsimp only
  unfold agb
  have hlen : ((x.take i).map (fun a => a - f) ++ x.drop i).length = x.length := by simp; omega
  have hget : ((x.take i).map (fun a => a - f) ++ x.drop i)[i]? = some a := by
   rw [List.getElem?_append_right (by simp; omega)]
   simp only [List.length_map, List.length_take, List.getElem?_drop]
   rw [← ha]; congr 1; omega
  have hi' : i < ((x.take i).map (fun a => a - f) ++ x.drop i).length := by omega
  have ha' := hb a (List.mem_of_getElem? ha)
  rw [acs hi, afX hi', aes hget, acx (by omega) (by omega), afX hi', aes hget, aco hi (by omega), Int.toNat_natCast, take_succ ha]
  congr 2
  rw [List.drop_eq_getElem_cons hi, List.map_append, List.append_assoc, List.set_append_right _ _ (by simp; omega)]
  have : i - (List.map (fun a => a - f) (List.take i x)).length = 0 := by simp; omega
  rw [this]
  have h1 : x[i] = a := by rw [List.getElem?_eq_getElem hi] at ha; simpa using ha
  simp [h1]
 ·try dsimp only
  unfold agb
  rw [acL]
  simp
section
variable {L : List Lk} {N : Nat} {M : Int}
theorem aQ3 (hL : afN L N M) (hN : N ≤ 200) (ho : ad5 L N = true) : ∀ a ∈ af0 L N, -2305843009213693952 ≤ a ∧ a ≤ 0 := by
 obtain ⟨p, hp⟩ := (afQ hL hN).1 ho
 have hd := avb hL hN hp
 intro a ha
 obtain ⟨i, hi, rfl⟩ := List.mem_iff_getElem.1 ha
 have hlen : (af0 L N).length = N := by unfold af0; rw [aem, ac4]
 have h0 : gv (af0 L N) i = (af0 L N)[i] := by unfold gv; simp [hi]
 have hle := asE hL.inr N (ac4 (aOe N) N) (i : Int) (by omega)
 rw [afZ _ (by omega) (by omega), if_pos (by simp [aOe]; omega)] at hle
 have hle' : gv (af0 L N) i ≤ 0 := hle
 obtain ⟨vs, hw⟩ := hd.att i (by omega) (by omega) (by unfold afx; omega)
 have h1 := hw.low' hp
 have h3 := aE1 (L := L) (fun l hl => (hL.most l hl).1) hL.m0
 have h4 : (L.length : Int) * M ≤ 400 * 4503599627370496 := Int.mul_le_mul (by have := hL.len; omega) hL.m1 hL.m0 (by omega)
 omega
def solP (L : List Lk) (N : Nat) : List Int := (af0 L N).map fun a => a - gv (af0 L N) 0
theorem arp (hL : afN L N M) (h1 : 1 ≤ N) (hN : N ≤ 200) : ag7 ((N : Int), L) [] = some (if ad5 L N then (solP L N, true) else ([], false)) := by
 unfold ag7 aoR
 try dsimp only
 rw [auG (by omega), auG (by omega), auG (by omega), Int.toNat_natCast]
 refine Eq.trans (aMr hL _) ?_
 refine Eq.trans (aKm hL h1 hN _ (rT := some (solP L N, true)) (rF := some ([], false)) (fun ho w t q => ?_) (fun x w t q => ?_)) ?_
 ·try dsimp only
  have hlen : (af0 L N).length = N := by unfold af0; rw [aem, ac4]
  have hb := aQ3 hL hN ho
  have h0 : ilt (0 : Int) (adE (af0 L N)) = true := decide_eq_true (show (0 : Int) < ((af0 L N).length : Int) by omega)
  have hg : (af0 L N)[0]? = some (gv (af0 L N) 0) := aMv (v := 0) (show 0 < _ by omega)
  have hm := hb _ (List.mem_of_getElem? hg)
  rw [show (!true) = false from rfl, acU, adF h0, aky hg]
  exact shift_ok _ (by omega) ⟨hm.1, by omega⟩ (fun a ha => ⟨(hb a ha).1, by have := (hb a ha).2; omega⟩) _
 ·rfl
 ·cases ad5 L N <;> rfl
structure afY (L : List Lk) (N : Nat) : Prop where
 n1 : 1 ≤ N
 n60 : N ≤ 60
 len : L.length ≤ 300
 inr : InR L N
 noloop : ∀ l ∈ L, l.1 ≠ l.2.1
 most : ∀ l ∈ L, -4503599627370496 ≤ l.2.2 ∧ l.2.2 ≤ 4503599627370496
theorem afY.links (h : afY L N) : afN L N 4503599627370496 :=
 ⟨h.inr, h.noloop, h.most, by have := h.len; omega, by have := h.n60; omega, by omega, by omega⟩
theorem afY.sub {L' : List Lk} (h : afY L N) (hs : ∀ l ∈ L', l ∈ L) (hl : L'.length ≤ L.length) : afY L' N :=
 ⟨h.n1, h.n60, by have := h.len; omega, fun l hm => h.inr l (hs l hm), fun l hm => h.noloop l (hs l hm), fun l hm => h.most l (hs l hm)⟩
theorem azo (n : Int) (L : List Lk) (v : Int) : ak3 (n, L) v = some (decide (0 ≤ v) && decide (v < n)) := by
 unfold ak3 aFH ige
 by_cases h : 0 ≤ v
 ·have : decide (v ≥ 0) = true := by simpa using h
  rw [acD this]; simp [h]
 ·have : decide (v ≥ 0) = false := by simpa using h
  rw [acr this]; simp [h]
theorem ahF (h : afY L N) : aiN ((N : Int), L) = some (0, -1) := by
 have h1 := h.n1
 have h2 := h.n60
 have h3 := h.len
 unfold aiN aAa
 try dsimp only
 rw [acr (by simp [ilt]; omega), acr (by simp [igt]; omega), acr (by rw [acO]; simp [igt]; omega)]
 refine Eq.trans (afS L (fun _ => false) (fun i => some (1, i)) (some (0, -1)) (fun i l hi hl kn => ?_) (fun kn => ?_)) ?_
 ·try dsimp only
  unfold akO
  have hm := List.mem_of_getElem? hl
  have a := h.inr l hm
  have b := h.noloop l hm
  have c := h.most l hm
  have e1 : (decide (0 ≤ l.1) && decide (l.1 < (N : Int))) = true := by simp [a.1.1, a.1.2]
  have e2 : (decide (0 ≤ l.2.1) && decide (l.2.1 < (N : Int))) = true := by simp [a.2.1, a.2.2]
  rw [acs hi, acn hl, azo, ab8, e1, azo, ab8, e2]
  simp only [Bool.not_true, acU, Bool.false_eq_true, if_false]
  rw [acr (by simp [ieq, b]), acr (by simp [ilt]; omega), acr (by simp [igt]; omega), aco hi (by omega)]
 ·try dsimp only
  unfold akO
  rw [acL]
 ·rw [List.findIdx?_eq_none_iff.2 (by simp)]
theorem aph {ρ : Type} {x : List Int} {v : Int} (h0 : 0 ≤ v) (h : v.toNat < x.length) (f : Int → Option ρ) : adL x v f = f (gv x v) := by
 obtain ⟨i, rfl⟩ := Int.eq_ofNat_of_zero_le h0
 exact acn (aMv h) f
end
end Go.Proofs.ZzM
end
noncomputable section
namespace Go.Proofs.ZzM
open Go Go.Am
section
variable {b : acC}
theorem asq (b : acC) (g : acY) : (acB b g).Pairwise (· < ·) := aKe _
theorem aJx (h : adx b) {g : acY} (hg : g ∈ b.2.1) : ∃ t, acB b g = g.2.1 :: t := by
 have h1 := asq b g
 have h2 := air (b := b) g
 have h3 : ∀ d ∈ acB b g, g.2.1 ≤ d := fun d hd => (h.day hg hd).1
 cases hd : acB b g with
 | nil => rw [hd] at h2; cases h2
 | cons a t =>
   rw [hd] at h1 h2 h3
   rw [List.pairwise_cons] at h1
   rcases List.mem_cons.1 h2 with e | e
   ·exact ⟨t, by rw [e]⟩
   ·have := h1.1 _ e
    have := h3 a (by simp)
    omega
def off (b : acC) (i : Nat) : Nat := ((b.2.1.take i).flatMap fun g => (acB b g).map fun d => ((g.1, d) : Int × Int)).length
theorem arA {i : Nat} {g : acY} (hg : b.2.1[i]? = some g) : ack b = ((b.2.1.take i).flatMap fun g => (acB b g).map fun d => ((g.1, d) : Int × Int)) ++ (((acB b g).map fun d => ((g.1, d) : Int × Int)) ++ ((b.2.1.drop (i + 1)).flatMap fun g => (acB b g).map fun d => ((g.1, d) : Int × Int))) := by
 obtain ⟨hi, rfl⟩ := List.getElem?_eq_some_iff.1 hg
 have h1 : b.2.1 = b.2.1.take i ++ (b.2.1[i] :: b.2.1.drop (i + 1)) := by
  rw [← List.drop_eq_getElem_cons hi, List.take_append_drop]
 unfold ack
 conv => lhs; rw [h1]
 rw [List.flatMap_append, List.flatMap_cons]
theorem aEZ (h : adx b) {i : Nat} {g : acY} (hg : b.2.1[i]? = some g) {k : Nat} {d : Int} (hk : (acB b g)[k]? = some d) : agy (ack b) g.1 d = some (off b i + k) := by
 obtain ⟨hi, hgi⟩ := List.getElem?_eq_some_iff.1 hg
 obtain ⟨hkl, hkd⟩ := List.getElem?_eq_some_iff.1 hk
 unfold agy
 rw [arA hg, List.findIdx?_append, List.findIdx?_append]
 have h1 : List.findIdx? (fun n : Int × Int => decide (g.1 = n.1) && decide (d = n.2)) ((b.2.1.take i).flatMap fun g => (acB b g).map fun d => ((g.1, d) : Int × Int)) = none := by
  rw [List.findIdx?_eq_none_iff]
  intro x hx
  obtain ⟨g', hg', hx⟩ := List.mem_flatMap.1 hx
  obtain ⟨d', _, rfl⟩ := List.mem_map.1 hx
  obtain ⟨j, hj, rfl⟩ := List.mem_iff_getElem.1 hg'
  rw [List.length_take] at hj
  rw [List.getElem_take]
  have := (List.pairwise_iff_getElem.1 h.ids) j i (by omega) hi (by omega)
  rw [hgi] at this
  simp only [Bool.and_eq_false_iff, decide_eq_false_iff_not]
  exact .inl (by omega)
 have h2 : List.findIdx? (fun n : Int × Int => decide (g.1 = n.1) && decide (d = n.2)) ((acB b g).map fun d => ((g.1, d) : Int × Int)) = some k := by
  rw [List.findIdx?_eq_some_iff_getElem]
  refine ⟨by simpa using hkl, by simp [hkd], fun j hj => ?_⟩
  have := (List.pairwise_iff_getElem.1 (asq b g)) j k (by omega) hkl hj
  rw [hkd] at this
  simp only [List.getElem_map, Bool.and_eq_true, decide_eq_true_eq, not_and]
  intro _
  omega
 rw [h1, h2]
 simp only [Option.map_some, Option.some_or, Option.none_or]
 unfold off
 congr 1
 omega
theorem aRk {i : Nat} {g : acY} (hg : b.2.1[i]? = some g) {k : Nat} {d : Int} (hk : (acB b g)[k]? = some d) : (ack b)[off b i + k]? = some (g.1, d) := by
 obtain ⟨hkl, hkd⟩ := List.getElem?_eq_some_iff.1 hk
 rw [arA hg, List.getElem?_append_right (by unfold off; omega), List.getElem?_append_left (by unfold off; simp; omega)]
 unfold off
 simp [hk]
theorem aR9 (h : adx b) {i : Nat} {g : acY} (hg : b.2.1[i]? = some g) : atP (ack b) [g.1] g.2.1 = (off b i : Int) + 1 := by
 obtain ⟨t, ht⟩ := aJx h (List.mem_of_getElem? hg)
 have := aEZ h hg (k := 0) (d := g.2.1) (by rw [ht]; rfl)
 unfold atP
 simp only [this]
 rfl
theorem aSZ (h : adx b) {i : Nat} {g : acY} (hg : b.2.1[i]? = some g) : off b i + (acB b g).length ≤ (ack b).length := by
 rw [arA hg]
 unfold off
 simp only [List.length_append, List.length_map]
 omega
theorem aRi {i : Nat} {g : acY} (hg : b.2.1[i]? = some g) : off b (i + 1) = off b i + (acB b g).length := by
 unfold off
 rw [take_succ hg, List.flatMap_append]
 simp
theorem aH0 (h : adx b) {c : Cmp} (hc : c ∈ b.2.2.2.2.1) {x : Int} (hx : (x ∈ c.2.2.1 ∧ x ∉ c.2.2.2.1) ∨ (x ∈ c.2.2.2.1 ∧ x ∉ c.2.2.1)) : ∃ j, agy (ack b) x c.2.1 = some j := by
 have hm : x ∈ c.2.2.1 ++ c.2.2.2.1 := by rw [List.mem_append]; exact hx.imp (·.1) (·.1)
 obtain ⟨⟨g, hg, _⟩, _⟩ := h.pile hc hm
 obtain ⟨hgm, hgx⟩ := ak2 hg
 obtain ⟨i, hi, hgi⟩ := List.mem_iff_getElem.1 hgm
 have hd : c.2.1 ∈ acB b g := aiP.2 (.inr (.inl ⟨c, hc, by
  rw [hgx]
  rcases hx with ⟨h1, h2⟩ | ⟨h1, h2⟩
  ·have e1 : c.2.2.1.contains x = true := by simpa using h1
   have e2 : c.2.2.2.1.contains x = false := by simpa using h2
   rw [e1, e2]; simp
  ·have e1 : c.2.2.2.1.contains x = true := by simpa using h1
   have e2 : c.2.2.1.contains x = false := by simpa using h2
   rw [e1, e2]; simp, rfl⟩))
 obtain ⟨k, hk, hkd⟩ := List.mem_iff_getElem.1 hd
 have := aEZ h (g := g) (i := i) (by rw [List.getElem?_eq_getElem hi, hgi]) (k := k) (d := c.2.1) (by rw [List.getElem?_eq_getElem hk, hkd])
 rw [hgx] at this
 exact ⟨_, this⟩
inductive aN9 (b : acC) (p : List Int) (d : Int) (n : Int) : Prop
 | none : p = [] → n = 0 → aN9 b p d n
 | one (x : Int) (j : Nat) : p = [x] → agy (ack b) x d = some j → n = (j : Int) + 1 → aN9 b p d n
theorem aGK (h : adx b) {c : Cmp} (hc : c ∈ b.2.2.2.2.1) : aN9 b (adb c.2.2.1 c.2.2.2.1) c.2.1 (cx b c) := by
 have hl := (h.lefts hc).1
 cases hp : adb c.2.2.1 c.2.2.2.1 with
 | nil => exact .none rfl (by unfold cx atP; rw [hp])
 | cons x t =>
   rw [hp] at hl
   have : t = [] := by cases t with | nil => rfl | cons => simp at hl
   subst this
   obtain ⟨j, hj⟩ := aH0 h hc (x := x) (.inl (aiJ.1 (by rw [hp]; simp)))
   exact .one x j rfl hj (by unfold cx atP; rw [hp]; simp only [hj])
theorem aBn (h : adx b) {c : Cmp} (hc : c ∈ b.2.2.2.2.1) : aN9 b (adb c.2.2.2.1 c.2.2.1) c.2.1 (cy b c) := by
 have hl := (h.lefts hc).2.1
 cases hp : adb c.2.2.2.1 c.2.2.1 with
 | nil => exact .none rfl (by unfold cy atP; rw [hp])
 | cons x t =>
   rw [hp] at hl
   have : t = [] := by cases t with | nil => rfl | cons => simp at hl
   subst this
   obtain ⟨j, hj⟩ := aH0 h hc (x := x) (.inr (aiJ.1 (by rw [hp]; simp)))
   exact .one x j rfl hj (by unfold cy atP; rw [hp]; simp only [hj])
theorem aN9.rng {p : List Int} {d n : Int} (h : aN9 b p d n) : 0 ≤ n ∧ n < ((ack b).length + 1 : Nat) := by
 rcases h with ⟨_, h⟩ | ⟨x, j, _, h1, h2⟩
 ·omega
 ·have := (ag0 h1).1
  omega
theorem aRM (h : adx b) {c : Cmp} (hc : c ∈ b.2.2.2.2.1) : cx b c ≠ cy b c := by
 have hl := (h.lefts hc).2.2
 rcases aGK h hc with ⟨h1, h2⟩ | ⟨x, j, h1, h2, h3⟩
 ·rcases aBn h hc with ⟨g1, g2⟩ | ⟨y, k, g1, g2, g3⟩
  ·rw [h1, g1] at hl; simp at hl
  ·omega
 ·rcases aBn h hc with ⟨g1, g2⟩ | ⟨y, k, g1, g2, g3⟩
  ·omega
  ·intro e
   have : j = k := by omega
   subst this
   have e1 := (ag0 h2).2
   have e2 := (ag0 g2).2
   rw [e1] at e2
   simp only [Option.some.injEq, Prod.mk.injEq] at e2
   have m1 : x ∈ adb c.2.2.1 c.2.2.2.1 := by rw [h1]; simp
   have m2 : y ∈ adb c.2.2.2.1 c.2.2.1 := by rw [g1]; simp
   rw [e2.1] at m1
   exact (aiJ.1 m1).2 (aiJ.1 m2).1
theorem aI7 (h : adx b) : (acy b).length = 2 * (ack b).length + 2 * b.2.2.2.2.1.length := by
 have h1 : ∀ l : List acY, (∀ g ∈ l, g ∈ b.2.1) → (l.flatMap (adt b)).length = 2 * (l.flatMap fun g => (acB b g).map fun d => ((g.1, d) : Int × Int)).length := by
  intro l
  induction l with
  | nil => intro _; rfl
  | cons g t ih =>
    intro hm
    have := ih fun g hg => hm g (by simp [hg])
    have hp := List.length_pos_of_mem (air (b := b) g)
    simp only [List.flatMap_cons, List.length_append, List.length_map, this]
    unfold adt
    rw [List.length_append, agL _ _ (fun _ => rfl)]
    simp only [List.length_cons, List.length_nil]
    omega
 have h2 : ∀ l : List Cmp, (l.flatMap (ac7 b)).length = 2 * l.length := by
  intro l
  induction l with
  | nil => rfl
  | cons c t ih =>
    simp only [List.flatMap_cons, List.length_append, ih, ac7, List.length_cons, List.length_nil]
    omega
 unfold acy
 rw [List.length_append, h1 _ fun _ h => h, h2]
 rfl
theorem adG (h : adx b) {i : Nat} {g : acY} (hg : b.2.1[i]? = some g) {l : Lk} : l ∈ adt b g ↔
 l = (0, (off b i : Int) + 1, g.2.2.1 + g.2.2.2.1.2) ∨ l = ((off b i : Int) + 1, 0, -(g.2.2.1 + g.2.2.2.1.1)) ∨
 ∃ (k : Nat) (d e : Int), (acB b g)[k]? = some d ∧ (acB b g)[k + 1]? = some e ∧ (l = ((off b i : Int) + k + 1, (off b i : Int) + k + 2, 0) ∨ l = ((off b i : Int) + k + 2, (off b i : Int) + k + 1, agW b g d e)) := by
 unfold adt
 rw [aR9 h hg]
 simp only [List.mem_append, List.mem_cons, List.not_mem_nil, or_false, List.mem_flatMap, List.mem_range]
 constructor
 ·rintro ((h1 | h1) | ⟨k, hk, h1⟩)
  ·exact .inl h1
  ·exact .inr (.inl h1)
  ·refine .inr (.inr ⟨k, (acB b g)[k], (acB b g)[k + 1], List.getElem?_eq_getElem (by omega), List.getElem?_eq_getElem (by omega), ?_⟩)
   rw [List.getElem?_eq_getElem (show k < (acB b g).length by omega), List.getElem?_eq_getElem (show k + 1 < (acB b g).length by omega)] at h1
   simp only [Option.getD_some] at h1
   have e1 : (off b i : Int) + 1 + k = (off b i : Int) + k + 1 := by omega
   have e2 : (off b i : Int) + k + 1 + 1 = (off b i : Int) + k + 2 := by omega
   rw [e1, e2] at h1
   exact h1
 ·rintro (h1 | h1 | ⟨k, d, e, hd, he, h1⟩)
  ·exact .inl (.inl h1)
  ·exact .inl (.inr h1)
  ·obtain ⟨h2, rfl⟩ := List.getElem?_eq_some_iff.1 hd
   obtain ⟨h3, rfl⟩ := List.getElem?_eq_some_iff.1 he
   refine .inr ⟨k, by omega, ?_⟩
   rw [hd, he]
   simp only [Option.getD_some]
   have e1 : (off b i : Int) + 1 + k = (off b i : Int) + k + 1 := by omega
   have e2 : (off b i : Int) + k + 1 + 1 = (off b i : Int) + k + 2 := by omega
   rw [e1, e2]
   exact h1
theorem ajB {l : Lk} : l ∈ acy b ↔ (∃ (i : Nat) (g : acY), b.2.1[i]? = some g ∧ l ∈ adt b g) ∨ ∃ c ∈ b.2.2.2.2.1, l = (cy b c, cx b c, (aeO b c).2) ∨ l = (cx b c, cy b c, -(aeO b c).1) := by
 unfold acy
 simp only [List.mem_append, List.mem_flatMap, ac7, List.mem_cons, List.not_mem_nil, or_false]
 constructor
 ·rintro (⟨g, hg, h⟩ | h)
  ·obtain ⟨i, hi, rfl⟩ := List.mem_iff_getElem.1 hg
   exact .inl ⟨i, _, List.getElem?_eq_getElem hi, h⟩
  ·exact .inr h
 ·rintro (⟨i, g, hg, h⟩ | h)
  ·exact .inl ⟨g, List.mem_of_getElem? hg, h⟩
  ·exact .inr h
theorem adx.sys (h : adx b) : afY (acy b) ((ack b).length + 1) := by
 have hN := h.nodes
 have hL := h.links
 have key : ∀ l ∈ acy b, ((0 ≤ l.1 ∧ l.1 < ((ack b).length + 1 : Nat)) ∧ (0 ≤ l.2.1 ∧ l.2.1 < ((ack b).length + 1 : Nat))) ∧ l.1 ≠ l.2.1 ∧ (-4503599627370496 ≤ l.2.2 ∧ l.2.2 ≤ 4503599627370496) := by
  intro l hl
  rcases ajB.1 hl with ⟨i, g, hg, hl⟩ | ⟨c, hc, hl⟩
  ·have hgm := List.mem_of_getElem? hg
   have hr := h.gaugeR hgm
   have ho := aSZ h hg
   have hp := List.length_pos_of_mem (air (b := b) g)
   have r1 := hr.2.2.2.2.2.1
   have r2 := hr.2.2.2.2.2.2.1
   rcases (adG h hg).1 hl with rfl | rfl | ⟨k, d, e, hd, he, h1⟩
   ·dsimp only; omega
   ·dsimp only; omega
   ·obtain ⟨h2, _⟩ := List.getElem?_eq_some_iff.1 he
    have d1 := h.day hgm (List.mem_of_getElem? hd)
    have lb := anh h hgm (t := e) d1.2.1
    rcases h1 with rfl | rfl
    ·dsimp only; omega
    ·dsimp only; omega
  ·have a := (aGK h hc).rng
   have b' := (aBn h hc).rng
   have ne := aRM h hc
   have sb := ay3 h hc
   rcases hl with rfl | rfl
   ·dsimp only; omega
   ·dsimp only; omega
 exact ⟨by omega, by omega, by rw [aI7 h]; omega, fun l hl => (key l hl).1, fun l hl => (key l hl).2.1, fun l hl => (key l hl).2.2⟩
end
end Go.Proofs.ZzM
end
noncomputable section
namespace Go.Proofs.ZzM
open Go Go.Am
theorem aQr {ρ : Type} : @amY ρ = @afq ρ := rfl
theorem aQq {ρ : Type} : @amX ρ = @ad7 ρ := rfl
theorem aQp {ρ : Type} : @amW ρ = @ady ρ := rfl
theorem aJh {ρ : Type} {N : Nat} (hN : N ≤ 1000) (x : Option ρ) : acT ((ile (0 : Int) (N : Int)) && (acS N)) x = x := by
 have := auG hN x
 rwa [Int.toNat_natCast] at this
section
variable {L : List Lk} {N : Nat} {M : Int}
theorem aOu {s : Int} (hs : 0 ≤ s ∧ s < N) : (List.replicate N afx).set s.toNat 0 = amv (aOW s) N := by
 refine aMw (by simp [ac4]) fun v h0 h1 => ?_
 have hv : v < N := by simpa using h1
 rw [afZ _ h0 hv, apj hs.1 h0 (by simp; omega)]
 unfold aOW
 by_cases h : v = s
 ·simp [h]
 ·simp only [h, if_false, beq_iff_eq]
  unfold gv
  rw [List.getElem?_replicate]
  have : v.toNat < N := by omega
  simp [this]
theorem aQo (hL : afN L N M) (h1 : 1 ≤ N) (hN : N ≤ 200) (ho : ad5 L N = true) {s : Int} (hs : 0 ≤ s ∧ s < N) : ap7 ((N : Int), L) [] s = some (alA L N s) := by
 obtain ⟨p, hp⟩ := (afQ hL hN).1 ho
 unfold ap7 avU
 rw [aQr, aQq, aQp]
 dsimp only
 rw [auG (by omega), Int.toNat_natCast]
 refine adh (List.replicate N (0 : Int)) (fun i => List.replicate i afx ++ List.replicate (N - i) 0) _ (by simp) (fun i a hi ha kn => ?_) (fun kn => ?_)
 ·dsimp only
  unfold aji
  have hiN : i < N := by simpa using hi
  have hl : i < (List.replicate i afx ++ List.replicate (N - i) (0 : Int)).length := by simp; omega
  rw [acs hi, afX hl, aes (List.getElem?_eq_getElem hl), aco hiN (by omega), Int.toNat_natCast]
  congr 2
  rw [List.set_append_right _ _ (by simp)]
  have : N - i = (N - (i + 1)) + 1 := by omega
  rw [this, List.length_replicate, Nat.sub_self, List.replicate_succ, List.set_cons_zero, List.replicate_succ']
  simp
 ·try dsimp only
  unfold aji
  rw [acL]
  dsimp only
  have e0 : List.replicate (List.replicate N (0 : Int)).length afx ++ List.replicate (N - (List.replicate N (0 : Int)).length) 0 = List.replicate N afx := by simp
  rw [e0]
  have hlen : s.toNat < (List.replicate N afx).length := by simp; omega
  rw [show adE (List.replicate N afx) = ((N : Nat) : Int) by simp [adE], age hs.1 hs.2, agO hlen, aJh (by omega), aJh (by omega), aOu hs]
  refine Eq.trans (aMr hL _) ?_
  have hS : ∀ v, aOW s v = true → 0 ≤ v ∧ v < N := fun v h => by simp [aOW] at h; subst h; exact hs
  refine aOv (ac4 _ _) (by omega) _ fun w q hw hq hr hwq hqs => ?_
  have hs0 := aDn hL h1 hS hw hq hr hwq hqs
  refine aHo hL (aRm hL hN) hp hS _ (fun x w t q hx hd => ?_) hs0
  have : x = alA L N s := by
   refine aMw (by rw [hx]; unfold alA; rw [aem, ac4]) fun v a b => ?_
   exact hd.uniq (aii hL hN hp hs) a (by omega)
  dsimp only
  rw [this]
def afv (L : List Lk) (N : Nat) (s t : Int) : Int × Int :=
 if !ad5 L N then (0, 9) else if gv (alA L N s) t = afx then (0, 5) else (gv (alA L N s) t, 0)
theorem aSa (h : afY L N) {ns : List Int} (hn : ∀ n ∈ ns, 0 ≤ n ∧ n < N) (hl : ns.length ≤ 1000) : auT ((N : Int), L) ns = some (if ad5 L N then 0 else 9) := by
 have h2 := h.n60
 unfold auT az2
 rw [ahF h, ab8]
 dsimp only
 rw [acr (by rfl)]
 refine Eq.trans (afS ns (fun _ => false) (fun _ => some 1) (some (if ad5 L N then 0 else 9)) (fun i n hi hm kn => ?_) (fun kn => ?_)) ?_
 ·try dsimp only
  unfold akM
  have a := hn n (List.mem_of_getElem? hm)
  have e : (decide (0 ≤ n) && decide (n < (N : Int))) = true := by simp [a.1, a.2]
  rw [acs hi, acn hm, azo, ab8, e, aco hi (by omega)]
  simp
 ·try dsimp only
  unfold akM
  rw [acL, arp h.links h.n1 (by omega), ab8]
  cases ad5 L N <;> rfl
 ·rw [List.findIdx?_eq_none_iff.2 (by simp)]
theorem ayQ (h : afY L N) {s t : Int} (hs : 0 ≤ s ∧ s < N) (ht : 0 ≤ t ∧ t < N) : akg ((N : Int), L) s t = some (afv L N s t) := by
 have h2 := h.n60
 unfold akg aAg afv
 rw [aSa h (fun n hn => by simp at hn; rcases hn with rfl | rfl <;> assumption) (by simp), ab8]
 by_cases ho : ad5 L N = true
 ·rw [if_pos ho, acr (by rfl), aQo h.links h.n1 (by omega) ho hs, ab8, aph ht.1 (by unfold alA; rw [aem, ac4]; omega), adM, if_neg (show ¬ (!ad5 L N) = true by simp [ho])]
  by_cases hf : gv (alA L N s) t = afx
  ·rw [if_pos (by simpa [ieq] using hf), if_pos hf]
  ·rw [if_neg (by simpa [ieq] using hf), if_neg hf]
 ·rw [if_neg ho, acD (by rfl), if_pos (show (!ad5 L N) = true by simpa using ho)]
end
end Go.Proofs.ZzM
end
noncomputable section
namespace Go.Proofs.ZzM
open Go Go.Am
def acz (b : acC) (c : Cmp) : acC := (b.1, b.2.1, b.2.2.1, b.2.2.2.1, b.2.2.2.2.1 ++ [c], b.2.2.2.2.2)
def alB : acC := ((0, 0), [], [], [], [], [])
def apI (b : acC) (c : Cmp) : acC × Int := if acN b ≠ 0 then (alB, acN b) else if acN (acz b c) ≠ 0 then (alB, acN (acz b c)) else (acz b c, 0)
theorem aO7 {b : acC} (h : adx b) {c : Cmp} (hA : c.2.2.1.length ≤ 1000) (hB : c.2.2.2.1.length ≤ 1000) : ahD (acz b c) := by
 have hs := h.size
 have := h.nC
 refine ⟨hs.gauges, hs.uses, hs.loans, by simp [acz]; omega, hs.looks, fun d hd => ?_⟩
 rcases List.mem_append.1 (show d ∈ b.2.2.2.2.1 ++ [c] from hd) with hd | hd
 ·exact hs.piles d hd
 ·simp at hd; subst hd; exact ⟨hA, hB⟩
theorem aQB {b : acC} (hs : ahD b) (hr : ∀ g ∈ b.2.1, I64 g.2.2.2.2.1.1) {c : Cmp} (hA : c.2.2.1.length ≤ 1000) (hB : c.2.2.2.1.length ≤ 1000) : ajq b c = some (apI b c) := by
 unfold ajq aGn apI
 have h1 := hs.gauges; have h2 := hs.uses; have h3 := hs.loans; have h4 := hs.compares; have h5 := hs.looks
 rw [acu (by omega), Am.iff_true, acu (by omega), Am.iff_true, af6 hs hr, ab8]
 by_cases hc : acN b = 0
 ·have h := (acQ b).1 hc
  rw [acr (by simp [ine, hc]), acu (by omega), Am.iff_true, acu (by omega), Am.iff_true, acu (by omega), Am.iff_true, acu (by omega), Am.iff_true, acu (by omega), Am.iff_true, if_neg (show ¬ (acN b ≠ 0) from fun h => h hc)]
  refine adh b.2.2.2.2.1 (fun _ => b.2.2.2.2.1) _ rfl (fun i d hi hd kn => ?_) (fun kn => ?_)
  ·dsimp only
   unfold anf
   obtain ⟨p1, p2⟩ := hs.piles d (List.mem_of_getElem? hd)
   have e1 : b.2.2.2.2.1.set i d = b.2.2.2.2.1 := by
    obtain ⟨h, rfl⟩ := List.getElem?_eq_some_iff.1 hd
    exact List.set_getElem_self h
   rw [acs hi, afX hi, aes hd, acu (by omega), Am.iff_true, acu (by omega), Am.iff_true, afX hi, aes hd, Int.toNat_natCast]
   rw [show (d.1, d.2.1, d.2.2.1, d.2.2.2) = d from rfl, e1, afX hi, aky hd, aco hi (by omega)]
   rw [show (d.1, d.2.1, d.2.2.1, d.2.2.2.1, d.2.2.2.2) = d from rfl, e1]
  ·try dsimp only
   unfold anf
   rw [acL]
   dsimp only
   rw [acu (by simp only [List.length_singleton]; omega), Am.iff_true]
   rw [show acW (b.1, b.2.1, b.2.2.1, b.2.2.2.1, b.2.2.2.2.1 ++ [c], b.2.2.2.2.2) = acW (acz b c) from rfl, af6 (aO7 h hA hB) hr, ab8]
   by_cases hc2 : acN (acz b c) = 0
   ·rw [acr (by simp [ine, hc2]), if_neg (show ¬ (acN (acz b c) ≠ 0) from fun h => h hc2)]
    rfl
   ·rw [acD (by simp [ine, hc2]), if_pos hc2]
    rfl
 ·rw [acD (by simp [ine, hc]), if_pos hc]
  rfl
def ace (c : Cmp) : Cmp := (c.1, c.2.1, c.2.2.1, c.2.2.2.1, 0, c.2.2.2.2.2)
def aDW (b : acC) (c : Cmp) : Int := aBv (adR b c).1 + (ag5 b c).1 - c.2.2.2.2.2.1
def ame (b : acC) (c : Cmp) : Int := (adR b c).2.1 / (adR b c).2.2 + (ag5 b c).2 + c.2.2.2.2.2.1
def ay0 (b : acC) (c : Cmp) (s : Int × Int) : (Int × Int) × Int := if ame b c < aDW b c then ((0, 0), 5) else ((s.1 + aDW b c, s.2 + ame b c), 0)
structure aSg (b : acC) (c : Cmp) : Prop where
 nums : aNn c = true
 r1 : ams (axN (ajM b) (adb c.2.2.1 c.2.2.2.1)) 1000 100
 r2 : ams (axN (ajM b) (adb c.2.2.2.1 c.2.2.1)) 1000 100
theorem adx.cmp {b : acC} (h : adx b) {c : Cmp} (hc : c ∈ b.2.2.2.2.1) : aSg b c := ⟨h.nums hc, (h.rates hc).1, (h.rates hc).2⟩
theorem awM {b : acC} (hf : 0 ≤ b.1.1 ∧ b.1.1 ≤ b.1.2 ∧ b.1.2 ≤ 1000000) {c : Cmp} (h : aSg b c) : ams (adR b c).1 2000000000 10000 ∧ ams (adR b c).2 2000000000 10000 ∧ (-3000000000 ≤ aBv (adR b c).1 + (ag5 b c).1 ∧ aBv (adR b c).1 + (ag5 b c).1 ≤ 3000000000) ∧
 (-3000000000 ≤ (adR b c).2.1 / (adR b c).2.2 + (ag5 b c).2 ∧ (adR b c).2.1 / (adR b c).2.2 + (ag5 b c).2 ≤ 3000000000) ∧ (0 ≤ c.2.2.2.2.2.1 ∧ c.2.2.2.2.2.1 ≤ 1073741824) := by
 have hn := (ahi c).1 h.nums
 have ha := aeV hn.2.2.2.2.2.1
 have hb := aeV hn.2.2.2.2.2.2
 obtain ⟨g1, g2⟩ := aEW (aEA h.r1 h.r2) hn.2.2.2.2.1
 have fb := asn (b := b) (c := c) (by omega) (by omega) (by omega) (by omega) (by omega) (by omega)
 have q1 : ams (adR b c).1 2000000000 10000 := g1
 have q2 : ams (adR b c).2 2000000000 10000 := g2
 have c1 := awB q1
 have c2 := asj q2
 exact ⟨q1, q2, by omega, by omega, hn.2.2.2.1⟩
theorem aQ5 {b : acC} (hs : ahD b) (hf : 0 ≤ b.1.1 ∧ b.1.1 ≤ b.1.2 ∧ b.1.2 ≤ 1000000) {c : Cmp} (h : aSg b c) {s : Int × Int} (h1 : -2305843009213693952 ≤ s.1 ∧ s.1 ≤ 2305843009213693952) (h2 : -2305843009213693952 ≤ s.2 ∧ s.2 ≤ 2305843009213693952) : aml b c s = some (ay0 b c s) := by
 have hn := (ahi c).1 h.nums
 have ha := aeV hn.2.2.2.2.2.1
 have hb := aeV hn.2.2.2.2.2.2
 obtain ⟨q1, q2, b1, b2, b3⟩ := awM hf h
 unfold aml aAz ay0 aDW ame
 rw [aJm hs (by omega) (by omega) h.r1 h.r2 hn.2.2.2.2.1, ab8, aME (by omega) (by omega) (by omega) (by omega) (by omega) (by omega), ab8, aQK q1.rat, ab8, aM3 q2.rat, ab8]
 dsimp only
 rw [acx (by omega) (by omega), acx (by omega) (by omega), acx (by omega) (by omega), acx (by omega) (by omega), adM]
 by_cases hlt : (adR b c).2.1 / (adR b c).2.2 + (ag5 b c).2 + c.2.2.2.2.2.1 < aBv (adR b c).1 + (ag5 b c).1 - c.2.2.2.2.2.1
 ·rw [if_pos (by simpa [igt] using hlt), if_pos hlt]
 ·rw [if_neg (by simpa [igt] using hlt), if_neg hlt, acx (by omega) (by omega), acx (by omega) (by omega)]
def acM (b : acC) : List Lk := (acy b).take ((acy b).length - 2)
def acR (b : acC) (c : Cmp) : (Int × Int) × Int :=
 if (apI b (ace c)).2 ≠ 0 then ((0, 0), (apI b (ace c)).2) else
 if (afv (acM (acz b (ace c))) ((ack (acz b (ace c))).length + 1) (cy (acz b (ace c)) (ace c)) (cx (acz b (ace c)) (ace c))).2 ≠ 0 then
  ((0, 0), (afv (acM (acz b (ace c))) ((ack (acz b (ace c))).length + 1) (cy (acz b (ace c)) (ace c)) (cx (acz b (ace c)) (ace c))).2) else
 if (afv (acM (acz b (ace c))) ((ack (acz b (ace c))).length + 1) (cx (acz b (ace c)) (ace c)) (cy (acz b (ace c)) (ace c))).2 ≠ 0 then
  ((0, 0), (afv (acM (acz b (ace c))) ((ack (acz b (ace c))).length + 1) (cx (acz b (ace c)) (ace c)) (cy (acz b (ace c)) (ace c))).2) else
 ay0 b (ace c) (-(afv (acM (acz b (ace c))) ((ack (acz b (ace c))).length + 1) (cx (acz b (ace c)) (ace c)) (cy (acz b (ace c)) (ace c))).1,
  (afv (acM (acz b (ace c))) ((ack (acz b (ace c))).length + 1) (cy (acz b (ace c)) (ace c)) (cx (acz b (ace c)) (ace c))).1)
theorem aJ1 {L : List Lk} {N : Nat} (h : afY L N) {s t : Int} (hs : 0 ≤ s ∧ s < N) (ht : 0 ≤ t ∧ t < N) : -2305843009213693952 ≤ (afv L N s t).1 ∧ (afv L N s t).1 ≤ 2305843009213693952 := by
 unfold afv
 have h2 := h.n60
 split
 ·simp
 ·rename_i ho
  have ho' : ad5 L N = true := by simpa using ho
  obtain ⟨p, hp⟩ := (afQ h.links (by omega)).1 ho'
  have hd := aii h.links (by omega) hp hs
  split
  ·simp
  ·rename_i hne
   dsimp only
   have hb := hd.bd t ht.1 ht.2
   obtain ⟨vs, hw⟩ := hd.att t ht.1 ht.2 hne
   have h3 := hw.low' hp
   have h4 := aE1 (L := L) (fun l hl => (h.most l hl).1) (M := 4503599627370496) (by omega)
   have h5 := h.len
   unfold afx at hb
   constructor <;> omega
theorem aN7 {b : acC} (hs : ahD b) (hr : ∀ g ∈ b.2.1, I64 g.2.2.2.2.1.1) {c : Cmp} (hA : c.2.2.1.length ≤ 1000) (hB : c.2.2.2.1.length ≤ 1000) : anu b c = some (acR b c) := by
 unfold anu asc acR
 rw [show ajq b (c.1, c.2.1, c.2.2.1, c.2.2.2.1, 0, c.2.2.2.2.2) = ajq b (ace c) from rfl, aQB hs hr (c := ace c) hA hB, ab8]
 by_cases hw : (apI b (ace c)).2 = 0
 ·rw [acr (by simp [ine, hw]), if_neg (show ¬ ((apI b (ace c)).2 ≠ 0) from fun h => h hw)]
  -- the book is valid, and so is the greater one
  have hb : acN b = 0 := by
   unfold apI at hw
   split at hw
   ·rename_i h; exact (h hw).elim
   ·rename_i h; simpa using h
  have hm : acN (acz b (ace c)) = 0 := by
   unfold apI at hw
   rw [if_neg (by simp [hb])] at hw
   split at hw
   ·rename_i h; exact (h hw).elim
   ·rename_i h; simpa using h
  have he : apI b (ace c) = (acz b (ace c), 0) := by
   unfold apI
   rw [if_neg (by simp [hb]), if_neg (by simp [hm])]
  have g := (acQ b).1 hb
  have gm := (acQ _).1 hm
  have hmem : ace c ∈ (acz b (ace c)).2.2.2.2.1 := by simp [acz]
  have hN := gm.nodes
  have hll := aI7 gm
  have hcl : (acz b (ace c)).2.2.2.2.1.length = b.2.2.2.2.1.length + 1 := by simp [acz]
  have hlk := gm.links
  have hsys : afY (acM (acz b (ace c))) ((ack (acz b (ace c))).length + 1) := gm.sys.sub (fun l hl => List.mem_of_mem_take hl) (by unfold acM; rw [List.length_take]; omega)
  have hx := (aGK gm hmem).rng
  have hy := (aBn gm hmem).rng
  have lA : c.2.2.1.length ≤ 1000 := hA
  rw [he]
  dsimp only
  rw [aMn gm, ab8]
  dsimp only
  rw [acO, acx (by omega) (by omega)]
  have e1 : ((ile (0 : Int) (((acy (acz b (ace c))).length : Int) - 2)) && (ile (((acy (acz b (ace c))).length : Int) - 2) (adE (acy (acz b (ace c)))))) = true := by
   simp [ile, adE]; omega
  have e2 : (((acy (acz b (ace c))).length : Int) - 2).toNat = (acy (acz b (ace c))).length - 2 := by omega
  rw [adF e1, als (by omega) (by omega), ab8, aQw _ _ _ (by dsimp only; omega), ab8, als (by omega) (by omega), ab8, aQw _ _ _ (by dsimp only; omega), ab8, e2]
  have e3 : (((ack (acz b (ace c))).length : Int) + 1) = (((ack (acz b (ace c))).length + 1 : Nat) : Int) := by push_cast; rfl
  rw [e3]
  rw [show List.take ((acy (acz b (ace c))).length - 2) (acy (acz b (ace c))) = acM (acz b (ace c)) from rfl]
  dsimp only
  rw [show atP (ack (acz b (ace c))) (adb c.2.2.1 c.2.2.2.1) c.2.1 = cx (acz b (ace c)) (ace c) from rfl, show atP (ack (acz b (ace c))) (adb c.2.2.2.1 c.2.2.1) c.2.1 = cy (acz b (ace c)) (ace c) from rfl]
  rw [ayQ hsys hy hx, ab8, ayQ hsys hx hy]
  have b1 := aJ1 hsys hy hx
  have b2 := aJ1 hsys hx hy
  generalize hB1 : afv (acM (acz b (ace c))) ((ack (acz b (ace c))).length + 1) (cy (acz b (ace c)) (ace c)) (cx (acz b (ace c)) (ace c)) = B1 at b1 ⊢
  generalize hB2 : afv (acM (acz b (ace c))) ((ack (acz b (ace c))).length + 1) (cx (acz b (ace c)) (ace c)) (cy (acz b (ace c)) (ace c)) = B2 at b2 ⊢
  by_cases h1 : B1.2 = 0
  ·rw [acr (by simp [ine, h1]), if_neg (show ¬ (B1.2 ≠ 0) from fun h => h h1), ab8]
   by_cases h2 : B2.2 = 0
   ·rw [acr (by simp [ine, h2]), if_neg (show ¬ (B2.2 ≠ 0) from fun h => h h2), acx (by omega) (by omega)]
    have hck : aSg b (ace c) := ⟨(gm.cmp hmem).nums, (gm.cmp hmem).r1, (gm.cmp hmem).r2⟩
    rw [show aml b (c.1, c.2.1, c.2.2.1, c.2.2.2.1, 0, c.2.2.2.2.2) (0 - B2.1, B1.1) = aml b (ace c) (0 - B2.1, B1.1) from rfl, aQ5 g.size g.film hck (by dsimp only; omega) (by dsimp only; omega), ab8, Int.zero_sub]
   ·rw [acD (by simp [ine, h2]), if_pos h2]
  ·rw [acD (by simp [ine, h1]), if_pos h1]
 ·rw [acD (by simp [ine, hw]), if_pos hw]
end Go.Proofs.ZzM
end
noncomputable section
namespace Go.Proofs.ZzM
open Go Go.Am
structure In (b : acC) : Prop where
 size : ahD b
 num : ∀ g ∈ b.2.1, I64 g.2.2.2.2.1.1
def aG3 (b : acC) : Sys × List (Int × Int) × Int := if acN b ≠ 0 then ((0, []), [], acN b) else ((((ack b).length : Int) + 1, acy b), aeF b, 0)
theorem akn {b : acC} (h : In b) : adu b = some (aG3 b) := by
 unfold adu awa aG3
 rw [af6 h.size h.num, ab8]
 by_cases hc : acN b = 0
 ·rw [acr (by simp [ine, hc]), aMn ((acQ b).1 hc), ab8, if_neg (show ¬ (acN b ≠ 0) from fun h => h hc)]
 ·rw [acD (by simp [ine, hc]), if_pos hc]
def cmp0 : Cmp := (0, 0, [], [], 0, 0, 0, 0)
def alC (b : acC) (i : Int) : Cmp × Int := if acN b ≠ 0 then (cmp0, acN b) else if i < 0 ∨ (b.2.2.2.2.1.length : Int) ≤ i then (cmp0, 1) else (b.2.2.2.2.1[i.toNat]?.getD cmp0, 0)
theorem aQU {b : acC} (h : In b) (i : Int) : auV b i = some (alC b i) := by
 unfold auV aAx alC
 rw [af6 h.size h.num, ab8]
 by_cases hc : acN b = 0
 ·rw [acr (by simp [ine, hc]), if_neg (show ¬ (acN b ≠ 0) from fun h => h hc), acO]
  by_cases h1 : i < 0
  ·rw [acD (by simp [ilt, h1]), if_pos (.inl h1)]; rfl
  ·rw [acr (by simp [ilt]; omega)]
   by_cases h2 : (b.2.2.2.2.1.length : Int) ≤ i
   ·rw [acD (by simp [ige, h2]), if_pos (.inr h2)]; rfl
   ·rw [acr (by simp [ige]; omega), if_neg (by omega)]
    obtain ⟨j, rfl⟩ := Int.eq_ofNat_of_zero_le (show 0 ≤ i by omega)
    have hj : j < b.2.2.2.2.1.length := by omega
    rw [acn (List.getElem?_eq_getElem hj), Int.toNat_natCast, List.getElem?_eq_getElem hj]
    rfl
 ·rw [acD (by simp [ine, hc]), if_pos hc]; rfl
theorem aJ6 {b : acC} {i : Int} (h : (alC b i).2 = 0) : adx b ∧ (alC b i).1 ∈ b.2.2.2.2.1 ∧ b.2.2.2.2.1[i.toNat]? = some (alC b i).1 ∧ 0 ≤ i := by
 unfold alC at h ⊢
 split at h
 ·rename_i hc; exact (hc h).elim
 ·rename_i hc
  have hc0 : acN b = 0 := by simpa using hc
  split at h
  ·simp at h
  ·rename_i hi
   have hj : i.toNat < b.2.2.2.2.1.length := by omega
   rw [if_neg hc, if_neg hi, List.getElem?_eq_getElem hj]
   exact ⟨(acQ b).1 hc0, List.getElem_mem hj, rfl, by omega⟩
def aSd (b : acC) (i : Int) : (Int × Int) × Int := if (alC b i).2 ≠ 0 then ((0, 0), (alC b i).2) else (aeO b (alC b i).1, 0)
theorem aTx {b : acC} (h : In b) (i : Int) : ayM b i = some (aSd b i) := by
 unfold ayM aGp aSd
 rw [aQU h, ab8]
 by_cases hw : (alC b i).2 = 0
 ·obtain ⟨g, hm, _, _⟩ := aJ6 hw
  rw [acr (by simp [ine, hw]), g.says hm, ab8, if_neg (show ¬ ((alC b i).2 ≠ 0) from fun h => h hw)]
 ·rw [acD (by simp [ine, hw]), if_pos hw]
def exB : acC := ((0, 2), [(1, 0, 1000, (-5, 5), (1, 10), 1), (2, 0, 1000, (-50, 50), (1, 4), 0)], [(1, 10)], [(1, (20, 29), 3)], [(7, 10, [1], [2], -20, 1, 100, 200)], [])
theorem apt : In exB := ⟨⟨by decide, by decide, by decide, by decide, by decide, by decide⟩, by
 intro g hg
 simp [exB] at hg
 rcases hg with rfl | rfl <;> exact ⟨by decide, by decide⟩⟩
def exC : Cmp := (8, 10, [1], [2], 0, 0, 0, 0)
end Go.Proofs.ZzM
end
noncomputable section
namespace Go.Proofs.ZzM
open Go Go.Am
def amu (b : acC) (x d : Int) : Int := match agy (ack b) x d with | some j => (j : Int) + 1 | none => 0
def aM2 (b : acC) (n : Int × Int) : Int × Int := if acN b ≠ 0 then (0, acN b) else if amu b n.1 n.2 = 0 then (0, 5) else (amu b n.1 n.2, 0)
theorem aBP {b : acC} (h : In b) (n : Int × Int) : ad8 b n = some (aM2 b n) := by
 have hl := aDB h.size
 unfold ad8 aAO aM2
 rw [af6 h.size h.num, ab8]
 by_cases hc : acN b = 0
 ·rw [acr (by simp [ine, hc]), if_neg (show ¬ (acN b ≠ 0) from fun h => h hc), aEY h.size, ab8, show acV (ack b) n = acV (ack b) (n.1, n.2) from rfl, aJV (by omega), ab8]
  unfold amu
  cases hx : agy (ack b) n.1 n.2 with
  | none => rfl
  | some j =>
    have := (ag0 hx).1
    simp only
    rw [acr (by simp [ilt]), acx (by omega) (by omega), if_neg (by omega)]
 ·rw [acD (by simp [ine, hc]), if_pos hc]
end Go.Proofs.ZzM
end
noncomputable section
namespace Go.Proofs.ZzM
open Go Go.Am
def ai0 (b : acC) (n : Int × Int) : acC := (b.1, b.2.1, b.2.2.1, b.2.2.2.1, b.2.2.2.2.1, b.2.2.2.2.2 ++ [n])
theorem aPl {b : acC} (h : adx b) (n : Int × Int) : ahD (ai0 b n) := by
 have hs := h.size
 have := h.nK
 exact ⟨hs.gauges, hs.uses, hs.loans, hs.compares, by simp [ai0]; omega, hs.piles⟩
def aN8 (b : acC) (n : Int × Int) : acC × Int := if acN b ≠ 0 then (alB, acN b) else if acN (ai0 b n) ≠ 0 then (alB, acN (ai0 b n)) else (ai0 b n, 0)
theorem aTB {b : acC} (h : In b) (n : Int × Int) : ags b n = some (aN8 b n) := by
 have hs := h.size
 have h1 := hs.gauges; have h2 := hs.uses; have h3 := hs.loans; have h4 := hs.compares; have h5 := hs.looks
 unfold ags aGr aN8
 rw [af6 hs h.num, ab8]
 by_cases hc : acN b = 0
 ·have hg := (acQ b).1 hc
  rw [acr (by simp [ine, hc]), acu (by omega), Am.iff_true, acu (by omega), Am.iff_true, acu (by omega), Am.iff_true, acu (by omega), Am.iff_true, acu (by omega), Am.iff_true, if_neg (show ¬ (acN b ≠ 0) from fun h => h hc)]
  refine adh b.2.2.2.2.1 (fun _ => b.2.2.2.2.1) _ rfl (fun i d hi hd kn => ?_) (fun kn => ?_)
  ·dsimp only
   unfold ang
   obtain ⟨p1, p2⟩ := hs.piles d (List.mem_of_getElem? hd)
   have e1 : b.2.2.2.2.1.set i d = b.2.2.2.2.1 := by
    obtain ⟨h, rfl⟩ := List.getElem?_eq_some_iff.1 hd
    exact List.set_getElem_self h
   rw [acs hi, afX hi, aes hd, acu (by omega), Am.iff_true, acu (by omega), Am.iff_true, afX hi, aes hd, Int.toNat_natCast]
   rw [show (d.1, d.2.1, d.2.2.1, d.2.2.2) = d from rfl, e1, afX hi, aky hd, aco hi (by omega)]
   rw [show (d.1, d.2.1, d.2.2.1, d.2.2.2.1, d.2.2.2.2) = d from rfl, e1]
  ·try dsimp only
   unfold ang
   rw [acL]
   dsimp only
   rw [acu (by simp only [List.length_singleton]; omega), Am.iff_true]
   rw [show acW (b.1, b.2.1, b.2.2.1, b.2.2.2.1, b.2.2.2.2.1, b.2.2.2.2.2 ++ [n]) = acW (ai0 b n) from rfl, af6 (aPl hg n) h.num, ab8]
   by_cases hc2 : acN (ai0 b n) = 0
   ·rw [acr (by simp [ine, hc2]), if_neg (show ¬ (acN (ai0 b n) ≠ 0) from fun h => h hc2)]
    rfl
   ·rw [acD (by simp [ine, hc2]), if_pos hc2]
    rfl
 ·rw [acD (by simp [ine, hc]), if_pos hc]
  rfl
end Go.Proofs.ZzM
end
noncomputable section
namespace Go.Proofs.ZzM
open Go Go.Am
section
variable {b : acC}
theorem aS0 : off b b.2.1.length = (ack b).length := by unfold off ack; rw [List.take_length]
theorem aRj : ∀ n, n ≤ b.2.1.length → ∀ j, j < off b n → ∃ (i : Nat) (g : acY) (k : Nat), b.2.1[i]? = some g ∧ k < (acB b g).length ∧ j = off b i + k := by
 intro n
 induction n with
 | zero => intro _ j hj; simp [off] at hj
 | succ n ih =>
   intro hn j hj
   have hg : b.2.1[n]? = some b.2.1[n] := List.getElem?_eq_getElem (by omega)
   rw [aRi hg] at hj
   by_cases h : j < off b n
   ·exact ih (by omega) j h
   ·exact ⟨n, _, j - off b n, hg, by omega, by omega⟩
theorem aDC {v : Int} (h0 : 1 ≤ v) (h1 : v < ((ack b).length + 1 : Nat)) : ∃ (i : Nat) (g : acY) (k : Nat), b.2.1[i]? = some g ∧ k < (acB b g).length ∧ v = (off b i : Int) + k + 1 := by
 obtain ⟨i, g, k, h2, h3, h4⟩ := aRj (b := b) b.2.1.length (Nat.le_refl _) (v - 1).toNat (by rw [aS0]; omega)
 exact ⟨i, g, k, h2, h3, by omega⟩
def GL (b : acC) (L : List Lk) : Prop := ∀ (i : Nat) (g : acY), b.2.1[i]? = some g → ∀ l ∈ adt b g, l ∈ L
theorem aMx : GL b (acy b) := fun i g hg l hl => ajB.2 (.inl ⟨i, g, hg, hl⟩)
theorem aOs {L : List Lk} (h : adx b) (hL : GL b L) {v : Int} (h0 : 0 ≤ v) (h1 : v < ((ack b).length + 1 : Nat)) : ∃ vs d, Wl L (fun u => u = 0) vs v d ∧ d ≤ 4503599627370496 := by
 by_cases hv : v = 0
 ·exact ⟨[], 0, .nil hv, by omega⟩
 obtain ⟨i, g, k, hg, hk, rfl⟩ := aDC (by omega) h1
 have hr := h.gaugeR (List.mem_of_getElem? hg)
 have r1 := hr.2.2.2.2.2.1
 have r2 := hr.2.2.2.2.2.2.1
 have key : ∀ k : Nat, k < (acB b g).length → ∃ vs, Wl L (fun u => u = 0) vs ((off b i : Int) + k + 1) (g.2.2.1 + g.2.2.2.1.2) := by
  intro k
  induction k with
  | zero =>
    intro _
    have hw : Wl L (fun u => u = 0) [0] ((off b i : Int) + 1) (0 + (g.2.2.1 + g.2.2.2.1.2)) := Wl.step (.nil rfl) (hL i g hg _ ((adG h hg).2 (.inl rfl)))
    rw [Int.zero_add] at hw
    exact ⟨[0], by simpa using hw⟩
  | succ k ih =>
    intro hk
    obtain ⟨vs, hw⟩ := ih (by omega)
    have hw' := Wl.step hw (hL i g hg _ ((adG h hg).2 (.inr (.inr ⟨k, _, _, List.getElem?_eq_getElem (show k < _ by omega), List.getElem?_eq_getElem hk, .inl rfl⟩))))
    rw [Int.add_zero] at hw'
    have e : (off b i : Int) + ((k + 1 : Nat) : Int) + 1 = (off b i : Int) + k + 2 := by push_cast; omega
    exact ⟨_, by rw [e]; exact hw'⟩
 obtain ⟨vs, hw⟩ := key k hk
 exact ⟨vs, _, hw, by omega⟩
theorem aHi {L : List Lk} (h : adx b) (hL : GL b L) {v : Int} (h0 : 0 ≤ v) (h1 : v < ((ack b).length + 1 : Nat)) : ∃ vs d, Wl L (fun u => u = v) vs 0 d ∧ d ≤ 4503599627370496 := by
 by_cases hv : v = 0
 ·exact ⟨[], 0, .nil hv.symm, by omega⟩
 obtain ⟨i, g, k, hg, hk, rfl⟩ := aDC (by omega) h1
 have hgm := List.mem_of_getElem? hg
 have hr := h.gaugeR hgm
 have r1 := hr.2.2.2.2.2.1
 have r2 := hr.2.2.2.2.2.2.1
 have hd := aGH h hgm
 have key : ∀ m : Nat, m ≤ k → ∃ vs d, Wl L (fun u => u = (off b i : Int) + k + 1) vs ((off b i : Int) + (k - m : Nat) + 1) d ∧ d ≤ m * (12 * (20001 * 1048576) + 40 * 1048576) := by
  intro m
  induction m with
  | zero => intro _; exact ⟨[], 0, .nil (by simp), by simp⟩
  | succ m ih =>
    intro hm
    obtain ⟨vs, d, hw, hd⟩ := ih (by omega)
    have e1 : ((k - m : Nat) : Int) = ((k - (m + 1) : Nat) : Int) + 1 := by omega
    have hl : (((off b i : Int) + (k - (m + 1) : Nat) + 2, (off b i : Int) + (k - (m + 1) : Nat) + 1, agW b g ((acB b g)[k - (m + 1)]'(by omega)) ((acB b g)[k - (m + 1) + 1]'(by omega))) : Lk) ∈ L :=
     hL i g hg _ ((adG h hg).2 (.inr (.inr ⟨k - (m + 1), _, _, List.getElem?_eq_getElem (by omega), List.getElem?_eq_getElem (by omega), .inr rfl⟩)))
    have hb := anh h hgm (f := (acB b g)[k - (m + 1)]'(by omega)) (t := (acB b g)[k - (m + 1) + 1]'(by omega)) (h.day hgm (List.getElem_mem _)).2.1
    have e2 : (off b i : Int) + (k - m : Nat) + 1 = (off b i : Int) + (k - (m + 1) : Nat) + 2 := by omega
    rw [e2] at hw
    exact ⟨_, _, .step hw hl, by push_cast; omega⟩
 obtain ⟨vs, d, hw, hdb⟩ := key k (Nat.le_refl _)
 have e : (off b i : Int) + (k - k : Nat) + 1 = (off b i : Int) + 1 := by omega
 rw [e] at hw
 have hw' := Wl.step hw (hL i g hg _ ((adG h hg).2 (.inr (.inl rfl))))
 exact ⟨_, _, hw', by omega⟩
end
structure aBM (L : List Lk) (N : Nat) : Prop where
 to : ∀ v : Int, 0 ≤ v → v < N → ∃ vs d, Wl L (fun u => u = 0) vs v d ∧ d ≤ 4503599627370496
 from' : ∀ v : Int, 0 ≤ v → v < N → ∃ vs d, Wl L (fun u => u = v) vs 0 d ∧ d ≤ 4503599627370496
theorem adx.tied {b : acC} (h : adx b) : aBM (acy b) ((ack b).length + 1) := ⟨fun v h0 h1 => aOs h aMx h0 h1, fun v h0 h1 => aHi h aMx h0 h1⟩
theorem adx.tiedL {b : acC} {L : List Lk} (h : adx b) (hL : GL b L) : aBM L ((ack b).length + 1) := ⟨fun v h0 h1 => aOs h hL h0 h1, fun v h0 h1 => aHi h hL h0 h1⟩
section
variable {L : List Lk} {N : Nat}
theorem aOV {L : List Lk} {s : Int} {vs : List Int} {v d : Int} : Wl L (fun v => aOW s v = true) vs v d ↔ Wl L (fun u => u = s) vs v d :=
 ⟨fun h => h.mono fun u hu => by simpa [aOW] using hu, fun h => h.mono fun u hu => by simpa [aOW] using hu⟩
theorem aLC (h : afY L N) (ho : ad5 L N = true) {v : Int} (h0 : 0 ≤ v) (h1 : v < N) : gv (alA L N v) v = 0 := by
 have h2 := h.n60
 obtain ⟨p, hp⟩ := (afQ h.links (by omega)).1 ho
 have hd := aii h.links (by omega) hp (s := v) ⟨h0, h1⟩
 have h3 := hd.low v [] 0 (.nil (by simp [aOW]))
 obtain ⟨vs, hw⟩ := hd.att v h0 h1 (by unfold afx; omega)
 obtain ⟨s, hs, hx⟩ := (aOV.1 hw).pot hp
 subst hs
 omega
end
theorem aN3 {b : acC} : ∀ i, i ≤ b.2.2.2.2.1.length → ((b.2.2.2.2.1.take i).flatMap (ac7 b)).length = 2 * i ∧ (((b.2.2.2.2.1.take i).mapIdx fun i _ => [((3 : Int), (i : Int)), ((3 : Int), (i : Int))]).flatten).length = 2 * i := by
 intro i
 induction i with
 | zero => intro _; simp
 | succ i ih =>
   intro hi
   have ih := ih (by omega)
   have hg : b.2.2.2.2.1[i]? = some b.2.2.2.2.1[i] := List.getElem?_eq_getElem hi
   rw [ahU _ hg, take_succ hg, List.flatMap_append, List.flatten_append, List.length_append, List.length_append]
   simp only [List.flatMap_cons, List.flatMap_nil, List.append_nil, List.flatten_cons, List.flatten_nil, ac7, List.length_cons, List.length_nil]
   omega
end Go.Proofs.ZzM
end
noncomputable section
namespace Go.Proofs.ZzM
open Go Go.Am
section
variable {L : List Lk} {N : Nat}
theorem au7 (h : afY L N) : adc ((N : Int), L) = some (ad5 L N, 0) := by
 have h2 := h.n60
 unfold adc alm
 rw [ahF h, ab8]
 dsimp only
 rw [acr (by rfl), arp h.links h.n1 (by omega), ab8]
 cases ad5 L N <;> rfl
end
end Go.Proofs.ZzM
end
noncomputable section
namespace Go.Proofs.ZzM
open Go Go.Am
def ajK (b : acC) (n : Int × Int) : acC × Int := if amu b n.1 n.2 ≠ 0 then (b, 0) else if acN (ai0 b n) ≠ 0 then (alB, acN (ai0 b n)) else (ai0 b n, 0)
def afE : acC → List (Int × Int) → acC × Int
 | b, [] => (b, 0)
 | b, n :: t => if (ajK b n).2 ≠ 0 then (alB, (ajK b n).2) else afE (ajK b n).1 t
def adm (b : acC) (ns : List (Int × Int)) : acC × Int :=
 if acN b ≠ 0 then (alB, acN b) else if (afE b ns).2 ≠ 0 then (alB, (afE b ns).2) else
 if ad5 (acy (afE b ns).1) ((ack (afE b ns).1).length + 1) then ((afE b ns).1, 0) else (alB, 9)
theorem aHl {b : acC} (h : adx b) {n : Int × Int} (e : (ajK b n).2 = 0) : adx (ajK b n).1 := by
 unfold ajK at e ⊢
 split
 ·exact h
 ·rename_i h1
  rw [if_neg h1] at e
  split
  ·rename_i h2
   rw [if_pos h2] at e
   exact absurd e h2
  ·rename_i h2
   exact (acQ _).1 (by simpa using h2)
theorem aKa {b : acC} {n : Int × Int} (e : (ajK b n).2 = 0) : (ajK b n).1.2.1 = b.2.1 := by
 unfold ajK at e ⊢
 split
 ·rfl
 ·rename_i h1
  rw [if_neg h1] at e
  split
  ·rename_i h2
   rw [if_pos h2] at e
   exact absurd e h2
  ·rfl
theorem ay5 : ∀ {ns : List (Int × Int)} {b : acC}, adx b → (afE b ns).2 = 0 → adx (afE b ns).1
 | [], b, h, _ => h
 | n :: t, b, h, e => by
   unfold afE at e ⊢
   split
   ·rename_i h1; rw [if_pos h1] at e; exact absurd e h1
   ·rename_i h1
    rw [if_neg h1] at e
    exact ay5 (aHl h (by simpa using h1)) e
theorem amw : ∀ {ns : List (Int × Int)} {b : acC}, (afE b ns).2 = 0 → (afE b ns).1.2.1 = b.2.1
 | [], b, _ => rfl
 | n :: t, b, e => by
   unfold afE at e ⊢
   split
   ·rename_i h1; rw [if_pos h1] at e; exact absurd e h1
   ·rename_i h1
    rw [if_neg h1] at e
    rw [amw e, aKa (by simpa using h1)]
theorem adx.inn {b : acC} (h : adx b) (hn : ∀ g ∈ b.2.1, I64 g.2.2.2.2.1.1) : In b := ⟨h.size, hn⟩
theorem agj {b : acC} (h : adx b) : aG3 b = ((((ack b).length : Int) + 1, acy b), aeF b, 0) := by
 unfold aG3
 rw [if_neg (by simp [(acQ b).2 h])]
theorem asu {b : acC} (h : adx b) (n : Int × Int) : aM2 b n = if amu b n.1 n.2 = 0 then (0, 5) else (amu b n.1 n.2, 0) := by
 unfold aM2
 rw [if_neg (by simp [(acQ b).2 h])]
abbrev Flat : Type := Int × Int × List acY × List (Int × Int) × List aBO × List Cmp × List (Int × Int)
def flat (b : acC) : Flat := (b.1.1, b.1.2, b.2.1, b.2.2.1, b.2.2.2.1, b.2.2.2.2.1, b.2.2.2.2.2)
theorem ann (b : acC) : (((flat b).1, (flat b).2.1), (flat b).2.2) = b := rfl
section
variable {ρ : Type}
def aSN (ns : List (Int × Int)) (E1 : Int × Flat → Option ρ) (K1 : Flat → Option ρ) (b : acC) : Option ρ :=
 acp (fun (v : Int × Flat) kk => ac2 (acv ns) ns v.1 v.2.1 v.2.2.1 v.2.2.2.1 v.2.2.2.2.1 v.2.2.2.2.2.1 v.2.2.2.2.2.2.1 v.2.2.2.2.2.2.2 (fun u1 u2 u3 u4 u5 u6 u7 u8 => kk (u1, u2, u3, u4, u5, u6, u7, u8)) (fun z => E1 z) (fun z => K1 z)) ((0 : Int), b.1.1, b.1.2, b.2.1, b.2.2.1, b.2.2.2.1, b.2.2.2.2.1, b.2.2.2.2.2)
theorem aOG {ns : List (Int × Int)} (hl : ns.length ≤ 1000) {E1 : Int × Flat → Option ρ} {K1 : Flat → Option ρ} (R : Int → Option ρ) (h1 : ∀ z, z.1 ≠ 0 → E1 z = R z.1) {b : acC} (hg : adx b) (hn : ∀ g ∈ b.2.1, I64 g.2.2.2.2.1.1) :
 aSN ns E1 K1 b = if (afE b ns).2 ≠ 0 then R (afE b ns).2 else K1 (flat (afE b ns).1) := by
 unfold aSN
 refine aGu ns (fun (i : Nat) (s : Flat) (t : List (Int × Int)) => if (afE ((s.1, s.2.1), s.2.2) t).2 ≠ 0 then R (afE ((s.1, s.2.1), s.2.2) t).2 else K1 (flat (afE ((s.1, s.2.1), s.2.2) t).1))
  (fun i s => adx ((s.1, s.2.1), s.2.2) ∧ ∀ g ∈ s.2.2.1, I64 g.2.2.2.2.1.1) (fun s hs kn => ?_) (fun i n t s hd hi ha hs kn hk => ?_) (s := flat b) ⟨hg, hn⟩
 ·dsimp only
  unfold ac2
  rw [acL]
  rfl
 ·dsimp only
  unfold ac2
  obtain ⟨hs1, hs2⟩ := hs
  have hin : In ((s.1, s.2.1), s.2.2) := hs1.inn hs2
  rw [acs hi, afX hi, aes ha]
  rw [show ad8 ((s.1, s.2.1), s.2.2.1, s.2.2.2.1, s.2.2.2.2.1, s.2.2.2.2.2.1, s.2.2.2.2.2.2) n = ad8 ((s.1, s.2.1), s.2.2) n from rfl, aBP hin, ab8]
  rw [show ags ((s.1, s.2.1), s.2.2.1, s.2.2.2.1, s.2.2.2.2.1, s.2.2.2.2.2.1, s.2.2.2.2.2.2) n = ags ((s.1, s.2.1), s.2.2) n from rfl, aTB hin, ab8]
  rw [asu hs1]
  generalize hB : (((s.1, s.2.1), s.2.2) : acC) = B at hs1 hin ⊢
  have hu : afE B (n :: t) = if (ajK B n).2 ≠ 0 then (alB, (ajK B n).2) else afE (ajK B n).1 t := rfl
  rw [hu]
  by_cases h0 : amu B n.1 n.2 = 0
  ·rw [if_pos h0, acr (by rfl)]
   by_cases h2 : acN (ai0 B n) = 0
   ·have e : ajK B n = (ai0 B n, 0) := by unfold ajK; rw [if_neg (by simp [h0]), if_neg (by simp [h2])]
    have e2 : aN8 B n = (ai0 B n, 0) := by unfold aN8; rw [if_neg (by simp [(acQ B).2 hs1]), if_neg (by simp [h2])]
    rw [e2, e, acr (by rfl), aco hi (by omega), if_neg (show ¬ ((0 : Int) ≠ 0) by simp)]
    subst hB
    exact hk (s.1, s.2.1, s.2.2.1, s.2.2.2.1, s.2.2.2.2.1, s.2.2.2.2.2.1, s.2.2.2.2.2.2 ++ [n]) ⟨(acQ _).1 h2, hs2⟩
   ·have e : ajK B n = (alB, acN (ai0 B n)) := by unfold ajK; rw [if_neg (by simp [h0]), if_pos h2]
    have e2 : aN8 B n = (alB, acN (ai0 B n)) := by unfold aN8; rw [if_neg (by simp [(acQ B).2 hs1]), if_pos h2]
    rw [e2, e, acD (by simp [ine, h2]), if_pos h2, if_pos h2]
    exact h1 _ h2
  ·have e : ajK B n = (B, 0) := by unfold ajK; rw [if_pos h0]
   rw [if_neg h0, acD (by rfl), aco hi (by omega), e, if_neg (show ¬ ((0 : Int) ≠ 0) by simp)]
   subst hB
   exact hk s ⟨hs1, hs2⟩
theorem akv {b : acC} (hI : In b) {ns : List (Int × Int)} (hl : ns.length ≤ 1000) {E0 : Int → Option ρ} {E1 : Int × Flat → Option ρ} {E2 : Flat → Sys × List (Int × Int) × Int → Option ρ} {E3 : Flat → Sys × List (Int × Int) × Int → Bool × Int → Option ρ}
 {K : Flat → Sys × List (Int × Int) × Int → Bool × Int → Option ρ} (R : Int → Option ρ) (h0 : ∀ e, e ≠ 0 → E0 e = R e) (h1 : ∀ z, z.1 ≠ 0 → E1 z = R z.1) (h3 : ∀ z s r, E3 z s r = R 9) :
 acb (acW b) (fun r1 => ifb (ine r1 (0 : Int)) (E0 r1) (aSN ns E1 (fun z8 => acb (adu ((z8.1, z8.2.1), z8.2.2)) fun r9 => ifb (ine r9.2.2 (0 : Int)) (E2 z8 r9) (acb (adc r9.1) fun r10 => ifb (!r10.1) (E3 z8 r9 r10) (K z8 r9 r10))) b)) =
 if (adm b ns).2 ≠ 0 then R (adm b ns).2 else K (flat (adm b ns).1) ((((ack (adm b ns).1).length : Int) + 1, acy (adm b ns).1), aeF (adm b ns).1, 0) (true, 0) := by
 rw [af6 hI.size hI.num, ab8]
 unfold adm
 by_cases hc : acN b = 0
 ·have hg := (acQ b).1 hc
  rw [acr (by simp [ine, hc]), if_neg (show ¬ (acN b ≠ 0) from fun h => h hc), aOG hl R h1 hg hI.num]
  by_cases hr : (afE b ns).2 = 0
  ·rw [if_neg (show ¬ ((afE b ns).2 ≠ 0) from fun h => h hr), if_neg (show ¬ ((afE b ns).2 ≠ 0) from fun h => h hr)]
   have hB := ay5 hg hr
   have hBn : ∀ g ∈ (afE b ns).1.2.1, I64 g.2.2.2.2.1.1 := by rw [amw hr]; exact hI.num
   generalize (afE b ns).1 = B at hB hBn ⊢
   rw [ann, akn (hB.inn hBn), ab8, agj hB, acr (by rfl)]
   dsimp only
   rw [show (((ack B).length : Int) + 1) = (((ack B).length + 1 : Nat) : Int) by push_cast; rfl, au7 hB.sys, ab8]
   cases ho : ad5 (acy B) ((ack B).length + 1) with
   | true =>
     rw [if_neg (by simp)]
     simp only [Bool.not_true, acU]
     push_cast
     rfl
   | false =>
     rw [if_pos (by simp)]
     simp only [Bool.not_false, aeG]
     rw [h3]
     rfl
  ·rw [if_pos hr, if_pos hr, if_pos hr]
 ·rw [acD (by simp [ine, hc]), h0 _ hc, if_pos hc, if_pos hc]
end
end Go.Proofs.ZzM
end
noncomputable section
namespace Go.Proofs.ZzM
open Go Go.Am
def aJ7 (b : acC) (id day : Int) : Bool := b.2.2.1.any fun u => u.1 == id && u.2 == day
def aP0 (b : acC) (g : acY) (d : Int) : Int := match ayo b g.1 d with | some l => l.2.2 | none => if aJ7 b g.1 d then g.2.2.2.2.2 else 0
theorem aPo (l : aBO) (id : Int) {f t : Int} (hft : f ≤ t) : (if l.1 = id ∧ 0 < adi l f (t + 1) then adi l f (t + 1) * l.2.2 else 0) = (if l.1 = id ∧ 0 < adi l f t then adi l f t * l.2.2 else 0) + (if l.1 = id ∧ l.2.1.1 ≤ t ∧ t ≤ l.2.1.2 then l.2.2 else 0) := by
 by_cases hid : l.1 = id
 ·by_cases h1 : l.2.1.1 ≤ t ∧ t ≤ l.2.1.2
  ·have e : adi l f (t + 1) = adi l f t + 1 := by unfold adi; omega
   have p : 0 ≤ adi l f t := by unfold adi; omega
   rw [e, if_pos ⟨hid, by omega⟩, if_pos (show l.1 = id ∧ l.2.1.1 ≤ t ∧ t ≤ l.2.1.2 from ⟨hid, h1⟩), Int.add_mul, Int.one_mul]
   by_cases hp : 0 < adi l f t
   ·rw [if_pos ⟨hid, hp⟩]
   ·rw [if_neg (fun h => hp h.2)]
    have : adi l f t = 0 := by omega
    rw [this]
    omega
  ·rw [if_neg (show ¬ (l.1 = id ∧ l.2.1.1 ≤ t ∧ t ≤ l.2.1.2) from fun h => h1 h.2), Int.add_zero]
   by_cases hlo : l.2.1.1 ≤ t
   ·have e : adi l f (t + 1) = adi l f t := by unfold adi; omega
    rw [e]
   ·have p1 : ¬ 0 < adi l f (t + 1) := by unfold adi; omega
    have p2 : ¬ 0 < adi l f t := by unfold adi; omega
    rw [if_neg (fun h => p1 h.2), if_neg (fun h => p2 h.2)]
 ·rw [if_neg (fun h => hid h.1), if_neg (fun h => hid h.1), if_neg (fun h => hid h.1)]
  rfl
theorem aDX (id : Int) {f t : Int} (hft : f ≤ t) : ∀ {x : List aBO}, x.Pairwise (fun a c => ¬ (a.1 = c.1 ∧ a.2.1.1 ≤ c.2.1.2 ∧ c.2.1.1 ≤ a.2.1.2)) →
 adC id f (t + 1) x = adC id f t x + (match x.find? (fun l => l.1 == id && inP t l.2.1.1 l.2.1.2) with | some l => l.2.2 | none => 0)
 | [], _ => rfl
 | l :: r, hp => by
   rw [List.pairwise_cons] at hp
   have ih := aDX id hft hp.2
   simp only [adC]
   rw [ih, aPo l id hft, List.find?_cons]
   by_cases hm : l.1 = id ∧ l.2.1.1 ≤ t ∧ t ≤ l.2.1.2
   ·have e : (l.1 == id && inP t l.2.1.1 l.2.1.2) = true := by simp [inP, hm.1, hm.2.1, hm.2.2]
    have hn : r.find? (fun l => l.1 == id && inP t l.2.1.1 l.2.1.2) = none := by
     rw [List.find?_eq_none]
     intro c hc hcm
     simp only [inP, Bool.and_eq_true, beq_iff_eq, decide_eq_true_eq] at hcm
     exact hp.1 c hc ⟨by rw [hm.1, hcm.1], by omega, by omega⟩
    rw [if_pos hm, e, hn]
    simp only
    omega
   ·have e : (l.1 == id && inP t l.2.1.1 l.2.1.2) = false := by
     rw [Bool.eq_false_iff]
     intro h
     simp only [inP, Bool.and_eq_true, beq_iff_eq, decide_eq_true_eq] at h
     exact hm h
    rw [if_neg hm, e]
    simp only
    omega
section
variable {b : acC}
theorem adx.apart (h : adx b) : b.2.2.2.1.Pairwise (fun a c => ¬ (a.1 = c.1 ∧ a.2.1.1 ≤ c.2.1.2 ∧ c.2.1.1 ≤ a.2.1.2)) := by
 rw [List.pairwise_iff_getElem]
 intro i j hi hj hij ⟨h1, h2, h3⟩
 have hz := h.loans j _ (List.getElem?_eq_getElem hj)
 unfold aK7 at hz
 have hany : (b.2.2.2.1.take j).any (fun x => x.1 == b.2.2.2.1[j].1 && (decide (x.2.1.1 ≤ b.2.2.2.1[j].2.1.2) && decide (b.2.2.2.1[j].2.1.1 ≤ x.2.1.2))) = true := by
  rw [List.any_eq_true]
  exact ⟨b.2.2.2.1[i], List.mem_iff_getElem.2 ⟨i, by rw [List.length_take]; omega, by rw [List.getElem_take]⟩, by simp [h1, h2, h3]⟩
 rw [hany] at hz
 (repeat' split at hz) <;> first | omega | simp_all
theorem adx.notUsed (h : adx b) {id d : Int} {l : aBO} (hl : ayo b id d = some l) : aJ7 b id d = false := by
 have hm := List.mem_of_find?_eq_some hl
 have hp := List.find?_some hl
 simp only [inP, Bool.and_eq_true, beq_iff_eq, decide_eq_true_eq] at hp
 obtain ⟨j, hj, rfl⟩ := List.mem_iff_getElem.1 hm
 have hz := h.loans j _ (List.getElem?_eq_getElem hj)
 rw [Bool.eq_false_iff]
 intro hu
 obtain ⟨u, hu, hue⟩ := List.any_eq_true.1 hu
 simp only [Bool.and_eq_true, beq_iff_eq] at hue
 have hany : b.2.2.1.any (fun u => u.1 == b.2.2.2.1[j].1 && inP u.2 b.2.2.2.1[j].2.1.1 b.2.2.2.1[j].2.1.2) = true := by
  rw [List.any_eq_true]
  exact ⟨u, hu, by simp only [inP, Bool.and_eq_true, beq_iff_eq, decide_eq_true_eq]; exact ⟨by rw [hue.1, hp.1], by omega, by omega⟩⟩
 unfold aK7 at hz
 rw [hany] at hz
 (repeat' split at hz) <;> first | omega | simp_all
theorem aHc {id f t : Int} (hft : f ≤ t) : aJ2 (afW b id f (t + 1)) = aJ2 (afW b id f t) ++ if aJ7 b id t then [t] else [] := by
 have hm : ∀ t x, x ∈ afW b id f t ↔ aJ7 b id x = true ∧ f ≤ x ∧ x < t := by
  intro t x
  unfold afW aJ7
  simp only [List.mem_map, List.mem_filter, List.any_eq_true, inP, Bool.and_eq_true, beq_iff_eq, decide_eq_true_eq]
  constructor
  ·rintro ⟨u, ⟨h1, h2, h3, h4⟩, rfl⟩
   exact ⟨⟨u, h1, h2, rfl⟩, h3, by omega⟩
  ·rintro ⟨⟨u, h1, h2, rfl⟩, h3, h4⟩
   exact ⟨u, ⟨h1, h2, h3, by omega⟩, rfl⟩
 refine aTv (aKe _) ?_ fun x => ?_
 ·rw [List.pairwise_append]
  refine ⟨aKe _, by split <;> simp, fun a ha c hc => ?_⟩
  rw [apO, hm] at ha
  split at hc
  ·rw [List.mem_singleton] at hc; omega
  ·cases hc
 ·rw [apO, hm, List.mem_append, apO, hm]
  by_cases hu : aJ7 b id t = true
  ·rw [if_pos hu, List.mem_singleton]
   constructor
   ·rintro ⟨h1, h2, h3⟩
    by_cases he : x = t
    ·exact .inr he
    ·exact .inl ⟨h1, h2, by omega⟩
   ·rintro (⟨h1, h2, h3⟩ | rfl)
    ·exact ⟨h1, h2, by omega⟩
    ·exact ⟨hu, hft, by omega⟩
  ·rw [if_neg hu]
   constructor
   ·rintro ⟨h1, h2, h3⟩
    refine .inl ⟨h1, h2, ?_⟩
    by_cases he : x = t
    ·rw [he] at h1; exact absurd h1 hu
    ·omega
   ·rintro (⟨h1, h2, h3⟩ | h)
    ·exact ⟨h1, h2, by omega⟩
    ·cases h
theorem aI1 (h : adx b) (g : acY) {f t : Int} (hft : f ≤ t) : agW b g f (t + 1) = agW b g f t + aP0 b g t := by
 unfold agW aP0
 rw [aDX g.1 hft h.apart, aHc hft]
 show adC g.1 f t b.2.2.2.1 + (match ayo b g.1 t with | some l => l.2.2 | none => 0) + _ = _
 cases ha : ayo b g.1 t with
 | some l =>
   rw [h.notUsed ha]
   simp only [Bool.false_eq_true, if_false, List.append_nil]
   omega
 | none =>
   simp only
   cases aJ7 b g.1 t with
   | true => simp only [if_true, List.length_append, List.length_singleton, Int.natCast_add, Int.add_mul]; omega
   | false => simp only [Bool.false_eq_true, if_false, List.append_nil]; omega
theorem aI2 (g : acY) {f t : Int} (hft : t ≤ f) : agW b g f t = 0 := by
 unfold agW
 have h1 : ∀ x : List aBO, adC g.1 f t x = 0 := by
  intro x
  induction x with
  | nil => rfl
  | cons l r ih =>
    simp only [adC]
    rw [ih, if_neg (by unfold adi; omega)]
    rfl
 have h2 : afW b g.1 f t = [] := by
  unfold afW
  rw [List.filter_eq_nil_iff.2 fun u hu hc => by
   simp only [inP, Bool.and_eq_true, beq_iff_eq, decide_eq_true_eq] at hc
   omega]
  rfl
 rw [h1, h2]
 have h3 : aJ2 ([] : List Int) = [] := rfl
 rw [h3]
 simp
end
end Go.Proofs.ZzM
end
noncomputable section
namespace Go.Proofs.ZzM
open Go Go.Am
section
variable {b : acC}
theorem ayG (h : adx b) (g : acY) {f t u : Int} (h1 : f ≤ t) (h2 : t ≤ u) : agW b g f u = agW b g f t + agW b g t u := by
 obtain ⟨n, rfl⟩ : ∃ n : Nat, u = t + n := ⟨(u - t).toNat, by omega⟩
 clear h2
 induction n with
 | zero => simp [aI2]
 | succ n ih =>
   have e : t + ((n + 1 : Nat) : Int) = (t + n) + 1 := by omega
   rw [e, aI1 h g (show f ≤ t + (n : Int) by omega), aI1 h g (show t ≤ t + (n : Int) by omega), ih]
   omega
theorem asd (h : adx b) {g : acY} (hg : g ∈ b.2.1) {f t : Int} (hf : 0 ≤ f) : 0 ≤ agW b g f t := (anh h hg hf).1
def aeH (b : acC) (id d : Int) : Int := match agy (ack b) id d with | some j => (j : Int) + 1 | none => 0
theorem akx (h : adx b) {i : Nat} {g : acY} (hg : b.2.1[i]? = some g) {k : Nat} {d : Int} (hk : (acB b g)[k]? = some d) : aeH b g.1 d = (off b i : Int) + k + 1 := by
 unfold aeH
 rw [aEZ h hg hk]
 simp only
 omega
structure ako (b : acC) (p : Int → Int) (g : acY) : Prop where
 hi : p (aeH b g.1 g.2.1) ≤ p 0 + (g.2.2.1 + g.2.2.2.1.2)
 lo : p 0 + (g.2.2.1 + g.2.2.2.1.1) ≤ p (aeH b g.1 g.2.1)
 down : ∀ d e, d ∈ acB b g → e ∈ acB b g → d ≤ e → p (aeH b g.1 e) ≤ p (aeH b g.1 d)
 loss : ∀ d e, d ∈ acB b g → e ∈ acB b g → d ≤ e → p (aeH b g.1 d) ≤ p (aeH b g.1 e) + agW b g d e
theorem ajm (h : adx b) {i : Nat} {g : acY} (hg : b.2.1[i]? = some g) {p : Int → Int} : (∀ l ∈ adt b g, p l.2.1 ≤ p l.1 + l.2.2) ↔ ako b p g := by
 have hgm := List.mem_of_getElem? hg
 obtain ⟨tl, htl⟩ := aJx h hgm
 have h0 : aeH b g.1 g.2.1 = (off b i : Int) + 1 := by
  have := akx h hg (k := 0) (d := g.2.1) (by rw [htl]; rfl)
  rw [this]
  omega
 constructor
 ·intro hl
  have e1 := hl _ ((adG h hg).2 (.inl rfl))
  have e2 := hl _ ((adG h hg).2 (.inr (.inl rfl)))
  simp only at e1 e2
  have step : ∀ (k : Nat) (d e : Int), (acB b g)[k]? = some d → (acB b g)[k + 1]? = some e → p (aeH b g.1 e) ≤ p (aeH b g.1 d) ∧ p (aeH b g.1 d) ≤ p (aeH b g.1 e) + agW b g d e := by
   intro k d e hd he
   have a1 := hl _ ((adG h hg).2 (.inr (.inr ⟨k, d, e, hd, he, .inl rfl⟩)))
   have a2 := hl _ ((adG h hg).2 (.inr (.inr ⟨k, d, e, hd, he, .inr rfl⟩)))
   simp only at a1 a2
   rw [akx h hg hd, akx h hg he]
   have e3 : (off b i : Int) + ((k + 1 : Nat) : Int) + 1 = (off b i : Int) + k + 2 := by omega
   rw [e3]
   exact ⟨by omega, a2⟩
  have pair : ∀ (n k : Nat) (d e : Int), (acB b g)[k]? = some d → (acB b g)[k + n]? = some e → p (aeH b g.1 e) ≤ p (aeH b g.1 d) ∧ p (aeH b g.1 d) ≤ p (aeH b g.1 e) + agW b g d e := by
   intro n
   induction n with
   | zero =>
     intro k d e hd he
     rw [Nat.add_zero, hd] at he
     cases he
     rw [aI2 g (Int.le_refl _)]
     omega
   | succ n ih =>
     intro k d e hd he
     have hlt := (List.getElem?_eq_some_iff.1 he).1
     have hm : (acB b g)[k + n]? = some ((acB b g)[k + n]'(by omega)) := List.getElem?_eq_getElem (by omega)
     obtain ⟨a1, a2⟩ := ih k d _ hd hm
     obtain ⟨a3, a4⟩ := step (k + n) _ e hm he
     have o1 : d ≤ (acB b g)[k + n]'(by omega) := by
      obtain ⟨hkl, hkd⟩ := List.getElem?_eq_some_iff.1 hd
      rcases Nat.eq_zero_or_pos n with rfl | hn
      ·rw [← hkd]; exact Int.le_of_eq (by congr 1)
      ·have := (List.pairwise_iff_getElem.1 (asq b g)) k (k + n) hkl (by omega) (by omega)
       rw [hkd] at this; omega
     have o2 : (acB b g)[k + n]'(by omega) ≤ e := by
      obtain ⟨hel, hee⟩ := List.getElem?_eq_some_iff.1 he
      have := (List.pairwise_iff_getElem.1 (asq b g)) (k + n) (k + (n + 1)) (by omega) hel (by omega)
      rw [hee] at this; omega
     have := ayG h g o1 o2
     omega
  have any : ∀ d e, d ∈ acB b g → e ∈ acB b g → d ≤ e → p (aeH b g.1 e) ≤ p (aeH b g.1 d) ∧ p (aeH b g.1 d) ≤ p (aeH b g.1 e) + agW b g d e := by
   intro d e hd he hde
   obtain ⟨k, hk, rfl⟩ := List.mem_iff_getElem.1 hd
   obtain ⟨m, hm, rfl⟩ := List.mem_iff_getElem.1 he
   have hkm : k ≤ m := by
    rcases Nat.lt_or_ge m k with hlt | hge
    ·have := (List.pairwise_iff_getElem.1 (asq b g)) m k hm hk hlt; omega
    ·exact hge
   exact pair (m - k) k _ _ (List.getElem?_eq_getElem hk) (by rw [show k + (m - k) = m by omega]; exact List.getElem?_eq_getElem hm)
  exact ⟨by rw [h0]; omega, by rw [h0]; omega, fun d e hd he hde => (any d e hd he hde).1, fun d e hd he hde => (any d e hd he hde).2⟩
 ·intro hf l hl
  rcases (adG h hg).1 hl with rfl | rfl | ⟨k, d, e, hd, he, rfl | rfl⟩
  ·have := hf.hi; rw [h0] at this; simp only; omega
  ·have := hf.lo; rw [h0] at this; simp only; omega
  ·have hde : d ≤ e := by
    obtain ⟨a1, a2⟩ := List.getElem?_eq_some_iff.1 hd
    obtain ⟨a3, a4⟩ := List.getElem?_eq_some_iff.1 he
    have := (List.pairwise_iff_getElem.1 (asq b g)) k (k + 1) a1 a3 (by omega)
    rw [a2, a4] at this; omega
   have := hf.down d e (List.mem_of_getElem? hd) (List.mem_of_getElem? he) hde
   rw [akx h hg hd, akx h hg he] at this
   have e3 : (off b i : Int) + ((k + 1 : Nat) : Int) + 1 = (off b i : Int) + k + 2 := by omega
   rw [e3] at this
   simp only
   omega
  ·have hde : d ≤ e := by
    obtain ⟨a1, a2⟩ := List.getElem?_eq_some_iff.1 hd
    obtain ⟨a3, a4⟩ := List.getElem?_eq_some_iff.1 he
    have := (List.pairwise_iff_getElem.1 (asq b g)) k (k + 1) a1 a3 (by omega)
    rw [a2, a4] at this; omega
   have := hf.loss d e (List.mem_of_getElem? hd) (List.mem_of_getElem? he) hde
   rw [akx h hg hd, akx h hg he] at this
   have e3 : (off b i : Int) + ((k + 1 : Nat) : Int) + 1 = (off b i : Int) + k + 2 := by omega
   rw [e3] at this
   simp only
   exact this
theorem aEN (h : adx b) {p : Int → Int} : Pot (acy b) p ↔ (∀ g ∈ b.2.1, ako b p g) ∧ ∀ c ∈ b.2.2.2.2.1, p (cx b c) ≤ p (cy b c) + (aeO b c).2 ∧ p (cy b c) + (aeO b c).1 ≤ p (cx b c) := by
 constructor
 ·intro hp
  refine ⟨fun g hg => ?_, fun c hc => ?_⟩
  ·obtain ⟨i, hi, rfl⟩ := List.mem_iff_getElem.1 hg
   exact (ajm h (List.getElem?_eq_getElem hi)).1 fun l hl => hp l.1 l.2.1 l.2.2 (ajB.2 (.inl ⟨i, _, List.getElem?_eq_getElem hi, hl⟩))
  ·have a1 := hp _ _ _ (ajB.2 (.inr ⟨c, hc, .inl rfl⟩))
   have a2 := hp _ _ _ (ajB.2 (.inr ⟨c, hc, .inr rfl⟩))
   omega
 ·rintro ⟨hg, hc⟩ u v m hl
  rcases ajB.1 hl with ⟨i, g, hig, hl⟩ | ⟨c, hcm, hl⟩
  ·exact (ajm h hig).2 (hg g (List.mem_of_getElem? hig)) (u, v, m) hl
  ·obtain ⟨a1, a2⟩ := hc c hcm
   rcases hl with hl | hl
   ·obtain ⟨rfl, rfl, rfl⟩ : u = cy b c ∧ v = cx b c ∧ m = (aeO b c).2 := by simpa using hl
    exact a1
   ·obtain ⟨rfl, rfl, rfl⟩ : u = cx b c ∧ v = cy b c ∧ m = -(aeO b c).1 := by simpa using hl
    omega
end
end Go.Proofs.ZzM
end
noncomputable section
namespace Go.Proofs.ZzM
open Go Go.Am
def aSq : List Int → Int
 | [] => 0
 | [a] => a
 | a :: b :: t => max a (aSq (b :: t))
theorem aH6 : ∀ {l : List Int}, l ≠ [] → (∀ a ∈ l, a ≤ aSq l) ∧ aSq l ∈ l
 | [], h => absurd rfl h
 | [a], _ => ⟨fun x hx => by rw [List.mem_singleton] at hx; rw [hx]; exact Int.le_refl _, by simp [aSq]⟩
 | a :: b :: t, _ => by
   obtain ⟨h1, h2⟩ := aH6 (l := b :: t) (by simp)
   have e : aSq (a :: b :: t) = max a (aSq (b :: t)) := rfl
   rw [e]
   constructor
   ·intro x hx
    rcases List.mem_cons.1 hx with rfl | hx
    ·omega
    ·have := h1 x hx; omega
   ·rcases Int.le_total a (aSq (b :: t)) with h | h
    ·rw [Int.max_eq_right h]; exact List.mem_cons_of_mem _ h2
    ·rw [Int.max_eq_left h]; exact List.mem_cons_self
section
variable {b : acC}
def aza (b : acC) (f : Int → Int → Int) (z : Int) (v : Int) : Int := if v = 0 then z else match (ack b)[(v - 1).toNat]? with | some n => f n.1 n.2 | none => 0
theorem ait (f : Int → Int → Int) (z : Int) : aza b f z 0 = z := by unfold aza; rw [if_pos rfl]
theorem aoj (h : adx b) (f : Int → Int → Int) (z : Int) {g : acY} (hg : g ∈ b.2.1) {d : Int} (hd : d ∈ acB b g) : aza b f z (aeH b g.1 d) = f g.1 d := by
 obtain ⟨i, hi, rfl⟩ := List.mem_iff_getElem.1 hg
 obtain ⟨k, hk, rfl⟩ := List.mem_iff_getElem.1 hd
 have hgi := List.getElem?_eq_getElem hi
 have hdk := List.getElem?_eq_getElem hk
 rw [akx h hgi hdk]
 unfold aza
 have e : ((off b i : Int) + k + 1 - 1).toNat = off b i + k := by omega
 rw [if_neg (by omega), e, aRk hgi hdk]
def ayn (b : acC) (l : List Int) (d : Int) : Int := match l with | [] => 0 | x :: _ => aeH b x d
theorem aMV (l : List Int) (d : Int) : atP (ack b) l d = ayn b l d := by
 unfold atP ayn aeH
 cases l <;> rfl
theorem awx (c : Cmp) : cx b c = ayn b (adb c.2.2.1 c.2.2.2.1) c.2.1 := aMV _ _
theorem aww (c : Cmp) : cy b c = ayn b (adb c.2.2.2.1 c.2.2.1) c.2.1 := aMV _ _
theorem ajl (h : adx b) {c : Cmp} (hc : c ∈ b.2.2.2.2.1) {x : Int} (hx : x ∈ adb c.2.2.1 c.2.2.2.1 ∨ x ∈ adb c.2.2.2.1 c.2.2.1) : ∃ g ∈ b.2.1, g.1 = x ∧ c.2.1 ∈ acB b g := by
 have hx' : (x ∈ c.2.2.1 ∧ x ∉ c.2.2.2.1) ∨ (x ∈ c.2.2.2.1 ∧ x ∉ c.2.2.1) := by
  rcases hx with hx | hx
  ·exact .inl (aiJ.1 hx)
  ·exact .inr (aiJ.1 hx)
 have hm : x ∈ c.2.2.1 ++ c.2.2.2.1 := by rw [List.mem_append]; exact hx'.imp (·.1) (·.1)
 obtain ⟨⟨g, hg, _⟩, _⟩ := h.pile hc hm
 obtain ⟨hgm, hid⟩ := ak2 hg
 refine ⟨g, hgm, hid, aiP.2 (.inr (.inl ⟨c, hc, ?_, rfl⟩))⟩
 rw [hid]
 intro he
 rw [Bool.eq_iff_iff, List.contains_iff_mem, List.contains_iff_mem] at he
 rcases hx' with ⟨a, e⟩ | ⟨a, e⟩
 ·exact e (he.1 a)
 ·exact e (he.2 a)
def fill (b : acC) (p : Int → Int) (g : acY) (d : Int) : Int := aSq ((acB b g).map fun e => if d ≤ e then p (aeH b g.1 e) else p (aeH b g.1 e) - agW b g e d)
theorem aA9 {p : Int → Int} {g : acY} (d : Int) : (∀ e ∈ acB b g, (if d ≤ e then p (aeH b g.1 e) else p (aeH b g.1 e) - agW b g e d) ≤ fill b p g d) ∧ ∃ e ∈ acB b g, fill b p g d = if d ≤ e then p (aeH b g.1 e) else p (aeH b g.1 e) - agW b g e d := by
 have hne : ((acB b g).map fun e => if d ≤ e then p (aeH b g.1 e) else p (aeH b g.1 e) - agW b g e d) ≠ [] := by
  intro h
  have := List.map_eq_nil_iff.1 h
  have h2 := air (b := b) g
  rw [this] at h2
  cases h2
 obtain ⟨h1, h2⟩ := aH6 hne
 refine ⟨fun e he => h1 _ (List.mem_map.2 ⟨e, he, rfl⟩), ?_⟩
 obtain ⟨e, he, hx⟩ := List.mem_map.1 h2
 exact ⟨e, he, hx.symm⟩
theorem ayI (h : adx b) {p : Int → Int} {g : acY} (hg : g ∈ b.2.1) (hf : ako b p g) {d : Int} (hd : d ∈ acB b g) : fill b p g d = p (aeH b g.1 d) := by
 obtain ⟨h1, e, he, h2⟩ := aA9 (b := b) (p := p) (g := g) d
 have h3 := h1 d hd
 rw [if_pos (Int.le_refl _)] at h3
 have h4 : fill b p g d ≤ p (aeH b g.1 d) := by
  rw [h2]
  split
  ·rename_i hde
   exact hf.down d e hd he hde
  ·rename_i hde
   have := hf.loss e d he hd (by omega)
   omega
 omega
theorem auL (h : adx b) {p : Int → Int} {g : acY} (hg : g ∈ b.2.1) (hf : ako b p g) {d e : Int} (h0 : g.2.1 ≤ d) (hde : d ≤ e) : fill b p g e ≤ fill b p g d ∧ fill b p g d ≤ fill b p g e + agW b g d e := by
 obtain ⟨a1, x, hx, a2⟩ := aA9 (b := b) (p := p) (g := g) d
 obtain ⟨b1, y, hy, b2⟩ := aA9 (b := b) (p := p) (g := g) e
 have hm := (h.gaugeR hg).2.2.2.2.1
 have hl := asd h hg (f := d) (t := e) (by omega)
 have dx := h.day hg hx
 have dy := h.day hg hy
 constructor
 ·have q := a1 y hy
  rw [b2]
  by_cases c1 : e ≤ y
  ·rw [if_pos c1]
   rw [if_pos (by omega)] at q
   exact q
  ·rw [if_neg c1]
   by_cases c2 : d ≤ y
   ·rw [if_pos c2] at q
    have := asd h hg (f := y) (t := e) dy.2.1
    omega
   ·rw [if_neg c2] at q
    have := ayG h g (f := y) (t := d) (u := e) (by omega) hde
    omega
 ·have q := b1 x hx
  rw [a2]
  by_cases c1 : d ≤ x
  ·rw [if_pos c1]
   by_cases c2 : e ≤ x
   ·rw [if_pos c2] at q
    omega
   ·rw [if_neg c2] at q
    have := ayG h g (f := d) (t := x) (u := e) c1 (by omega)
    have := asd h hg (f := d) (t := x) (by omega)
    omega
  ·rw [if_neg c1]
   rw [if_neg (by omega)] at q
   have := ayG h g (f := x) (t := d) (u := e) (by omega) hde
   omega
end
end Go.Proofs.ZzM
end
noncomputable section
namespace Go.Proofs.ZzM
open Go Go.Am
section
variable {b : acC} {c : Cmp}
theorem aLe : acM (acz b c) = (acz b c).2.1.flatMap (adt (acz b c)) ++ b.2.2.2.2.1.flatMap (ac7 (acz b c)) := by
 unfold acM
 have e : acy (acz b c) = ((acz b c).2.1.flatMap (adt (acz b c)) ++ b.2.2.2.2.1.flatMap (ac7 (acz b c))) ++ ac7 (acz b c) c := by
  unfold acy
  rw [show (acz b c).2.2.2.2.1 = b.2.2.2.2.1 ++ [c] from rfl, List.flatMap_append, List.append_assoc]
  simp
 rw [e, List.length_append, show (ac7 (acz b c) c).length = 2 from rfl, Nat.add_sub_cancel, List.take_left]
theorem auI (h' : adx (acz b c)) {p : Int → Int} : Pot (acM (acz b c)) p ↔ (∀ g ∈ b.2.1, ako (acz b c) p g) ∧ ∀ d ∈ b.2.2.2.2.1, p (cx (acz b c) d) ≤ p (cy (acz b c) d) + (aeO b d).2 ∧ p (cy (acz b c) d) + (aeO b d).1 ≤ p (cx (acz b c) d) := by
 rw [aLe]
 constructor
 ·intro hp
  refine ⟨fun g hg => ?_, fun d hd => ?_⟩
  ·obtain ⟨i, hi, rfl⟩ := List.mem_iff_getElem.1 hg
   exact (ajm h' (i := i) (List.getElem?_eq_getElem hi)).1 fun l hl => hp l.1 l.2.1 l.2.2 (List.mem_append.2 (.inl (List.mem_flatMap.2 ⟨_, List.getElem_mem hi, hl⟩)))
  ·have a1 := hp (cy (acz b c) d) (cx (acz b c) d) (aeO (acz b c) d).2 (List.mem_append.2 (.inr (List.mem_flatMap.2 ⟨d, hd, by simp [ac7]⟩)))
   have a2 := hp (cx (acz b c) d) (cy (acz b c) d) (-(aeO (acz b c) d).1) (List.mem_append.2 (.inr (List.mem_flatMap.2 ⟨d, hd, by simp [ac7]⟩)))
   have e : aeO (acz b c) d = aeO b d := rfl
   rw [e] at a1 a2
   omega
 ·rintro ⟨hg, hc⟩ u v m hl
  rcases List.mem_append.1 hl with hl | hl
  ·obtain ⟨g, hgm, hl⟩ := List.mem_flatMap.1 hl
   obtain ⟨i, hi, rfl⟩ := List.mem_iff_getElem.1 hgm
   exact (ajm h' (i := i) (List.getElem?_eq_getElem hi)).2 (hg _ hgm) (u, v, m) hl
  ·obtain ⟨d, hd, hl⟩ := List.mem_flatMap.1 hl
   obtain ⟨a1, a2⟩ := hc d hd
   have e : aeO (acz b c) d = aeO b d := rfl
   simp only [ac7, List.mem_cons, List.not_mem_nil, or_false, e] at hl
   rcases hl with hl | hl
   ·obtain ⟨rfl, rfl, rfl⟩ : u = cy (acz b c) d ∧ v = cx (acz b c) d ∧ m = (aeO b d).2 := by simpa using hl
    exact a1
   ·obtain ⟨rfl, rfl, rfl⟩ : u = cx (acz b c) d ∧ v = cy (acz b c) d ∧ m = -(aeO b d).1 := by simpa using hl
    omega
theorem akk {g : acY} {d : Int} (hd : d ∈ acB b g) : d ∈ acB (acz b c) g := by
 rcases aiP.1 hd with e | ⟨x, hx, h1, h2⟩ | hn
 ·exact aiP.2 (.inl e)
 ·exact aiP.2 (.inr (.inl ⟨x, List.mem_append.2 (.inl hx), h1, h2⟩))
 ·exact aiP.2 (.inr (.inr hn))
theorem aPh (g : acY) (f t : Int) : agW (acz b c) g f t = agW b g f t := rfl
theorem awC {b' : acC} (h' : adx b') {l : List Int} {day : Int} (f : Int → Int → Int) (z : Int) (hl : ∀ x ∈ l, ∃ g ∈ b'.2.1, g.1 = x ∧ day ∈ acB b' g) : aza b' f z (ayn b' l day) = match l with | [] => z | x :: _ => f x day := by
 unfold ayn
 cases l with
 | nil => exact ait f z
 | cons x t =>
   obtain ⟨g, hg, rfl, hd⟩ := hl x (by simp)
   exact aoj h' f z hg hd
theorem aOT (h : adx b) (h' : adx (acz b c)) : (∃ p, Pot (acy b) p) ↔ ∃ p, Pot (acM (acz b c)) p := by
 constructor
 ·rintro ⟨p, hp⟩
  obtain ⟨hg, hc⟩ := (aEN h).1 hp
  let f : Int → Int → Int := fun id d => match ahx b id with | some g => fill b p g d | none => 0
  have hfv : ∀ g ∈ b.2.1, ∀ d, f g.1 d = fill b p g d := fun g hgm d => by
   show (match ahx b g.1 with | some g => fill b p g d | none => 0) = _
   rw [asg h.ids hgm]
  have hq : ∀ g ∈ b.2.1, ∀ d ∈ acB (acz b c) g, aza (acz b c) f (p 0) (aeH (acz b c) g.1 d) = fill b p g d := fun g hgm d hd => by
   rw [aoj h' f (p 0) hgm hd, hfv g hgm d]
  refine ⟨aza (acz b c) f (p 0), (auI h').2 ⟨fun g hgm => ?_, fun d hd => ?_⟩⟩
  ·have gf := hg g hgm
   have hmade : g.2.1 ∈ acB b g := air g
   have e0 := hq g hgm g.2.1 (air g)
   rw [ayI h hgm gf hmade] at e0
   refine ⟨?_, ?_, fun x y hx hy hxy => ?_, fun x y hx hy hxy => ?_⟩
   ·rw [e0, ait]; exact gf.hi
   ·rw [e0, ait]; exact gf.lo
   ·rw [hq g hgm x hx, hq g hgm y hy]
    exact (auL h hgm gf (h'.day hgm hx).1 hxy).1
   ·rw [hq g hgm x hx, hq g hgm y hy, aPh]
    exact (auL h hgm gf (h'.day hgm hx).1 hxy).2
  ·have key : ∀ l : List Int, (∀ x ∈ l, ∃ g ∈ b.2.1, g.1 = x ∧ d.2.1 ∈ acB b g) → aza (acz b c) f (p 0) (ayn (acz b c) l d.2.1) = p (ayn b l d.2.1) := by
    intro l hl
    rw [awC h' f (p 0) (fun x hx => by obtain ⟨g, q1, q2, q3⟩ := hl x hx; exact ⟨g, q1, q2, akk q3⟩)]
    cases l with
    | nil => rfl
    | cons x t =>
      obtain ⟨g, q1, rfl, q3⟩ := hl x (by simp)
      show f g.1 d.2.1 = p (aeH b g.1 d.2.1)
      rw [hfv g q1, ayI h q1 (hg g q1) q3]
   rw [awx, aww, key _ (fun x hx => ajl h hd (.inl hx)), key _ (fun x hx => ajl h hd (.inr hx)), ← awx, ← aww]
   exact hc d hd
 ·rintro ⟨p, hp⟩
  obtain ⟨hg, hc⟩ := (auI h').1 hp
  let f : Int → Int → Int := fun id d => p (aeH (acz b c) id d)
  have hq : ∀ g ∈ b.2.1, ∀ d ∈ acB b g, aza b f (p 0) (aeH b g.1 d) = p (aeH (acz b c) g.1 d) := fun g hgm d hd => aoj h f (p 0) hgm hd
  refine ⟨aza b f (p 0), (aEN h).2 ⟨fun g hgm => ?_, fun d hd => ?_⟩⟩
  ·have gf := hg g hgm
   have e0 := hq g hgm g.2.1 (air g)
   refine ⟨?_, ?_, fun x y hx hy hxy => ?_, fun x y hx hy hxy => ?_⟩
   ·rw [e0, ait]; exact gf.hi
   ·rw [e0, ait]; exact gf.lo
   ·rw [hq g hgm x hx, hq g hgm y hy]
    exact gf.down x y (akk hx) (akk hy) hxy
   ·rw [hq g hgm x hx, hq g hgm y hy]
    exact gf.loss x y (akk hx) (akk hy) hxy
  ·have key : ∀ l : List Int, (∀ x ∈ l, ∃ g ∈ b.2.1, g.1 = x ∧ d.2.1 ∈ acB b g) → aza b f (p 0) (ayn b l d.2.1) = p (ayn (acz b c) l d.2.1) := by
    intro l hl
    rw [awC h f (p 0) hl]
    cases l <;> rfl
   rw [awx, aww, key _ (fun x hx => ajl h hd (.inl hx)), key _ (fun x hx => ajl h hd (.inr hx)), ← awx, ← aww]
   exact hc d hd
end
end Go.Proofs.ZzM
end
noncomputable section
namespace Go.Proofs.ZzM
open Go Go.Am
section
variable {L : List Lk} {N : Nat}
theorem Wl.app {u v : Int} {vs : List Int} {d : Int} (h1 : Wl L (fun x => x = u) vs v d) {ws : List Int} {w e : Int} (h2 : Wl L (fun x => x = v) ws w e) : ∃ xs, Wl L (fun x => x = u) xs w (d + e) := by
 induction h2 with
 | nil h => subst h; exact ⟨vs, by rw [Int.add_zero]; exact h1⟩
 | step hw hx ih =>
   obtain ⟨xs, hi⟩ := ih
   have := Wl.step hi hx
   rw [Int.add_assoc] at this
   exact ⟨_, this⟩
def dst (L : List Lk) (N : Nat) (s t : Int) : Int := gv (alA L N s) t
theorem aPV (h : afY L N) (ht : aBM L N) (ho : ad5 L N = true) {s t : Int} (hs : 0 ≤ s ∧ s < N) (hv : 0 ≤ t ∧ t < N) : dst L N s t ≤ 9007199254740992 := by
 have h2 := h.n60
 obtain ⟨p, hp⟩ := (afQ h.links (by omega)).1 ho
 obtain ⟨vs, d, hw, hd⟩ := ht.from' s hs.1 hs.2
 obtain ⟨ws, e, hx, he⟩ := ht.to t hv.1 hv.2
 obtain ⟨xs, hy⟩ := Wl.app hw hx
 have := (aii h.links (by omega) hp hs).low t xs _ (aOV.2 hy)
 unfold dst
 omega
theorem aPU (h : afY L N) (ht : aBM L N) (ho : ad5 L N = true) {s t : Int} (hs : 0 ≤ s ∧ s < N) (hv : 0 ≤ t ∧ t < N) : dst L N s t ≠ afx := by
 have := aPV h ht ho hs hv
 unfold afx
 omega
theorem aPT (h : afY L N) (ht : aBM L N) (ho : ad5 L N = true) {s : Int} (hs : 0 ≤ s ∧ s < N) : Pot L (dst L N s) := by
 have h2 := h.n60
 obtain ⟨p, hp⟩ := (afQ h.links (by omega)).1 ho
 intro u v m hl
 have hr := h.inr _ hl
 exact (aii h.links (by omega) hp hs).pot h.inr hl (aPU h ht ho hs hr.1)
theorem aMI (h : afY L N) (ho : ad5 L N = true) {s : Int} (hs : 0 ≤ s ∧ s < N) : dst L N s s = 0 := aLC h ho hs.1 hs.2
theorem aso (h : afY L N) (ht : aBM L N) (ho : ad5 L N = true) {s t : Int} (hs : 0 ≤ s ∧ s < N) (hv : 0 ≤ t ∧ t < N) {p : Int → Int} (hp : Pot L p) : p t - p s ≤ dst L N s t := by
 have h2 := h.n60
 obtain ⟨vs, hw⟩ := (aii h.links (by omega) hp hs).att t hv.1 hv.2 (aPU h ht ho hs hv)
 obtain ⟨u, hu, hx⟩ := (aOV.1 hw).pot hp
 subst hu
 exact hx
theorem aPW (h : afY L N) (ht : aBM L N) (ho : ad5 L N = true) {x y : Int} (hx : 0 ≤ x ∧ x < N) (hy : 0 ≤ y ∧ y < N) {t : Int} (h1 : -(dst L N x y) ≤ t) (h2 : t ≤ dst L N y x) : ∃ p, Pot L p ∧ p x - p y = t := by
 refine ⟨fun v => min (dst L N y v) (dst L N x v + t), fun u v m hl => ?_, ?_⟩
 ·have a1 := aPT h ht ho hy u v m hl
  have a2 := aPT h ht ho hx u v m hl
  show min _ _ ≤ min _ _ + m
  omega
 ·have e1 := aMI h ho hx
  have e2 := aMI h ho hy
  show min (dst L N y x) (dst L N x x + t) - min (dst L N y y) (dst L N x y + t) = t
  omega
theorem aBk (h : afY L N) (ht : aBM L N) (ho : ad5 L N = true) {x y : Int} (hx : 0 ≤ x ∧ x < N) (hy : 0 ≤ y ∧ y < N) : -(dst L N x y) ≤ dst L N y x := by
 have h2 := h.n60
 obtain ⟨p, hp⟩ := (afQ h.links (by omega)).1 ho
 have a1 := aso h ht ho hx hy hp
 have a2 := aso h ht ho hy hx hp
 omega
theorem aMJ (h : afY L N) (ht : aBM L N) (ho : ad5 L N = true) {s t : Int} (hs : 0 ≤ s ∧ s < N) (hv : 0 ≤ t ∧ t < N) : -9007199254740992 ≤ dst L N s t ∧ dst L N s t ≤ 9007199254740992 := by
 have a1 := aPV h ht ho hs hv
 have a2 := aPV h ht ho hv hs
 have a3 := aBk h ht ho hv hs
 omega
theorem aqj (h : afY L N) (ht : aBM L N) {s t : Int} (hs : 0 ≤ s ∧ s < N) (hv : 0 ≤ t ∧ t < N) : afv L N s t = if ad5 L N then (dst L N s t, 0) else (0, 9) := by
 unfold afv
 by_cases ho : ad5 L N = true
 ·have hne := aPU h ht ho hs hv
  unfold dst at hne ⊢
  rw [if_neg (by simp [ho]), if_neg hne, if_pos ho]
 ·rw [if_pos (by simpa using ho), if_neg ho]
end
section
variable {b : acC} {c : Cmp}
theorem aS8 (h' : adx (acz b c)) : GL (acz b c) (acM (acz b c)) := by
 intro i g hg l hl
 rw [aLe]
 exact List.mem_append.2 (.inl (List.mem_flatMap.2 ⟨g, List.mem_of_getElem? hg, hl⟩))
theorem afs (h' : adx (acz b c)) : aBM (acM (acz b c)) ((ack (acz b c)).length + 1) := h'.tiedL (aS8 h')
theorem afj (h' : adx (acz b c)) : afY (acM (acz b c)) ((ack (acz b c)).length + 1) :=
 h'.sys.sub (fun l hl => List.mem_of_mem_take hl) (by unfold acM; rw [List.length_take]; omega)
theorem ahv (h : adx b) (h' : adx (acz b c)) : ad5 (acM (acz b c)) ((ack (acz b c)).length + 1) = ad5 (acy b) ((ack b).length + 1) := by
 have n1 := h.sys.n60
 have n2 := (afj h').n60
 rw [Bool.eq_iff_iff, afQ (afj h').links (by omega), afQ h.sys.links (by omega)]
 exact (aOT h h').symm
theorem apR : c ∈ (acz b c).2.2.2.2.1 := by simp [acz]
theorem apy (h' : adx (acz b c)) : 0 ≤ cx (acz b c) c ∧ cx (acz b c) c < ((ack (acz b c)).length + 1 : Nat) := (aGK h' apR).rng
theorem apx (h' : adx (acz b c)) : 0 ≤ cy (acz b c) c ∧ cy (acz b c) c < ((ack (acz b c)).length + 1 : Nat) := (aBn h' apR).rng
def dLo (b : acC) (c : Cmp) : Int := -(dst (acM (acz b c)) ((ack (acz b c)).length + 1) (cx (acz b c) c) (cy (acz b c) c))
def dHi (b : acC) (c : Cmp) : Int := dst (acM (acz b c)) ((ack (acz b c)).length + 1) (cy (acz b c) c) (cx (acz b c) c)
theorem aBN (h : adx b) (h' : adx (acz b (ace c))) : acR b c = if ad5 (acy b) ((ack b).length + 1) then ay0 b (ace c) (dLo b (ace c), dHi b (ace c)) else ((0, 0), 9) := by
 have e : apI b (ace c) = (acz b (ace c), 0) := by
  unfold apI
  rw [if_neg (by simp [(acQ b).2 h]), if_neg (by simp [(acQ _).2 h'])]
 unfold acR
 rw [e, aqj (afj h') (afs h') (apx h') (apy h'), aqj (afj h') (afs h') (apy h') (apx h'), ahv h h']
 by_cases ho : ad5 (acy b) ((ack b).length + 1) = true
 ·rw [if_pos ho, if_pos ho, if_pos ho]
  rfl
 ·rw [if_neg ho, if_neg ho, if_neg ho]
  rfl
theorem agt (hp : (acR b c).2 = 0) : adx b ∧ adx (acz b (ace c)) := by
 have hw : (apI b (ace c)).2 = 0 := by
  unfold acR at hp
  by_cases hw : (apI b (ace c)).2 = 0
  ·exact hw
  ·rw [if_pos hw] at hp; exact hp
 unfold apI at hw
 by_cases hb : acN b = 0
 ·rw [if_neg (by simp [hb])] at hw
  by_cases hm : acN (acz b (ace c)) = 0
  ·exact ⟨(acQ b).1 hb, (acQ _).1 hm⟩
  ·rw [if_pos hm] at hw; exact absurd hw hm
 ·rw [if_pos hb] at hw; exact absurd hw hb
theorem aKc {s : Int × Int} (h : (ay0 b c s).2 = 0) : aDW b c ≤ ame b c ∧ ay0 b c s = ((s.1 + aDW b c, s.2 + ame b c), 0) := by
 unfold ay0 at h ⊢
 split at h
 ·simp at h
 ·rename_i hl
  rw [if_neg hl]
  exact ⟨by omega, rfl⟩
end
end Go.Proofs.ZzM
end