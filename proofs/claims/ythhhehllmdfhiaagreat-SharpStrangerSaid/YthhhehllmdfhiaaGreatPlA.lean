/- lemmas -/
import Derived.Test.YthhhehllmdfhiaaGreatAmF
import Derived.Test.YthhhehllmdfhiaaGreatMdTA
set_option linter.all false
set_option linter.unusedSectionVars false
set_option linter.unusedVariables false
set_option linter.unusedSimpArgs false
noncomputable section
namespace Go.Am
section
variable {ρ : Type}
def aeF {α β : Type} (e : Nat → α → Option β) : Nat → List α → Option β
 | _, [] => none
 | i, a :: t => match e i a with
   | some b => some b
   | none => aeF e (i + 1) t
theorem al8 {α β : Type} (l : List α) (e : Nat → α → Option β) (k0 : β → Option ρ) (k1 : Option ρ) {f : Int → (Int → Option ρ) → Option ρ}
 (h : ∀ (i : Nat) (a : α), i < l.length → l[i]? = some a → ∀ kn, f i kn = match e i a with | some b => k0 b | none => kn ((i : Int) + 1))
 (hn : ∀ kn, f l.length kn = k1) : ach f 0 = match aeF e 0 l with | some b => k0 b | none => k1 := by
 refine aPS l (fun i t => match aeF e i t with | some b => k0 b | none => k1) hn fun i a t hd hi ha kn hk => ?_
 rw [h i a hi ha kn, hk, aeF]
 cases e i a <;> rfl
theorem ac9 {α σ : Type} (l : List α) (g : Nat → σ) (r : Option ρ) {f : Int × σ → (Int × σ → Option ρ) → Option ρ} {s0 : σ} (h0 : g 0 = s0)
 (h : ∀ (i : Nat) (a : α), i < l.length → l[i]? = some a → ∀ kn, f (i, g i) kn = kn ((i : Int) + 1, g (i + 1)))
 (hn : ∀ kn, f (l.length, g l.length) kn = r) : ach f (0, s0) = r := by
 subst h0
 have hs : ∀ s, (s = g 0) → ach f (0, s) = r := fun s e => aGQ l (fun _ _ _ => r) (fun i s => s = g i) (fun s hs kn => by rw [hs]; exact hn kn) (fun i a t s hd hi ha hI kn hk => by
  rw [hI, h i a hi ha kn]; exact hk _ rfl) e
 exact hs _ rfl
theorem acg {i n : Nat} (h : i < n) (hn : n ≤ 1000000000) (f : Int → Option ρ) : ck ((i : Int) + 1) f = f ((i : Int) + 1) := acm (by omega) (by omega) f
theorem ifb_lt {i n : Nat} (h : i < n) (x y : Option ρ) : ifb (ilt (i : Int) (aRo n)) x y = x := by simp [adA, azD, h]
theorem acH (n : Nat) (x y : Option ρ) : ifb (ilt (n : Int) (aRo n)) x y = y := by simp [adA, azD]
theorem acj {α : Type} {l : List α} {i : Nat} (h : i < l.length) (x y : Option ρ) : ifb (ilt (i : Int) (aco l)) x y = x := ifb_lt h x y
theorem aBn {α : Type} (p : α → Bool) : ∀ (i : Nat) (l : List α), aeF (fun i a => bif p a then some (i : Int) else none) i l = (l.findIdx? p).map fun j => ((i + j : Nat) : Int)
 | _, [] => rfl
 | i, a :: t => by
   simp only [aeF, List.findIdx?_cons]
   cases hp : p a with
   | true => simp
   | false =>
     simp only [cond_false, Bool.false_eq_true, if_false]
     rw [aBn p (i + 1) t]
     cases t.findIdx? p with
     | none => rfl
     | some j => simp only [Option.map_some]; congr 1; omega
theorem ah8 {α β : Type} {e : Nat → α → Option β} : ∀ {i : Nat} {l : List α}, aeF e i l = none ↔ ∀ j a, l[j]? = some a → e (i + j) a = none
 | _, [] => by simp [aeF]
 | i, a :: t => by
   simp only [aeF]
   constructor
   ·intro h j b hb
    cases he : e i a with
    | some c => rw [he] at h; cases h
    | none =>
      rw [he] at h
      cases j with
      | zero => simp at hb; subst hb; simpa using he
      | succ j => have := (ah8.1 h) j b (by simpa using hb); rw [← this]; congr 1; omega
   ·intro h
    have h0 := h 0 a (by simp)
    simp only [Nat.add_zero] at h0
    rw [h0]
    exact ah8.2 fun j b hb => by have := h (j + 1) b (by simpa using hb); rw [← this]; congr 1; omega
theorem take_succ {α : Type} {l : List α} {i : Nat} {a : α} (h : l[i]? = some a) : l.take (i + 1) = l.take i ++ [a] := by rw [List.take_succ, h]; rfl
end
end Go.Am
end
noncomputable section
namespace Go.Proofs.ZzM
open Go Go.Am
section
variable {ρ : Type}
theorem afS {τ : Type} {f : τ → (τ → Option ρ) → Option ρ} {r : Option ρ} (I : τ → Prop) (μ : τ → Nat)
 (h : ∀ x, I x → (∀ kn, f x kn = r) ∨ ∃ y, I y ∧ μ y < μ x ∧ ∀ kn, f x kn = kn y) {x : τ} (hx : I x) : ach f x = r :=
 al9 (F := fun _ => r) I μ (fun x hx kn hk => by
  rcases h x hx with h1 | ⟨y, h1, h2, h3⟩
  ·exact h1 kn
  ·rw [h3, hk y h1 h2]) hx
theorem afZ {α : Type} (l : List α) (p : α → Bool) (k0 : Int → Option ρ) (k1 : Option ρ) {f : Int → (Int → Option ρ) → Option ρ}
 (h : ∀ (i : Nat) (a : α), i < l.length → l[i]? = some a → ∀ kn, f i kn = if p a then k0 i else kn ((i : Int) + 1))
 (hn : ∀ kn, f l.length kn = k1) : ach f 0 = match l.findIdx? p with | some j => k0 j | none => k1 := by
 rw [al8 l (fun i a => bif p a then some (i : Int) else none) k0 k1 (fun i a hi ha kn => by rw [h i a hi ha kn]; cases p a <;> rfl) hn, aBn]
 cases l.findIdx? p with
 | none => rfl
 | some j => simp
theorem afy {α : Type} (l : List α) (p : α → Bool) (k0 : Int → Option ρ) (K k1 : Option ρ) {f : Int → (Int → Option ρ) → Option ρ} (hK : ∀ j : Nat, k0 j = K)
 (h : ∀ (i : Nat) (a : α), i < l.length → l[i]? = some a → ∀ kn, f i kn = if p a then k0 i else kn ((i : Int) + 1))
 (hn : ∀ kn, f l.length kn = k1) : ach f 0 = if l.any p then K else k1 := by
 rw [afZ l p k0 k1 h hn]
 cases hf : l.findIdx? p with
 | none =>
   have : l.any p = false := by
    rw [List.any_eq_false]
    intro x hx
    have := List.findIdx?_eq_none_iff.1 hf x hx
    simp [this]
   simp [this]
 | some j =>
   have : l.any p = true := by
    have := List.findIdx?_eq_some_iff_getElem.1 hf
    obtain ⟨hj, hp, _⟩ := this
    exact List.any_eq_true.2 ⟨_, List.getElem_mem hj, hp⟩
   simp [this, hK]
end
abbrev acP : Type := Int × Int × Int × (Int × Int) × ((Int × Int) × Int)
abbrev ayv : Type := Int × ((Int × Int) × Int)
abbrev Cmp : Type := Int × Int × List Int × List Int × Int × (Int × (Int × Int))
abbrev acs : Type := (Int × Int) × List acP × List (Int × Int) × List ayv × List Cmp × List (Int × Int)
abbrev Sys : Type := Int × List (Int × Int × Int)
abbrev Maker : Type := acs × List (Int × Int) × Sys × List (Int × Int)
section
variable {ρ : Type}
theorem acp {b : Bool} (h : b = true) (x y : Option ρ) : ifb b x y = x := by rw [h]; rfl
theorem aci {b : Bool} (h : b = false) (x y : Option ρ) : ifb b x y = y := by rw [h]; rfl
end
def I64 (n : Int) : Prop := -9223372036854775808 ≤ n ∧ n ≤ 9223372036854775807
def inP (n lo hi : Int) : Bool := decide (lo ≤ n) && decide (n ≤ hi)
def aLP (n : Int) : Bool := inP n 0 20000
def akh (s : Int × Int) (lo hi : Int) : Bool := decide (lo ≤ s.1) && (decide (s.1 ≤ s.2) && decide (s.2 ≤ hi))
theorem aeN (n lo hi : Int) : ac5 n lo hi = some (inP n lo hi) := by
 unfold ac5 av1 inP ile
 cases decide (lo ≤ n) <;> rfl
theorem aGX (n : Int) : aiJ n = some (aLP n) := by
 unfold aiJ aAW
 rw [aeN]; rfl
theorem auC (s : Int × Int) (lo hi : Int) : aeM s lo hi = some (akh s lo hi) := by
 unfold aeM av8 akh ile
 cases decide (lo ≤ s.1) <;> cases decide (s.1 ≤ s.2) <;> rfl
theorem aEW {n : Int} (h : I64 n) : akY n = some (n.natAbs : Int) := by
 obtain ⟨h1, h2⟩ := h
 unfold akY aGb
 by_cases hn : n < 0
 ·have : ilt n 0 = true := by simpa using hn
  rw [acp this]
  congr 1
  simp only [IntKind.wrap, IntKind.bits, IntKind.signed]
  simp
  omega
 ·have : ilt n 0 = false := by simpa using hn
  rw [aci this]
  congr 1
  simp only [IntKind.wrap, IntKind.bits, IntKind.signed]
  simp
  omega
theorem aS3 (a b : Nat) : aBs a b = some ((Nat.gcd a b : Nat) : Int) := by
 unfold aBs aLj
 refine afS (fun x : Int × Int => ∃ c d : Nat, x = ((c : Int), (d : Int)) ∧ Nat.gcd c d = Nat.gcd a b) (fun x => x.2.toNat) ?_ ⟨a, b, rfl, rfl⟩
 rintro x ⟨c, d, rfl, hg⟩
 cases d with
 | zero =>
   refine .inl fun kn => ?_
   rw [Nat.gcd_zero_right] at hg
   unfold apW
   simp [hg, ine]
 | succ d =>
   refine .inr ⟨(((d + 1 : Nat) : Int), ((c % (d + 1) : Nat) : Int)), ⟨d + 1, c % (d + 1), rfl, ?_⟩, ?_, fun kn => ?_⟩
   ·rw [← hg, Nat.gcd_comm c (d + 1), Nat.gcd_rec (d + 1) c, Nat.gcd_comm]
   ·have := Nat.mod_lt c (Nat.succ_pos d)
    simp only [Int.toNat_natCast]
    omega
   ·unfold apW
    have h1 : ine ((d + 1 : Nat) : Int) 0 = true := by simp [ine]; omega
    have h2 : aeA ((d + 1 : Nat) : Int) 0 = false := by simp [aeA]; omega
    simp only [h1, acp aci h2]
    congr 1
def aCa (r : Int × Int) : Bool :=
 decide (1 ≤ r.2) && (decide (r.2 ≤ 2147483647) && (decide ((r.1.natAbs : Int) ≤ 2147483647) && decide (Nat.gcd r.1.natAbs r.2.natAbs = 1)))
theorem aHr {r : Int × Int} (h : I64 r.1) : amh r = some (aCa r) := by
 unfold amh aAD aCa
 by_cases h1 : 1 ≤ r.2
 ·by_cases h2 : r.2 ≤ 2147483647
  ·have h3 : I64 r.2 := ⟨by omega, by omega⟩
   have e1 : ige r.2 1 = true := by simp [ige, h1]
   have e2 : ile r.2 2147483647 = true := by simp [ile, h2]
   rw [acp e1, acp e2, aEW h, abZ]
   by_cases h4 : (r.1.natAbs : Int) ≤ 2147483647
   ·have e4 : ile (r.1.natAbs : Int) 2147483647 = true := by simp [ile, h4]
    rw [acp e4, abZ, aEW h3, abZ, aS3, abZ]
    congr 1
    rw [Bool.eq_iff_iff]
    simp only [ieq, beq_iff_eq, h1, h2, h4, decide_true, Bool.true_and, decide_eq_true_eq]
    omega
   ·have e4 : ile (r.1.natAbs : Int) 2147483647 = false := by simp [ile]; omega
    rw [aci e4]
    simp [h4]
  ·have e1 : ige r.2 1 = true := by simp [ige, h1]
   have e2 : ile r.2 2147483647 = false := by simp [ile]; omega
   rw [acp e1, aci e2]
   simp [h2]
 ·have e1 : ige r.2 1 = false := by simp [ige]; omega
  rw [aci e1]
  simp [h1]
def ard (g : acP) : Bool :=
 aCa g.2.2.2.2.1 && inP g.2.2.2.2.1.1 (-1000) 1000 && decide (g.2.2.2.2.1.2 ≤ 100) && inP g.1 1 1099511627776 && aLP g.2.1 && inP g.2.2.1 1 1125899906842624 && akh g.2.2.2.1 (-1073741824) 1073741824 && inP g.2.2.2.2.2 0 1048576
theorem aOa {g : acP} (h : I64 g.2.2.2.2.1.1) : ano g = some (ard g) := by
 unfold ano ar9 ard
 rw [aHr h, aeN, aeN, aGX, aeN, auC, aeN]
 generalize aCa g.2.2.2.2.1 = x1
 generalize inP g.2.2.2.2.1.1 (-1000) 1000 = x2
 generalize inP g.1 1 1099511627776 = x3
 generalize aLP g.2.1 = x4
 generalize inP g.2.2.1 1 1125899906842624 = x5
 generalize akh g.2.2.2.1 (-1073741824) 1073741824 = x6
 generalize inP g.2.2.2.2.2 0 1048576 = x7
 unfold ile
 generalize decide (g.2.2.2.2.1.2 ≤ 100) = x8
 cases x1 <;> cases x2 <;> cases x3 <;> cases x4 <;> cases x5 <;> cases x6 <;> cases x8 <;> rfl
end Go.Proofs.ZzM
end
noncomputable section
namespace Go.Proofs.ZzM
open Go Go.Am
section
variable {ρ : Type}
theorem aJJ {α : Type} {l : List α} {i : Nat} {a : α} (h0 : 0 < i) (h : l[i - 1]? = some a) (f : α → Option ρ) : adu l ((i : Int) - 1) f = f a := by
 have : ((i : Int) - 1) = ((i - 1 : Nat) : Int) := by omega
 rw [this, ace h]
theorem aQG {i : Nat} (h : 0 < i) (hn : i ≤ 1000000000) (f : Int → Option ρ) : ck ((i : Int) - 1) f = f ((i : Int) - 1) := acm (by omega) (by omega) f
theorem afK {i n : Nat} (h : i < n) (x : Option ρ) : acO ((ile 0 (i : Int)) && (ilt (i : Int) (n : Int))) x = x := by
 have : ((ile 0 (i : Int)) && (ilt (i : Int) (n : Int))) = true := by simp [ile, ilt, h]
 rw [this, Am.iff_true]
theorem aem {α : Type} {l : List α} {i : Nat} {a : α} (h : l[i]? = some a) (f : α → Option ρ) : afn l (Int.toNat (i : Int)) f = f a := by
 rw [Int.toNat_natCast]; exact amu h f
end
def aBV {α : Type} (key : α → Int) (l : List α) (i : Nat) (a : α) : Bool :=
 decide (0 < i) && (l[i - 1]?).any fun q => decide (key a ≤ key q)
theorem aH0 {α : Type} {l : List α} {i : Nat} (hi : i < l.length) (h0 : 0 < i) : ∃ q, l[i - 1]? = some q :=
 ⟨l[i - 1], List.getElem?_eq_getElem (by omega)⟩
theorem aNo {α : Type} (key : α → Int) (l : List α) : (∀ i a, l[i]? = some a → aBV key l i a = false) ↔ l.Pairwise (fun a b => key a < key b) := by
 rw [List.pairwise_iff_getElem]
 constructor
 ·intro h
  have step : ∀ i (h1 : i + 1 < l.length), key l[i] < key l[i + 1] := by
   intro i h1
   have := h (i + 1) l[i + 1] (List.getElem?_eq_getElem h1)
   simp only [aBV, Nat.add_sub_cancel, Nat.succ_pos, decide_true, Bool.true_and, List.getElem?_eq_getElem (show i < l.length by omega), Option.any_some, decide_eq_false_iff_not] at this
   omega
  intro i j hi hj hij
  induction j with
  | zero => omega
  | succ j ih =>
    have := step j hj
    rcases Nat.lt_or_ge i j with hlt | hge
    ·have := ih (by omega) hlt; omega
    ·have : i = j := by omega
     subst this; assumption
 ·intro h i a ha
  obtain ⟨hi, rfl⟩ := List.getElem?_eq_some_iff.1 ha
  unfold aBV
  cases i with
  | zero => rfl
  | succ i =>
    have := h i (i + 1) (by omega) hi (by omega)
    simp only [Nat.add_sub_cancel, Nat.succ_pos, decide_true, Bool.true_and, List.getElem?_eq_getElem (show i < l.length by omega), Option.any_some, decide_eq_false_iff_not]
    omega
def apj (l : List acP) (i : Nat) (g : acP) : Option Int :=
 if !ard g then some 1 else if aBV (fun g => g.1) l i g then some 6 else none
def aiY (b : acs) : Int := (aeF (apj b.2.1) 0 b.2.1).getD 0
theorem aDq {b : acs} (hr : ∀ g ∈ b.2.1, I64 g.2.2.2.2.1.1) (hn : b.2.1.length ≤ 1000) : aez b = some (aiY b) := by
 unfold aez ajV
 refine Eq.trans (al8 b.2.1 (apj b.2.1) some (some 0) (fun i a hi ha kn => ?_) (fun kn => ?_)) ?_
 ·try dsimp only
  unfold afR
  rw [acj hi, ace ha, aOa (hr a (List.mem_of_getElem? ha)), abZ]
  unfold apj
  cases hg : ard a with
  | false => simp
  | true =>
    simp only [Bool.not_true, acF, Bool.false_eq_true, if_false]
    rcases Nat.eq_zero_or_pos i with h0 | h0
    ·subst h0
     have : igt ((0 : Nat) : Int) 0 = false := by simp [igt]
     rw [aci this, acg hi (by omega)]
     simp [aBV]
    ·obtain ⟨q, hq⟩ := aH0 hi h0
     have h1 : igt (i : Int) 0 = true := by simp [igt]; omega
     rw [acp h1, aQG h0 (by omega), aJJ h0 hq]
     simp only [aBV, h0, decide_true, Bool.true_and, hq, Option.any_some]
     unfold ile
     cases h2 : decide (a.1 ≤ q.1) with
     | true => simp
     | false =>
       rw [acF, acg hi (by omega)]
       simp
 ·try dsimp only
  unfold afR
  rw [acH]
 ·unfold aiY
  cases aeF (apj b.2.1) 0 b.2.1 <;> rfl
def aHS (l : List acP) : List (Int × acP) := l.foldl (fun m g => ayK (k := tI) (v := acd) g.1 g m) []
def aiO (b : acs) : List (Int × acP) := aHS b.2.1
theorem aDG {b : acs} (hn : b.2.1.length ≤ 1000) : ae0 b = some (aiO b) := by
 unfold ae0 ar6
 refine ac9 b.2.1 (fun i => aHS (b.2.1.take i)) _ rfl (fun i a hi ha kn => ?_) (fun kn => ?_)
 ·try dsimp only
  unfold aij
  rw [acj hi, ace ha, acg hi (by omega), take_succ ha]
  simp only [aHS, List.foldl_append, List.foldl_cons, List.foldl_nil]
 ·try dsimp only
  unfold aij
  rw [acH, List.take_length]
  rfl
theorem aIt (x y : Int) (g : acP) : ∀ m : List (Int × acP), alI (k := tI) (v := acd) x (ayK (k := tI) (v := acd) y g m) = if x = y then some g else alI (k := tI) (v := acd) x m
 | [] => by
   unfold ayK alI agV alI
   by_cases h : x = y <;> simp [h]
 | e :: m => by
   unfold ayK
   by_cases h : y = e.1
   ·have : agV tI y e.1 = true := by simp [agV, h]
    rw [this]
    try dsimp only
    unfold alI agV
    by_cases h2 : x = y
    ·simp [h2]
    ·have : ¬ x = e.1 := fun h3 => h2 (h3.trans h.symm)
     simp [h2, this]
   ·have : agV tI y e.1 = false := by simp [agV, h]
    rw [this]
    try dsimp only
    have ih := aIt x y g m
    unfold alI
    by_cases h2 : x = e.1
    ·have : agV tI x e.1 = true := by simp [agV, h2]
     rw [this]
     have : ¬ x = y := fun h3 => h (h3.symm.trans h2)
     simp [this]
    ·have : agV tI x e.1 = false := by simp [agV, h2]
     rw [this]
     exact ih
def ags (b : acs) (id : Int) : Option acP := b.2.1.find? fun g => g.1 == id
theorem aKZ (x : Int) (l : List acP) : alI (k := tI) (v := acd) x (aHS l) = l.reverse.find? fun g => g.1 == x := by
 unfold aHS
 rw [← List.foldr_reverse]
 induction l.reverse with
 | nil => rfl
 | cons g t ih =>
   rw [List.foldr_cons, aIt, ih, List.find?_cons]
   by_cases h : x = g.1
   ·simp [h]
   ·have : (g.1 == x) = false := by simp; exact fun h2 => h h2.symm
    simp [h, this]
theorem aJW {l : List acP} (h : l.Pairwise fun a b => a.1 < b.1) (x : Int) : l.reverse.find? (fun g => g.1 == x) = l.find? fun g => g.1 == x := by
 induction l with
 | nil => rfl
 | cons g t ih =>
   rw [List.pairwise_cons] at h
   rw [List.reverse_cons, List.find?_append, ih h.2, List.find?_cons]
   by_cases hx : g.1 = x
   ·have : t.find? (fun g => g.1 == x) = none := List.find?_eq_none.2 fun y hy => by have : g.1 < y.1 := h.1 y hy; simp; omega
    rw [this]; simp [hx]
   ·have : (g.1 == x) = false := by simp [hx]
    simp [this]
theorem apP {b : acs} (h : b.2.1.Pairwise fun a b => a.1 < b.1) (x : Int) : alI (k := tI) (v := acd) x (aiO b) = ags b x := by
 unfold aiO ags
 rw [aKZ, aJW h]
def ak5 (s : List (Int × acP)) (id day : Int) : Int :=
 match alI (k := tI) (v := acd) id s with
 | some g => if day < g.2.1 then 4 else 0
 | none => 5
theorem aK1 (s : List (Int × acP)) (id day : Int) : afJ s id day = some (ak5 s id day) := by
 unfold afJ alm ak5
 cases h : alI (k := tI) (v := acd) id s with
 | none => simp only [aHy, h]
 | some g =>
   simp only [aHy, h]
   rw [adA]
   by_cases h2 : day < g.2.1 <;> simp [h2]
def aSV (s : List (Int × acP)) (id day : Int) : Int := if !aLP day then 1 else ak5 s id day
theorem aH8 (s : List (Int × acP)) (id day : Int) : adJ id day s = some (aSV s id day) := by
 unfold adJ ar8 aSV
 rw [aGX, abZ, aK1, abZ]
 cases aLP day <;> rfl
def aJx (b : acs) (s : List (Int × acP)) (i : Nat) (l : ayv) : Int :=
 if !akh l.2.1 0 20000 then 1 else if !inP l.2.2 0 1048576 then 1 else if ak5 s l.1 l.2.1.1 != 0 then ak5 s l.1 l.2.1.1 else
 if (b.2.2.2.1.take i).any (fun x => x.1 == l.1 && (decide (x.2.1.1 ≤ l.2.1.2) && decide (l.2.1.1 ≤ x.2.1.2))) then 9 else
 if b.2.2.1.any (fun u => u.1 == l.1 && inP u.2 l.2.1.1 l.2.1.2) then 9 else 0
theorem aJ6 {b : acs} (hn : b.2.2.2.1.length ≤ 1000) (hu : b.2.2.1.length ≤ 1000) (s : List (Int × acP)) {i : Nat} {l : ayv} (hl : b.2.2.2.1[i]? = some l) : aeQ b s i = some (aJx b s i l) := by
 unfold aeQ am9 aJx
 have hi : i < b.2.2.2.1.length := (List.getElem?_eq_some_iff.1 hl).1
 rw [ace hl, auC, abZ, aeN, abZ, aK1, abZ]
 cases akh l.2.1 0 20000 with
 | false => rfl
 | true =>
 cases inP l.2.2 0 1048576 with
 | false => rfl
 | true =>
 cases hm : (ak5 s l.1 l.2.1.1 != 0) with
 | true =>
   have : ine (ak5 s l.1 l.2.1.1) 0 = true := hm
   simp [this]
 | false =>
 have hm' : ine (ak5 s l.1 l.2.1.1) 0 = false := hm
 have hg : ((ile (0 : Int) (i : Int)) && (ile (i : Int) (adE b.2.2.2.1))) = true := by simp [ile, adE]; omega
 simp only [Bool.not_true, acF, hm', Bool.false_eq_true, if_false]
 rw [adG hg, Int.toNat_natCast]
 have inner : ∀ (k : Int → Option Int), ach (fun (v : Int) kk => aeL b.2.2.1 (aco b.2.2.1) l.1 l.2.1.1 l.2.1.2 v (fun u => kk u) (fun z => ifb (ige z 0) (k 9) (k 0)) (fun _ => k 0)) (0 : Int) = if b.2.2.1.any (fun u => u.1 == l.1 && inP u.2 l.2.1.1 l.2.1.2) then k 9 else k 0 := by
  intro k
  refine afy b.2.2.1 _ (fun z => ifb (ige z 0) (k 9) (k 0)) (k 9) (k 0) (fun j => ?_) (fun j a hj ha kn => ?_) (fun kn => ?_)
  ·have : ige (j : Int) 0 = true := by simp [ige]
   rw [acp this]
  ·try dsimp only
   unfold aeL
   rw [acj hj, ace ha, aeN, abZ, acg hj (by omega)]
   cases h1 : (a.1 == l.1) with
   | false =>
     have : ieq a.1 l.1 = false := h1
     simp [this]
   | true =>
     have : ieq a.1 l.1 = true := h1
     rw [this]
     cases inP a.2 l.2.1.1 l.2.1.2 <;> simp
  ·try dsimp only
   unfold aeL
   rw [acH]
 rw [inner]
 refine Eq.trans (afy (b.2.2.2.1.take i) (fun x => x.1 == l.1 && (decide (x.2.1.1 ≤ l.2.1.2) && decide (l.2.1.1 ≤ x.2.1.2))) (fun z => ifb (ige z 0) (some 9) (if b.2.2.1.any (fun u => u.1 == l.1 && inP u.2 l.2.1.1 l.2.1.2) then some 9 else some 0)) (some 9) (if b.2.2.1.any (fun u => u.1 == l.1 && inP u.2 l.2.1.1 l.2.1.2) then some 9 else some 0) (fun j => ?_) (fun j a hj ha kn => ?_) (fun kn => ?_)) ?_
 ·have : ige (j : Int) 0 = true := by simp [ige]
  rw [acp this]
 ·try dsimp only
  unfold agG
  have hj' : j ≤ 1000 := by rw [List.length_take] at hj; omega
  rw [acj hj, ace ha, acg hj (by rw [List.length_take]; omega)]
  cases h1 : (a.1 == l.1) with
  | false =>
    have : ieq a.1 l.1 = false := h1
    simp [this]
  | true =>
    have : ieq a.1 l.1 = true := h1
    rw [this]
    cases h2 : decide (a.2.1.1 ≤ l.2.1.2) <;> cases h3 : decide (l.2.1.1 ≤ a.2.1.2) <;> simp [ile, h2, h3, adA] <;> simp_all
 ·try dsimp only
  unfold agG
  rw [acH]
 ·cases List.any (b.2.2.2.1.take i) _ <;> cases b.2.2.1.any _ <;> rfl
end Go.Proofs.ZzM
end
noncomputable section
namespace Go.Proofs.ZzM
open Go Go.Am
theorem aRj {l : List Int} (hn : l.length ≤ 1000000) (x : Int) : agh l x = some (match l.findIdx? (· == x) with | some j => (j : Int) | none => -1) := by
 unfold agh ahQ
 refine Eq.trans (afZ l (· == x) some (some (-1)) (fun i a hi ha kn => ?_) (fun kn => ?_)) ?_
 ·try dsimp only
  unfold ae9
  rw [acj hi, ace ha, acg hi (by omega), adA]
  by_cases h : x = a
  ·subst h; simp [ieq]
  ·have h2 : ¬ a = x := fun e => h e.symm
   simp [ieq, h, h2]
 ·try dsimp only
  unfold ae9
  rw [acH]
 ·cases l.findIdx? (· == x) <;> rfl
theorem aiN {l : List Int} (hn : l.length ≤ 1000000) (x : Int) : adn l x = some (l.contains x) := by
 unfold adn agr
 rw [aRj hn, abZ]
 congr 1
 cases h : l.findIdx? (· == x) with
 | none =>
   have : l.contains x = false := by
    rw [Bool.eq_false_iff]
    intro hc
    have := List.findIdx?_eq_none_iff.1 h x (by simpa using hc)
    simp at this
   rw [this]; rfl
 | some j =>
   obtain ⟨hj, hp, _⟩ := List.findIdx?_eq_some_iff_getElem.1 h
   have : l.contains x = true := by
    have h2 : l[j] = x := by simpa using hp
    rw [← h2]; simp
   rw [this]
   simp [ige]
def ac4 (a b : List Int) : List Int := a.filter fun x => !b.contains x
theorem alp {a b : List Int} (ha : a.length ≤ 1000000) (hb : b.length ≤ 1000000) : aeg a b = some (ac4 a b) := by
 unfold aeg aGw
 rw [acl (by omega), Am.iff_true]
 have second : ∀ z : Nat, z < a.length → ac4 (a.take z) b = a.take z → b.contains (a[z]?.getD 0) = true →
  ach (fun (v13 : (Val (.pair tI (.pair tI (.slice tI))))) kk17 => agU b v13.1 v13.2.1 v13.2.2 (fun u14 u15 u16 => kk17 (u14, u15, u16)) (fun z12 => acO ((ile (0 : Int) z12.1) && (ile z12.1 (adE z12.2))) (acO ((ile (0 : Int) z12.1) && (ile z12.1 (adE (List.take (Int.toNat z12.1) z12.2 ++ List.replicate (List.length z12.2 - (Int.toNat z12.1)) (0 : Int) ++ List.drop ((Int.toNat z12.1) + (List.length z12.2 - (Int.toNat z12.1))) z12.2)))) (some (List.take (Int.toNat z12.1) (List.drop 0 (List.take (Int.toNat z12.1) z12.2 ++ List.replicate (List.length z12.2 - (Int.toNat z12.1)) (0 : Int) ++ List.drop ((Int.toNat z12.1) + (List.length z12.2 - (Int.toNat z12.1))) z12.2))))))) ((z : Int), ((z : Int) + 1), a) = some (ac4 a b) := by
  intro z hz hp hc
  refine afS (fun x : Int × Int × List Int => ∃ i j : Nat, x.1 = i ∧ x.2.1 = j ∧ i < j ∧ j ≤ a.length ∧ x.2.2.length = a.length ∧ x.2.2.take i = ac4 (a.take j) b ∧ x.2.2.drop j = a.drop j) (fun x => a.length - x.2.1.toNat) ?_
   ⟨z, z + 1, rfl, by simp, by omega, by omega, rfl, ?_, rfl⟩
  ·rintro ⟨x1, x2, s⟩ ⟨i, j, h1, h2, hij, hja, hl, ht, hd⟩
   simp only at h1 h2 hl ht hd
   subst h1 h2
   rcases Nat.lt_or_ge j a.length with hj | hj
   ·refine .inr ?_
    have hsj : s[j]? = some a[j] := by
     have h3 : (s.drop j)[0]? = (a.drop j)[0]? := by rw [hd]
     rw [List.getElem?_drop, List.getElem?_drop] at h3
     simpa [List.getElem?_eq_getElem hj] using h3
    have hjs : j < s.length := by omega
    have hta : ac4 (a.take (j + 1)) b = ac4 (a.take j) b ++ if b.contains a[j] then [] else [a[j]] := by
     rw [take_succ (List.getElem?_eq_getElem hj), ac4, ac4, List.filter_append]
     congr 1
     cases h : b.contains a[j] with
     | true => simp only [List.filter_cons, h, Bool.not_true, Bool.false_eq_true, if_false, List.filter_nil, if_true]
     | false => simp only [List.filter_cons, h, Bool.not_false, Bool.false_eq_true, if_false, List.filter_nil, if_true]
    cases h : b.contains a[j] with
    | true =>
      refine ⟨(i, (j : Int) + 1, s), ⟨i, j + 1, rfl, by simp, by omega, by omega, hl, ?_, ?_⟩, by simp; omega, fun kn => ?_⟩
      ·rw [hta, h]; simpa using ht
      ·have := congrArg (List.drop 1) hd
       simpa [List.drop_drop, Nat.add_comm] using this
      ·try dsimp only
       unfold agU
       rw [acj hjs, afK hjs, aem hsj, aiN hb, abZ, h]
       simp only [Bool.not_true, acF]
       rw [acg hjs (by omega)]
    | false =>
      have his : i < s.length := by omega
      refine ⟨((i : Int) + 1, (j : Int) + 1, s.set i a[j]), ⟨i + 1, j + 1, by simp, by simp, by omega, by omega, by simpa using hl, ?_, ?_⟩, by simp; omega, fun kn => ?_⟩
      ·show List.take (i + 1) (s.set i a[j]) = _
       rw [hta, h, List.take_succ, List.getElem?_set, List.take_set_of_le (Nat.le_refl i), ht]
       simp [his]
      ·show List.drop (j + 1) (s.set i a[j]) = _
       rw [List.drop_set_of_lt (by omega)]
       have := congrArg (List.drop 1) hd
       simpa [List.drop_drop, Nat.add_comm] using this
      ·try dsimp only
       unfold agU
       rw [acj hjs, afK hjs, aem hsj, aiN hb, abZ, h]
       simp only [Bool.not_false, adH]
       rw [afK his, aem (List.getElem?_eq_getElem his), acg his (by omega), acg hjs (by omega), Int.toNat_natCast]
   ·refine .inl fun kn => ?_
    have hje : j = s.length := by omega
    try dsimp only
    unfold agU
    rw [hje, acH]
    dsimp only
    have g1 : ((ile (0 : Int) (i : Int)) && (ile (i : Int) (adE s))) = true := by simp [ile, adE]; omega
    rw [adG g1]
    have g2 : ((ile (0 : Int) (i : Int)) && (ile (i : Int) (adE (List.take (Int.toNat (i : Int)) s ++ List.replicate (List.length s - (Int.toNat (i : Int))) (0 : Int) ++ List.drop ((Int.toNat (i : Int)) + (List.length s - (Int.toNat (i : Int)))) s)))) = true := by
     simp [ile, adE]; omega
    rw [adG g2, Int.toNat_natCast, List.drop_zero, List.append_assoc, List.take_append_of_le_length (by simp; omega), List.take_take, Nat.min_self, ht]
    rw [List.take_of_length_le (by omega)]
  ·show List.take z a = ac4 (a.take (z + 1)) b
   have hz' : a[z]? = some a[z] := List.getElem?_eq_getElem hz
   rw [take_succ hz', ac4, List.filter_append]
   rw [hz'] at hc
   simp only [Option.getD_some] at hc
   have : List.filter (fun x => !b.contains x) [a[z]] = [] := by simp only [List.filter_cons, hc, Bool.not_true, Bool.false_eq_true, if_false, List.filter_nil]
   rw [this, List.append_nil]
   exact hp.symm
 refine Eq.trans (afZ a (fun x => b.contains x) (fun z4 => ifb (ieq z4 (-1 : Int)) (some a) (ck (z4 + (1 : Int)) fun n5 => ach (fun (v13 : (Val (.pair tI (.pair tI (.slice tI))))) kk17 => agU b v13.1 v13.2.1 v13.2.2 (fun u14 u15 u16 => kk17 (u14, u15, u16)) (fun z12 => acO ((ile (0 : Int) z12.1) && (ile z12.1 (adE z12.2))) (acO ((ile (0 : Int) z12.1) && (ile z12.1 (adE (List.take (Int.toNat z12.1) z12.2 ++ List.replicate (List.length z12.2 - (Int.toNat z12.1)) (0 : Int) ++ List.drop ((Int.toNat z12.1) + (List.length z12.2 - (Int.toNat z12.1))) z12.2)))) (some (List.take (Int.toNat z12.1) (List.drop 0 (List.take (Int.toNat z12.1) z12.2 ++ List.replicate (List.length z12.2 - (Int.toNat z12.1)) (0 : Int) ++ List.drop ((Int.toNat z12.1) + (List.length z12.2 - (Int.toNat z12.1))) z12.2))))))) (z4, n5, a))) (some a) (fun i x hi hx kn => ?_) (fun kn => ?_)) ?_
 ·try dsimp only
  unfold am6
  rw [acj hi, afK hi, aem hx, aiN hb, abZ, acg hi (by omega), adA]
 ·try dsimp only
  unfold am6
  rw [acH]
 ·cases h : a.findIdx? (fun x => b.contains x) with
  | none =>
    have : ac4 a b = a := by
     rw [ac4, List.filter_eq_self]
     intro x hx
     have := List.findIdx?_eq_none_iff.1 h x hx
     simpa using this
    rw [this]
  | some z =>
    obtain ⟨hz, hc, hlt⟩ := List.findIdx?_eq_some_iff_getElem.1 h
    have h1 : ieq (z : Int) (-1) = false := by simp [ieq]
    try dsimp only
    rw [aci h1, acg hz (by omega)]
    refine second z hz ?_ ?_
    ·rw [ac4, List.filter_eq_self]
     intro x hx
     obtain ⟨j, hj, rfl⟩ := List.mem_iff_getElem.1 hx
     rw [List.length_take] at hj
     rw [List.getElem_take]
     have := hlt j (by omega)
     simpa using this
    ·rw [List.getElem?_eq_getElem hz]; exact hc
def axV (l : List Int) (i : Nat) (a : Int) : Option Bool := if !inP a 1 1099511627776 then some false else if aBV (fun x => x) l i a then some false else none
def aja (l : List Int) : Bool := match aeF (axV l) 0 l with | some _ => false | none => decide (l.length ≤ 6)
theorem auA {l : List Int} (hn : l.length ≤ 1000000) : ah9 l = some (aja l) := by
 unfold ah9 av7
 refine Eq.trans (al8 l (axV l) some (some (decide (l.length ≤ 6))) (fun i a hi ha kn => ?_) (fun kn => ?_)) ?_
 ·try dsimp only
  unfold aje
  rw [acj hi, ace ha, aeN, abZ]
  unfold axV
  cases inP a 1 1099511627776 with
  | false => rfl
  | true =>
    simp only [Bool.not_true, acF, Bool.false_eq_true, if_false]
    rcases Nat.eq_zero_or_pos i with h0 | h0
    ·subst h0
     have : igt ((0 : Nat) : Int) 0 = false := by simp [igt]
     rw [aci this, acg hi (by omega)]
     simp [aBV]
    ·obtain ⟨q, hq⟩ := aH0 hi h0
     have h1 : igt (i : Int) 0 = true := by simp [igt]; omega
     rw [acp h1, aQG h0 (by omega), aJJ h0 hq]
     simp only [aBV, h0, decide_true, Bool.true_and, hq, Option.any_some]
     unfold ile
     cases h2 : decide (a ≤ q) with
     | true => rfl
     | false =>
       rw [acF, acg hi (by omega)]
       rfl
 ·try dsimp only
  unfold aje
  rw [acH, acB]
  simp [ile]
  omega
 ·have hb : ∀ x, aeF (axV l) 0 l = some x → x = false := by
   have : ∀ (m : List Int) (j : Nat) (x : Bool), aeF (axV l) j m = some x → x = false := by
    intro m
    induction m with
    | nil => intro j x h; cases h
    | cons a m ih =>
      intro j x h
      unfold aeF at h
      cases hp : axV l j a with
      | none => rw [hp] at h; exact ih _ _ h
      | some y =>
        rw [hp] at h
        cases h
        unfold axV at hp
        split at hp
        ·cases hp; rfl
        ·split at hp
         ·cases hp; rfl
         ·cases hp
   exact this l 0
  unfold aja
  cases h : aeF (axV l) 0 l with
  | none => rfl
  | some x => rw [hb x h]
theorem aH4 (l : List Int) : aja l = true ↔ (∀ x ∈ l, 1 ≤ x ∧ x ≤ 1099511627776) ∧ l.Pairwise (· < ·) ∧ l.length ≤ 6 := by
 have h0 : aeF (axV l) 0 l = none ↔ (∀ x ∈ l, 1 ≤ x ∧ x ≤ 1099511627776) ∧ l.Pairwise (· < ·) := by
  rw [ah8, ← aNo (fun x => x) l]
  constructor
  ·intro h
   have h1 : ∀ (j : Nat) (a : Int), l[j]? = some a → inP a 1 1099511627776 = true ∧ aBV (fun x => x) l j a = false := by
    intro j a ha
    have := h j a ha
    rw [Nat.zero_add] at this
    unfold axV at this
    split at this
    ·cases this
    ·split at this
     ·cases this
     ·rename_i h1 h2
      exact ⟨by simpa using h1, by simpa using h2⟩
   refine ⟨fun x hx => ?_, fun i a ha => (h1 i a ha).2⟩
   obtain ⟨j, hj, rfl⟩ := List.mem_iff_getElem.1 hx
   have := (h1 j l[j] (List.getElem?_eq_getElem hj)).1
   simpa [inP] using this
  ·rintro ⟨h1, h2⟩ j a ha
   rw [Nat.zero_add]
   have h3 := h1 a (List.mem_of_getElem? ha)
   have : inP a 1 1099511627776 = true := by simpa [inP] using h3
   simp [axV, this, h2 j a ha]
 unfold aja
 cases h : aeF (axV l) 0 l with
 | none =>
   obtain ⟨h1, h2⟩ := h0.1 h
   simp only [decide_eq_true_eq]
   exact ⟨fun h3 => ⟨h1, h2, h3⟩, fun h3 => h3.2.2⟩
 | some x =>
   constructor
   ·intro h2; cases h2
   ·rintro ⟨h1, h2, h3⟩
    rw [h0.2 ⟨h1, h2⟩] at h; cases h
theorem aRl {a b : List Int} (ha : a.length ≤ 1000000) (hb : b.length ≤ 1000000) : acy [a, b] = some (a ++ b) := by
 have hk : ∀ n : Nat, n ≤ 4000000 → ∀ (f : Int → Option (List Int)), ck (n : Int) f = f n := fun n h f => acm (by omega) (by omega) f
 have second : ach (fun (v9 : (Val (.pair tI (.slice tI)))) kk12 => acE [a, b] (aco [a, b]) v9.1 v9.2 (fun u10 u11 => kk12 (u10, u11)) (fun z8 => some z8)) ((0 : Int), ([] : List Int)) = some (a ++ b) := by
  refine ac9 [a, b] (fun i => ([a, b].take i).flatten) (some (a ++ b)) (f := fun (v9 : (Val (.pair tI (.slice tI)))) kk12 => acE [a, b] (aco [a, b]) v9.1 v9.2 (fun u10 u11 => kk12 (u10, u11)) (fun z8 => some z8)) rfl (fun i x hi hx kn => ?_) (fun kn => ?_)
  ·try dsimp only
   unfold acE
   rw [acj hi, ace hx, acg hi (by simp), take_succ hx, List.flatten_append]
   have : acK ((List.take i [a, b]).flatten.length + x.length) = true := by
    refine acl ?_
    have h1 : x.length ≤ 1000000 := by
     have := List.mem_of_getElem? hx
     simp at this
     rcases this with rfl | rfl <;> assumption
    have h2 : (List.take i [a, b]).flatten.length ≤ 2000000 := by
     have : i = 0 ∨ i = 1 := by simp at hi; omega
     rcases this with rfl | rfl <;> simp <;> omega
    omega
   rw [adG this]
   simp
  ·try dsimp only
   unfold acE
   rw [acH]
   simp
 unfold acy afP
 refine afS (fun x : Int × Int => ∃ i : Nat, i ≤ 2 ∧ x = ((([a, b].take i).flatten.length : Int), (i : Int))) (fun x => 2 - x.2.toNat) ?_ ⟨0, by omega, rfl⟩
 rintro x ⟨i, hi, rfl⟩
 rcases Nat.lt_or_ge i 2 with h2 | h2
 ·refine .inr ⟨((([a, b].take (i + 1)).flatten.length : Int), (i : Int) + 1), ⟨i + 1, h2, by simp⟩, by simp; omega, fun kn => ?_⟩
  have hi' : i < [a, b].length := h2
  obtain ⟨x, hx⟩ : ∃ x, [a, b][i]? = some x := ⟨_, List.getElem?_eq_getElem hi'⟩
  have hxl : x.length ≤ 1000000 := by
   have := List.mem_of_getElem? hx
   simp at this
   rcases this with rfl | rfl <;> assumption
  have h3 : (List.take i [a, b]).flatten.length ≤ 2000000 := by
   have : i = 0 ∨ i = 1 := by omega
   rcases this with rfl | rfl <;> simp <;> omega
  try dsimp only
  unfold adt
  rw [acj hi', ace hx, acB]
  have e1 : (((List.take i [a, b]).flatten.length : Int) + (x.length : Int)) = ((List.take i [a, b]).flatten.length + x.length : Nat) := by omega
  rw [e1, hk _ (by omega)]
  have : ilt ((((List.take i [a, b]).flatten.length + x.length : Nat)) : Int) 0 = false := by simp [ilt]; omega
  rw [aci this, acg hi' (by simp), take_succ hx]
  simp
 ·refine .inl fun kn => ?_
  obtain rfl : i = 2 := by omega
  try dsimp only
  unfold adt
  rw [show ((2 : Nat) : Int) = (([a, b].length : Nat) : Int) from rfl, acH]
  have e1 : ((List.take 2 [a, b]).flatten.length : Int) = ((a.length + b.length : Nat) : Int) := by simp
  have e2 : ilt (((a.length + b.length : Nat)) : Int) 0 = false := by simp [ilt]; omega
  rw [e1]
  dsimp only
  rw [aci e2, Int.sub_zero, hk _ (by omega)]
  rcases Nat.eq_zero_or_pos (a.length + b.length) with h0 | h0
  ·have : igt (((a.length + b.length : Nat)) : Int) 0 = false := by simp [igt]; omega
   rw [aci this]
   exact second
  ·have : igt (((a.length + b.length : Nat)) : Int) 0 = true := by simp [igt]; omega
   rw [acp this]
   have : ((ilt (0 : Int) (((a.length + b.length : Nat)) : Int)) && (acK (Int.toNat (((a.length + b.length : Nat)) : Int)))) = true := by
    rw [Int.toNat_natCast, acl (by omega)]
    simp [ilt]; omega
   rw [adG this]
   have : ile 0 (adE (List.replicate (Int.toNat (((a.length + b.length : Nat)) : Int)) (0 : Int))) = true := by simp [ile]
   rw [adG this]
   exact second
def ayu (b : acs) (id day : Int) : Option ayv := b.2.2.2.1.find? fun l => l.1 == id && inP day l.2.1.1 l.2.1.2
theorem aM6 {α : Type} (p : α → Bool) : ∀ l : List α, l.find? p = (match l.findIdx? p with | some j => l[j]? | none => none)
 | [] => rfl
 | a :: l => by
   rw [List.find?_cons, List.findIdx?_cons]
   cases h : p a with
   | true => simp
   | false =>
     simp only [Bool.false_eq_true, if_false]
     rw [aM6 p l]
     cases l.findIdx? p <;> simp
theorem aT8 {b : acs} (hn : b.2.2.2.1.length ≤ 1000) (id day : Int) : ap9 b id day = some (match ayu b id day with | some l => (l, true) | none => ((0, (0, 0), 0), false)) := by
 unfold ap9 aGG
 refine Eq.trans (afZ b.2.2.2.1 (fun l => l.1 == id && inP day l.2.1.1 l.2.1.2) (fun z5 => ifb (ilt z5 (0 : Int)) (some (((0 : Int), ((0 : Int), (0 : Int)), (0 : Int)), false)) (adu b.2.2.2.1 z5 fun e6 => some (e6, true))) (some ((0, (0, 0), 0), false)) (fun i a hi ha kn => ?_) (fun kn => ?_)) ?_
 ·try dsimp only
  unfold ana
  rw [acj hi, ace ha, aeN, abZ, acg hi (by omega)]
  cases h1 : (a.1 == id) with
  | false =>
    have : ieq a.1 id = false := h1
    simp [this]
  | true =>
    have : ieq a.1 id = true := h1
    rw [this]
    cases inP day a.2.1.1 a.2.1.2 <;> simp
 ·try dsimp only
  unfold ana
  rw [acH]
 ·unfold ayu
  rw [aM6]
  cases h : b.2.2.2.1.findIdx? (fun l => l.1 == id && inP day l.2.1.1 l.2.1.2) with
  | none => rfl
  | some j =>
    obtain ⟨hj, _, _⟩ := List.findIdx?_eq_some_iff_getElem.1 h
    have : ilt (j : Int) 0 = false := by simp [ilt]
    try dsimp only
    rw [aci this, ace (List.getElem?_eq_getElem hj), List.getElem?_eq_getElem hj]
end Go.Proofs.ZzM
end
noncomputable section
namespace Go.Proofs.ZzM
open Go Go.Am
def aTL (a : Int) : List Int → List Int
 | [] => [a]
 | b :: t => if a ≤ b then a :: b :: t else b :: aTL a t
def aEn : List Int → List Int
 | [] => []
 | a :: t => aTL a (aEn t)
def aoe (p : Option Int) : List Int → List Int
 | [] => []
 | a :: t => if p = some a then aoe (some a) t else a :: aoe (some a) t
def aHx (l : List Int) : List Int := aoe none (aEn l)
theorem aBb (a : Int) : ∀ l, (aTL a l).Perm (a :: l)
 | [] => List.Perm.refl _
 | b :: t => by
   unfold aTL
   split
   ·exact List.Perm.refl _
   ·exact ((aBb a t).cons b).trans (List.Perm.swap a b t)
theorem ang : ∀ l, (aEn l).Perm l
 | [] => List.Perm.refl _
 | a :: t => (aBb a _).trans ((ang t).cons a)
theorem aBa (a : Int) : ∀ {l : List Int}, l.Pairwise (· ≤ ·) → (aTL a l).Pairwise (· ≤ ·)
 | [], _ => by simp [aTL]
 | b :: t, h => by
   rw [List.pairwise_cons] at h
   unfold aTL
   split
   ·rename_i hab
    refine List.pairwise_cons.2 ⟨fun x hx => ?_, List.pairwise_cons.2 h⟩
    rcases List.mem_cons.1 hx with rfl | hx
    ·exact hab
    ·have := h.1 x hx; omega
   ·rename_i hab
    refine List.pairwise_cons.2 ⟨fun x hx => ?_, aBa a h.2⟩
    rcases List.mem_cons.1 ((aBb a t).mem_iff.1 hx) with rfl | hx
    ·omega
    ·exact h.1 x hx
theorem anf : ∀ l : List Int, (aEn l).Pairwise (· ≤ ·)
 | [] => List.Pairwise.nil
 | a :: t => aBa a (anf t)
theorem aRB (l : List Int) : asA l = aEn l := by
 have h1 : (asA l).Pairwise (· ≤ ·) := by
  have := List.pairwise_mergeSort (le := fun a b : Int => decide (a ≤ b)) (fun a b c h1 h2 => by simp at *; omega) (fun a b => by simp; omega) l
  exact this.imp fun h => by simpa using h
 exact List.Perm.eq_of_pairwise (le := (· ≤ ·)) (fun a b _ _ h1 h2 => by omega) h1 (anf l) ((List.mergeSort_perm l _).trans (ang l).symm)
theorem aDz (a : Int) : ∀ (l : List Int) (p : Option Int), aoe p (l ++ [a]) = aoe p l ++ (if (match l.getLast? with | some b => some b | none => p) = some a then [] else [a])
 | [], p => by simp only [List.nil_append, aoe, List.getLast?_nil]; rfl
 | b :: t, p => by
   have ih := aDz a t (some b)
   have e : (match (b :: t).getLast? with | some c => some c | none => p) = (match t.getLast? with | some c => some c | none => some b) := by
    cases t with
    | nil => rfl
    | cons c t =>
      rw [List.getLast?_cons_cons]
      cases h : (c :: t).getLast? with
      | none => simp at h
      | some x => rfl
   rw [e]
   simp only [List.cons_append, aoe, ih]
   split <;> simp
theorem ari (l : List Int) : ∀ m, m ≤ l.length → Lib.compactUpTo l.toArray m = aoe none (l.take m)
 | 0, _ => by simp [Lib.compactUpTo, aoe]
 | m + 1, h => by
   have hm : m < l.length := h
   rw [Lib.compactUpTo_succ, ari l m (by omega), take_succ (List.getElem?_eq_getElem hm), aDz]
   congr 1
   have e1 : l.toArray[m]! = l[m] := by simp [getElem!_pos, hm]
   rw [e1]
   unfold Lib.keeps
   rw [e1]
   cases m with
   | zero => simp
   | succ m =>
     have hm' : m < l.length := by omega
     have e2 : l.toArray[m + 1 - 1]! = l[m] := by simp [getElem!_pos, hm']
     rw [e2]
     have e3 : (l.take (m + 1)).getLast? = some l[m] := by rw [take_succ (List.getElem?_eq_getElem hm'), List.getLast?_append]; rfl
     rw [e3]
     by_cases hne : l[m + 1] = l[m]
     ·simp [hne]
     ·have : ¬ l[m] = l[m + 1] := fun h => hne h.symm
      simp [hne, this]
theorem aLT (l : List Int) : aqc l = aoe none l := by
 unfold aqc Lib.compact
 rw [ari l l.length (Nat.le_refl _), List.take_length]
theorem aO8 (l : List Int) : aqc (asA l) = aHx l := by rw [aRB, aLT]; rfl
theorem aHG : ∀ {l : List Int} {p : Option Int} {x : Int}, p ≠ some x → (x ∈ aoe p l ↔ x ∈ l)
 | [], _, _, _ => Iff.rfl
 | a :: t, p, x, hp => by
   unfold aoe
   by_cases hx : x = a
   ·subst hx
    rw [if_neg hp]; simp
   ·have ih := aHG (l := t) (p := some a) (x := x) (fun e => hx (by cases e; rfl))
    split <;> simp [ih, hx]
theorem aMn : ∀ {l : List Int} {p : Option Int}, l.Pairwise (· ≤ ·) → (∀ q, p = some q → ∀ x ∈ l, q ≤ x) → (aoe p l).Pairwise (· < ·) ∧ ∀ q, p = some q → ∀ x ∈ aoe p l, q < x
 | [], p, _, _ => ⟨List.Pairwise.nil, fun _ _ _ h => by cases h⟩
 | a :: t, p, h, hp => by
   rw [List.pairwise_cons] at h
   obtain ⟨i1, i2⟩ := aMn (l := t) (p := some a) h.2 (fun q hq x hx => by cases hq; exact h.1 x hx)
   unfold aoe
   split
   ·rename_i e
    exact ⟨i1, fun q hq x hx => by rw [e] at hq; cases hq; exact i2 _ rfl x hx⟩
   ·rename_i e
    refine ⟨List.pairwise_cons.2 ⟨fun x hx => i2 _ rfl x hx, i1⟩, fun q hq x hx => ?_⟩
    have := hp q hq a (by simp)
    have hne : q ≠ a := fun h => e (by rw [hq, h])
    rcases List.mem_cons.1 hx with rfl | hx
    ·omega
    ·have := i2 _ rfl x hx; omega
theorem apL {l : List Int} {x : Int} : x ∈ aHx l ↔ x ∈ l := by
 unfold aHx
 rw [aHG (by simp), (ang l).mem_iff]
theorem aze (l : List Int) : (aHx l).Pairwise (· < ·) := (aMn (anf l) (fun q hq => by cases hq)).1
theorem aHH : ∀ (l : List Int) (p : Option Int), (aoe p l).length ≤ l.length
 | [], _ => Nat.le_refl _
 | a :: t, p => by
   have := aHH t (some a)
   unfold aoe
   split <;> simp <;> omega
theorem ayD (l : List Int) : (aHx l).length ≤ l.length := by
 unfold aHx
 have := aHH (aEn l) none
 rwa [(ang l).length_eq] at this
theorem aQ9 {l m : List Int} (hl : l.Pairwise (· < ·)) (hm : m.Pairwise (· < ·)) (h : ∀ x, x ∈ l ↔ x ∈ m) : l = m := by
 induction l generalizing m with
 | nil =>
   cases m with
   | nil => rfl
   | cons a t => have := (h a).2 (by simp); cases this
 | cons a t ih =>
   rw [List.pairwise_cons] at hl
   cases m with
   | nil => have := (h a).1 (by simp); cases this
   | cons b u =>
     rw [List.pairwise_cons] at hm
     have hab : a = b := by
      rcases List.mem_cons.1 ((h a).1 (by simp)) with h1 | h1
      ·exact h1
      ·rcases List.mem_cons.1 ((h b).2 (by simp)) with h2 | h2
       ·exact h2.symm
       ·have := hm.1 a h1; have := hl.1 b h2; omega
     subst hab
     rw [ih hl.2 hm.2 fun x => ?_]
     constructor
     ·intro hx
      rcases List.mem_cons.1 ((h x).1 (by simp [hx])) with h1 | h1
      ·have := hl.1 x hx; omega
      ·exact h1
     ·intro hx
      rcases List.mem_cons.1 ((h x).2 (by simp [hx])) with h1 | h1
      ·have := hm.1 x hx; omega
      ·exact h1
end Go.Proofs.ZzM
end
noncomputable section
namespace Go.Proofs.ZzM
open Go Go.Am
def awV (b : acs) (s : List (Int × acP)) (c : Cmp) : Int :=
 if (c.2.2.1 ++ c.2.2.2.1).any (fun id => ak5 s id c.2.1 == 5) then 5 else
 if (c.2.2.1 ++ c.2.2.2.1).any (fun id => ak5 s id c.2.1 == 4) then 4 else
 if (c.2.2.1 ++ c.2.2.2.1).any (fun id => (ayu b id c.2.1).isSome) then 9 else
 if 1 < (ac4 c.2.2.1 c.2.2.2.1).length then 1 else if 1 < (ac4 c.2.2.2.1 c.2.2.1).length then 1 else
 if (ac4 c.2.2.1 c.2.2.2.1).length + (ac4 c.2.2.2.1 c.2.2.1).length = 0 then 1 else 0
def aNS (c : Cmp) : Bool :=
 inP c.1 1 1099511627776 && (aLP c.2.1 && (inP c.2.2.2.2.1 (-1125899906842624) 1125899906842624 && (inP c.2.2.2.2.2.1 0 1073741824 && (akh c.2.2.2.2.2.2 (-10000) 10000 && (aja c.2.2.1 && aja c.2.2.2.1)))))
def aqb (b : acs) (s : List (Int × acP)) (i : Nat) (c : Cmp) : Int :=
 if !aNS c then 1 else if (b.2.2.2.2.1.take i).any (fun x => x.1 == c.1) then 6 else awV b s c
theorem aJC (a b : List Int) : (ac4 a b).length ≤ a.length := List.length_filter_le _ _
set_option maxHeartbeats 1000000 in
theorem aBG {b : acs} (hn : b.2.2.2.2.1.length ≤ 1000) (hl : b.2.2.2.1.length ≤ 1000) (s : List (Int × acP)) {i : Nat} {c : Cmp} (hA : c.2.2.1.length ≤ 1000) (hB : c.2.2.2.1.length ≤ 1000)
 (hc : b.2.2.2.2.1[i]? = some c) : adL b s i = some (aqb b s i c) := by
 have hi : i < b.2.2.2.2.1.length := (List.getElem?_eq_some_iff.1 hc).1
 unfold adL aiU aqb aNS
 rw [ace hc, aeN, abZ]
 cases inP c.1 1 1099511627776 with
 | false => rfl
 | true =>
 rw [aGX, abZ]
 cases aLP c.2.1 with
 | false => rfl
 | true =>
 rw [aeN, abZ]
 cases inP c.2.2.2.2.1 (-1125899906842624) 1125899906842624 with
 | false => rfl
 | true =>
 rw [aeN, abZ]
 cases inP c.2.2.2.2.2.1 0 1073741824 with
 | false => rfl
 | true =>
 rw [auC, abZ]
 cases akh c.2.2.2.2.2.2 (-10000) 10000 with
 | false => rfl
 | true =>
 rw [auA (by omega), abZ]
 cases aja c.2.2.1 with
 | false => rfl
 | true =>
 rw [auA (by omega), abZ]
 cases aja c.2.2.2.1 with
 | false => rfl
 | true =>
 have hg : ((ile (0 : Int) (i : Int)) && (ile (i : Int) (adE b.2.2.2.2.1))) = true := by simp [ile, adE]; omega
 simp only [Bool.not_true, acF, Bool.and_self, Bool.false_eq_true, if_false]
 rw [adG hg, Int.toNat_natCast]
 -- what comes behind the IDs
 have rest : (ab2 (acy ([c.2.2.1, c.2.2.2.1])) fun r12 => ach (fun (v36 : Int) kk38 => adR s r12 (aco ([(5 : Int), (4 : Int)])) c.2.1 ([(5 : Int), (4 : Int)]) v36 (fun u37 => kk38 u37) (fun z23 => some z23) (fun _ => ach (fun (v33 : Int) kk35 => adQ r12 (aco r12) b.1.1 b.1.2 b.2.1 b.2.2.1 b.2.2.2.1 b.2.2.2.2.1 b.2.2.2.2.2 c.2.1 v33 (fun u34 => kk35 u34) (fun z28 => some z28) (fun _ => ab2 (aeg c.2.2.1 c.2.2.2.1) fun r30 => ab2 (aeg c.2.2.2.1 c.2.2.1) fun r31 => ifb (igt (aco r30) (1 : Int)) (some (1 : Int)) (ifb (igt (aco r31) (1 : Int)) (some (1 : Int)) (ck ((aco r30) + (aco r31)) fun n32 => ifb (ieq n32 (0 : Int)) (some (1 : Int)) (some (0 : Int)))))) (0 : Int))) (0 : Int)) = some (awV b s c) := by
  rw [aRl (by omega) (by omega), abZ]
  have hall : (c.2.2.1 ++ c.2.2.2.1).length ≤ 2000 := by simp; omega
  have last : (ab2 (aeg c.2.2.1 c.2.2.2.1) fun r30 => ab2 (aeg c.2.2.2.1 c.2.2.1) fun r31 => ifb (igt (aco r30) (1 : Int)) (some (1 : Int)) (ifb (igt (aco r31) (1 : Int)) (some (1 : Int)) (ck ((aco r30) + (aco r31)) fun n32 => ifb (ieq n32 (0 : Int)) (some (1 : Int)) (some (0 : Int))))) =
   some (if 1 < (ac4 c.2.2.1 c.2.2.2.1).length then 1 else if 1 < (ac4 c.2.2.2.1 c.2.2.1).length then 1 else if (ac4 c.2.2.1 c.2.2.2.1).length + (ac4 c.2.2.2.1 c.2.2.1).length = 0 then 1 else 0) := by
   rw [alp (by omega) (by omega), abZ, alp (by omega) (by omega), abZ]
   have l1 := aJC c.2.2.1 c.2.2.2.1
   have l2 := aJC c.2.2.2.1 c.2.2.1
   rw [acB, acB, acm (by omega) (by omega)]
   by_cases c1 : 1 < (ac4 c.2.2.1 c.2.2.2.1).length
   ·rw [acp (by simp [igt]; omega), if_pos c1]
   rw [aci (by simp [igt]; omega), if_neg c1]
   by_cases c2 : 1 < (ac4 c.2.2.2.1 c.2.2.1).length
   ·rw [acp (by simp [igt]; omega), if_pos c2]
   rw [aci (by simp [igt]; omega), if_neg c2]
   by_cases c3 : (ac4 c.2.2.1 c.2.2.2.1).length + (ac4 c.2.2.2.1 c.2.2.1).length = 0
   ·rw [acp (by simp [ieq]; omega), if_pos c3]
   rw [aci (by simp [ieq]; omega), if_neg c3]
  refine Eq.trans (al8 [(5 : Int), 4] (fun _ want => if (c.2.2.1 ++ c.2.2.2.1).any (fun id => ak5 s id c.2.1 == want) then some want else none) some (some (if (c.2.2.1 ++ c.2.2.2.1).any (fun id => (ayu b id c.2.1).isSome) then 9 else if 1 < (ac4 c.2.2.1 c.2.2.2.1).length then 1 else if 1 < (ac4 c.2.2.2.1 c.2.2.1).length then 1 else if (ac4 c.2.2.1 c.2.2.2.1).length + (ac4 c.2.2.2.1 c.2.2.1).length = 0 then 1 else 0)) (fun j want hj hw kn => ?_) (fun kn => ?_)) ?_
  ·try dsimp only
   unfold adR
   rw [acj hj, afK hj, aem hw]
   refine Eq.trans (afy (c.2.2.1 ++ c.2.2.2.1) (fun id => ak5 s id c.2.1 == want) (fun _ => some want) (some want) (kn ((j : Int) + 1)) (fun _ => rfl) (fun k a hk ha kn' => ?_) (fun kn' => ?_)) ?_
   ·try dsimp only
    unfold afv
    rw [acj hk, ace ha, aK1, abZ, acg hk (by omega), adA]
   ·try dsimp only
    unfold afv
    rw [acH, acg hj (by simp)]
   ·cases List.any (c.2.2.1 ++ c.2.2.2.1) (fun id => ak5 s id c.2.1 == want) <;> rfl
  ·try dsimp only
   unfold adR
   rw [acH]
   refine Eq.trans (afy (c.2.2.1 ++ c.2.2.2.1) (fun id => (ayu b id c.2.1).isSome) (fun _ => some 9) (some 9) (some (if 1 < (ac4 c.2.2.1 c.2.2.2.1).length then 1 else if 1 < (ac4 c.2.2.2.1 c.2.2.1).length then 1 else if (ac4 c.2.2.1 c.2.2.2.1).length + (ac4 c.2.2.2.1 c.2.2.1).length = 0 then 1 else 0)) (fun _ => rfl) (fun k a hk ha kn' => ?_) (fun kn' => ?_)) ?_
   ·try dsimp only
    unfold adQ
    have haw := aT8 hl a c.2.1
    rw [acj hk, ace ha, acg hk (by omega)]
    rw [show ap9 ((b.1.1, b.1.2), b.2.1, b.2.2.1, b.2.2.2.1, b.2.2.2.2.1, b.2.2.2.2.2) a c.2.1 = ap9 b a c.2.1 from rfl, haw, abZ]
    cases ayu b a c.2.1 <;> rfl
   ·try dsimp only
    unfold adQ
    rw [acH, last]
   ·cases List.any (c.2.2.1 ++ c.2.2.2.1) (fun id => (ayu b id c.2.1).isSome) <;> rfl
  ·unfold awV aeF aeF aeF
   try dsimp only
   cases List.any (c.2.2.1 ++ c.2.2.2.1) (fun id => ak5 s id c.2.1 == 5) with
   | true => rfl
   | false =>
   cases List.any (c.2.2.1 ++ c.2.2.2.1) (fun id => ak5 s id c.2.1 == 4) <;> rfl
 refine Eq.trans (afy (b.2.2.2.2.1.take i) (fun x => x.1 == c.1) (fun z11 => ifb (ige z11 (0 : Int)) (some 6) (some (awV b s c))) (some 6) (some (awV b s c)) (fun j => ?_) (fun j a hj ha kn => ?_) (fun kn => ?_)) ?_
 ·have : ige (j : Int) 0 = true := by simp [ige]
  rw [acp this]
 ·try dsimp only
  unfold afw
  rw [rest, acj hj, ace ha, acg hj (by rw [List.length_take]; omega), adA]
 ·try dsimp only
  unfold afw
  rw [acH, rest]
 ·cases List.any (b.2.2.2.2.1.take i) (fun x => x.1 == c.1) <;> rfl
def aLO (b : acs) (g : acP) : List Int :=
 [g.2.1] ++ (b.2.2.2.2.1.filter fun c => !(c.2.2.1.contains g.1 == c.2.2.2.1.contains g.1)).map (fun c => c.2.1) ++ (b.2.2.2.2.2.filter fun n => n.1 == g.1).map (fun n => n.2)
def acv (b : acs) (g : acP) : List Int := aHx (aLO b g)
structure ag7 (b : acs) : Prop where
 gauges : b.2.1.length ≤ 1000
 uses : b.2.2.1.length ≤ 1000
 loans : b.2.2.2.1.length ≤ 1000
 compares : b.2.2.2.2.1.length ≤ 1000
 looks : b.2.2.2.2.2.length ≤ 1000
 piles : ∀ c ∈ b.2.2.2.2.1, c.2.2.1.length ≤ 1000 ∧ c.2.2.2.1.length ≤ 1000
theorem aHP (l : List Int) : (asA l).length = l.length := List.length_mergeSort l
theorem aJ2 {b : acs} (hs : ag7 b) (g : acP) : (aLO b g).length ≤ 2001 := by
 have h1 := hs.compares
 have h2 := hs.looks
 have h3 := List.length_filter_le (fun c : Cmp => !(c.2.2.1.contains g.1 == c.2.2.2.1.contains g.1)) b.2.2.2.2.1
 have h4 := List.length_filter_le (fun n : Int × Int => n.1 == g.1) b.2.2.2.2.2
 simp only [aLO, List.length_append, List.length_map, List.length_singleton]
 omega
theorem aQy {b : acs} (hs : ag7 b) (g : acP) : ajk b g = some (acv b g) := by
 unfold ajk aGE
 have hr := aJ2 hs g
 have hd : (acv b g).length ≤ 2001 := by
  unfold acv
  have := ayD (aLO b g)
  omega
 have hcl := hs.compares
 have hll := hs.looks
 refine ac9 b.2.2.2.2.1 (fun i => [g.2.1] ++ ((b.2.2.2.2.1.take i).filter fun c => !(c.2.2.1.contains g.1 == c.2.2.2.1.contains g.1)).map (fun c => c.2.1)) _ rfl (fun i c hi hc kn => ?_) (fun kn => ?_)
 ·try dsimp only
  unfold am8
  obtain ⟨p1, p2⟩ := hs.piles c (List.mem_of_getElem? hc)
  rw [acj hi, ace hc, aiN (by omega), abZ, aiN (by omega), abZ, acg hi (by omega), acg hi (by omega), take_succ hc, List.filter_append, List.map_append]
  have hlen : ([g.2.1] ++ ((b.2.2.2.2.1.take i).filter fun c => !(c.2.2.1.contains g.1 == c.2.2.2.1.contains g.1)).map (fun c => c.2.1)).length ≤ 1001 := by
   have h3 := List.length_filter_le (fun c : Cmp => !(c.2.2.1.contains g.1 == c.2.2.2.1.contains g.1)) (b.2.2.2.2.1.take i)
   rw [List.length_take] at h3
   simp only [List.length_append, List.length_map, List.length_singleton]
   omega
  rw [acl (by simp only [List.length_singleton]; omega), Am.iff_true]
  cases h : (c.2.2.1.contains g.1 == c.2.2.2.1.contains g.1) with
  | true => simp only [Bool.not_true, acF, List.filter_cons, h, Bool.false_eq_true, if_false, List.filter_nil, List.map_nil, List.append_nil]
  | false => simp only [Bool.not_false, adH, List.filter_cons, h, if_true, List.filter_nil, List.map_cons, List.map_nil, List.append_assoc]
 ·try dsimp only
  unfold am8
  rw [acH, List.take_length]
  refine ac9 b.2.2.2.2.2 (fun i => [g.2.1] ++ (b.2.2.2.2.1.filter fun c => !(c.2.2.1.contains g.1 == c.2.2.2.1.contains g.1)).map (fun c => c.2.1) ++ ((b.2.2.2.2.2.take i).filter fun n => n.1 == g.1).map (fun n => n.2)) _ (by simp) (fun i n hi hn kn => ?_) (fun kn => ?_)
  ·try dsimp only
   unfold am7
   rw [acj hi, ace hn, acg hi (by omega), acg hi (by omega), take_succ hn, List.filter_append, List.map_append]
   have hlen : ([g.2.1] ++ (b.2.2.2.2.1.filter fun c => !(c.2.2.1.contains g.1 == c.2.2.2.1.contains g.1)).map (fun c => c.2.1) ++ ((b.2.2.2.2.2.take i).filter fun n => n.1 == g.1).map (fun n => n.2)).length ≤ 2001 := by
    have h3 := List.length_filter_le (fun c : Cmp => !(c.2.2.1.contains g.1 == c.2.2.2.1.contains g.1)) b.2.2.2.2.1
    have h4 := List.length_filter_le (fun n : Int × Int => n.1 == g.1) (b.2.2.2.2.2.take i)
    rw [List.length_take] at h4
    simp only [List.length_append, List.length_map, List.length_singleton]
    omega
   rw [acl (by simp only [List.length_singleton]; omega), Am.iff_true]
   cases h : (n.1 == g.1) with
   | true =>
     have : ieq n.1 g.1 = true := h
     simp [h, this]
   | false =>
     have : ieq n.1 g.1 = false := h
     simp [h, this]
  ·try dsimp only
   unfold am7
   rw [acH, List.take_length]
   rw [show ([g.2.1] ++ (b.2.2.2.2.1.filter fun c => !(c.2.2.1.contains g.1 == c.2.2.2.1.contains g.1)).map (fun c => c.2.1) ++ (b.2.2.2.2.2.filter fun n => n.1 == g.1).map (fun n => n.2)) = aLO b g from rfl]
   dsimp only
   rw [acl (by omega), Am.iff_true, acl (by rw [aHP]; omega), Am.iff_true, aO8]
   rfl
def aca (b : acs) : List (Int × Int) := b.2.1.flatMap fun g => (acv b g).map fun d => ((g.1, d) : Int × Int)
theorem aBB {b : acs} (hs : ag7 b) (g : acP) : (acv b g).length ≤ 2001 := by
 unfold acv
 have := ayD (aLO b g)
 have := aJ2 hs g
 omega
theorem aso {α β : Type} (f : α → List β) (n : Nat) (h : ∀ a, (f a).length ≤ n) : ∀ l : List α, (l.flatMap f).length ≤ l.length * n
 | [] => by simp
 | a :: l => by
   have := aso f n h l
   have := h a
   simp only [List.flatMap_cons, List.length_append, List.length_cons, Nat.add_mul, Nat.one_mul]
   omega
theorem aFg {b : acs} (hs : ag7 b) : aka b = some (aca b) := by
 unfold aka aAR
 have hg := hs.gauges
 have hlen : ∀ l : List acP, (l.flatMap fun g => (acv b g).map fun d => ((g.1, d) : Int × Int)).length ≤ l.length * 2001 := fun l =>
  aso _ 2001 (fun g => by rw [List.length_map]; exact aBB hs g) l
 refine ac9 b.2.1 (fun i => (b.2.1.take i).flatMap fun g => (acv b g).map fun d => ((g.1, d) : Int × Int)) _ rfl (fun i g hi hg' kn => ?_) (fun kn => ?_)
 ·try dsimp only
  unfold akQ
  rw [acj hi, ace hg']
  rw [show ajk ((b.1.1, b.1.2), b.2.1, b.2.2.1, b.2.2.2.1, b.2.2.2.2.1, b.2.2.2.2.2) g = ajk b g from rfl, aQy hs, abZ]
  have hd := aBB hs g
  have hi2 := hlen (b.2.1.take i)
  have htl : (b.2.1.take i).length ≤ 1000 := by rw [List.length_take]; omega
  refine ac9 (acv b g) (fun j => ((b.2.1.take i).flatMap fun g => (acv b g).map fun d => ((g.1, d) : Int × Int)) ++ ((acv b g).take j).map fun d => ((g.1, d) : Int × Int)) _ (by simp) (fun j d hj hd' kn' => ?_) (fun kn' => ?_)
  ·try dsimp only
   unfold akP
   rw [acj hj, ace hd', acg hj (by omega), take_succ hd', List.map_append]
   rw [acl (by simp only [List.length_append, List.length_map, List.length_take, List.length_singleton]; omega), Am.iff_true]
   simp
  ·try dsimp only
   unfold akP
   rw [acH, List.take_length]
   dsimp only
   rw [acg hi (by omega), take_succ hg', List.flatMap_append]
   simp
 ·try dsimp only
  unfold akQ
  rw [acH, List.take_length]
  rfl
def awW (b : acs) (s : List (Int × acP)) : List Int :=
 b.2.2.1.map (fun u => aSV s u.1 u.2) ++ (b.2.2.2.1.mapIdx (fun i l => aJx b s i l) ++ (b.2.2.2.2.1.mapIdx (fun i c => aqb b s i c) ++ b.2.2.2.2.2.map (fun u => aSV s u.1 u.2)))
theorem aIz {α : Type} {f : Int → Option Int} {g : Nat → α → Int} (l : List α) (h : ∀ (i : Nat) (a : α), l[i]? = some a → f i = some (g i a)) : azH f (aod l.length) = some (l.mapIdx g) := by
 have h1 : ∀ i, i < l.length → f (i : Int) = some ((l.mapIdx g)[i]?.getD 0) := by
  intro i hi
  rw [h i l[i] (List.getElem?_eq_getElem hi)]
  simp [hi]
 have h2 : ∀ x ∈ aod l.length, f x = some ((l.mapIdx g)[x.toNat]?.getD 0) := by
  intro x hx
  unfold aod at hx
  obtain ⟨i, hi, rfl⟩ := List.mem_map.1 hx
  rw [h1 i (by simpa using hi)]
  rfl
 rw [asY h2]
 congr 1
 refine List.ext_getElem (by simp [aod]) fun i h3 h4 => ?_
 have h5 : i < l.length := by simpa using h4
 simp [aod, h5]
theorem aRJ {b : acs} (hs : ag7 b) (s : List (Int × acP)) : aiG b s = some (awW b s) := by
 unfold aiG awW
 rw [asY (fun u _ => aH8 s u.1 u.2), abZ, aIz b.2.2.2.1 (fun i l hl => aJ6 hs.loans hs.uses s hl), abZ,
  aIz b.2.2.2.2.1 (fun i c hc => aBG hs.compares hs.loans s (hs.piles c (List.mem_of_getElem? hc)).1 (hs.piles c (List.mem_of_getElem? hc)).2 hc), abZ, asY (fun u _ => aH8 s u.1 u.2), abZ]
def acw (b : acs) : Int :=
 if !akh b.1 0 1000000 then 1 else
 if 12 < b.2.1.length then 2 else if 40 < b.2.2.1.length then 2 else if 12 < b.2.2.2.1.length then 2 else if 40 < b.2.2.2.2.1.length then 2 else if 10 < b.2.2.2.2.2.length then 2 else
 if aiY b != 0 then aiY b else
 match (awW b (aiO b)).find? (fun e => e != 0) with
 | some e => e
 | none => if 59 < (aca b).length then 2 else if 300 < 2 * b.2.1.length + 2 * ((aca b).length - b.2.1.length : Int) + 2 * b.2.2.2.2.1.length then 2 else 0
theorem avo {b : acs} (hs : ag7 b) : (aca b).length ≤ 2001000 := by
 have := aso (fun g : acP => (acv b g).map fun d => ((g.1, d) : Int × Int)) 2001 (fun g => by rw [List.length_map]; exact aBB hs g) b.2.1
 have h2 := hs.gauges
 unfold aca
 omega
theorem afC {b : acs} (hs : ag7 b) (hr : ∀ g ∈ b.2.1, I64 g.2.2.2.2.1.1) : acM b = some (acw b) := by
 unfold acM aA2 acw
 rw [auC, abZ]
 cases akh b.1 0 1000000 with
 | false => rfl
 | true =>
 have h1 := hs.gauges
 have h2 := hs.compares
 have h3 := avo hs
 rw [aci (show (!true) = false from rfl), if_neg (by simp)]
 simp only [acB]
 by_cases c0 : 12 < b.2.1.length
 ·rw [acp (by simp [igt]; omega), if_pos c0]
 rw [aci (by simp [igt]; omega), if_neg c0]
 by_cases c1 : 40 < b.2.2.1.length
 ·rw [acp (by simp [igt]; omega), if_pos c1]
 rw [aci (by simp [igt]; omega), if_neg c1]
 by_cases c2 : 12 < b.2.2.2.1.length
 ·rw [acp (by simp [igt]; omega), if_pos c2]
 rw [aci (by simp [igt]; omega), if_neg c2]
 by_cases c3 : 40 < b.2.2.2.2.1.length
 ·rw [acp (by simp [igt]; omega), if_pos c3]
 rw [aci (by simp [igt]; omega), if_neg c3]
 by_cases c4 : 10 < b.2.2.2.2.2.length
 ·rw [acp (by simp [igt]; omega), if_pos c4]
 rw [aci (by simp [igt]; omega), if_neg c4]
 rw [aDq hr h1, abZ]
 cases hm : (aiY b != 0) with
 | true =>
   have : ine (aiY b) 0 = true := hm
   rw [acp this, if_pos rfl]
 | false =>
 have : ine (aiY b) 0 = false := hm
 rw [aci this, if_neg (by simp)]
 rw [aDG h1, abZ]
 unfold aHY
 rw [aRJ hs, abZ]
 cases (awW b (aiO b)).find? (fun e => e != 0) with
 | some e => rfl
 | none =>
 dsimp only
 rw [aFg hs, abZ]
 by_cases c5 : 59 < (aca b).length
 ·rw [acp (by simp [igt]; omega), if_pos c5]
 rw [aci (by simp [igt]; omega), if_neg c5]
 rw [acm (by omega) (by omega), acm (by omega) (by omega), acm (by omega) (by omega), acm (by omega) (by omega), acm (by omega) (by omega), acm (by omega) (by omega)]
 by_cases c6 : 300 < 2 * b.2.1.length + 2 * ((aca b).length - b.2.1.length : Int) + 2 * b.2.2.2.2.1.length
 ·rw [acp (by simp [igt]; omega), if_pos c6]
 rw [aci (by simp [igt]; omega), if_neg c6]
end Go.Proofs.ZzM
end
noncomputable section
namespace Go.Proofs.ZzM
open Go Go.Am
theorem wrapU {n : Nat} (h : n < 18446744073709551616) : IntKind.wrap .u64 (n : Int) = n := by
 simp only [IntKind.wrap, IntKind.bits, IntKind.signed]
 simp
 omega
theorem wrapI {n : Nat} (h : n < 9223372036854775808) : IntKind.wrap .i64 (n : Int) = n := by
 simp only [IntKind.wrap, IntKind.bits, IntKind.signed]
 simp
 omega
def agq (l : List (Int × Int)) (x d : Int) : Option Nat := l.findIdx? fun n => decide (x = n.1) && decide (d = n.2)
theorem aKp {l : List (Int × Int)} (hn : l.length ≤ 100000000) (x d : Int) : acL l (x, d) = some (match agq l x d with | some j => (j : Int) | none => -1) := by
 unfold acL aev
 refine Eq.trans (afZ l (fun n => decide (x = n.1) && decide (d = n.2)) some (some (-1)) (fun i a hi ha kn => ?_) (fun kn => ?_)) ?_
 ·try dsimp only
  unfold ado
  rw [acj hi, ace ha, acg hi (by omega), adA, Bool.and_true]
 ·try dsimp only
  unfold ado
  rw [acH]
 ·unfold agq
  cases List.findIdx? (fun n => decide (x = n.1) && decide (d = n.2)) l <;> rfl
def atP (l : List (Int × Int)) (p : List Int) (d : Int) : Int :=
 match p with
 | [] => 0
 | x :: _ => match agq l x d with | some j => (j : Int) + 1 | none => 0
theorem agX {l : List (Int × Int)} {x d : Int} {j : Nat} (h : agq l x d = some j) : j < l.length ∧ l[j]? = some (x, d) := by
 unfold agq at h
 obtain ⟨hj, hp, _⟩ := List.findIdx?_eq_some_iff_getElem.1 h
 refine ⟨hj, ?_⟩
 rw [List.getElem?_eq_getElem hj]
 simp only [Bool.and_eq_true, decide_eq_true_eq] at hp
 congr 1
 exact Prod.ext hp.1.symm hp.2.symm
theorem aQ6 (m : Maker) (p : List Int) (d : Int) (hn : m.2.1.length ≤ 100000000) : afr m p d = some (atP m.2.1 p d) := by
 unfold afr ao3 atP
 cases p with
 | nil => simp [acB, ieq]
 | cons x p =>
   have h : ieq (aco (x :: p)) 0 = false := by
    rw [acB]
    simp only [ieq, List.length_cons, beq_eq_false_iff_ne, ne_eq]
    omega
   rw [h, acF, show (0 : Int) = ((0 : Nat) : Int) from rfl, ace (a := x) rfl, aKp hn, abZ]
   cases hx : agq m.2.1 x d with
   | none => dsimp only; rw [acm (by omega) (by omega)]; simp only [hx]; rfl
   | some j =>
     have := (agX hx).1
     dsimp only
     rw [acm (by omega) (by omega)]
     simp only [hx]
def arx (s : List (Int × acP)) (p : List Int) : Int × Int :=
 match p with
 | [] => (0, 1)
 | x :: _ => match alI (k := tI) (v := acd) x s with
   | some g => g.2.2.2.2.1
   | none => (0, 0)
theorem aHX (s : List (Int × acP)) (p : List Int) : afG s p = some (arx s p) := by
 unfold afG aiT arx
 cases p with
 | nil => simp [acB, ieq]
 | cons x p =>
   have h : ieq (aco (x :: p)) 0 = false := by
    rw [acB]
    simp only [ieq, List.length_cons, beq_eq_false_iff_ne, ne_eq]
    omega
   rw [h, acF, show (0 : Int) = ((0 : Nat) : Int) from rfl, ace (a := x) rfl]
   cases hx : alI (k := tI) (v := acd) x s with
   | none => simp only [aHy, hx]
   | some g => simp only [aHy, hx]
theorem aMk {l : List (Int × Int)} (hr : ∀ r ∈ l, I64 r.1) (hn : l.length ≤ 1000) : agD l = some (if l.any (fun r => !aCa r) then 1 else 0) := by
 unfold agD aAv
 refine Eq.trans (afy l (fun r => !aCa r) (fun _ => some 1) (some 1) (some 0) (fun _ => rfl) (fun i a hi ha kn => ?_) (fun kn => ?_)) ?_
 ·try dsimp only
  unfold akL
  rw [acj hi, ace ha, aHr (hr a (List.mem_of_getElem? ha)), abZ, acg hi (by omega), adA]
 ·try dsimp only
  unfold akL
  rw [acH]
 ·cases l.any (fun r => !aCa r) <;> rfl
def anE (n d : Int) : Int × Int := (n / (Nat.gcd n.natAbs d.natAbs : Nat), d / (Nat.gcd n.natAbs d.natAbs : Nat))
theorem ai9 (r : Int × Int) : aCa r = true ↔ 1 ≤ r.2 ∧ r.2 ≤ 2147483647 ∧ (r.1.natAbs : Int) ≤ 2147483647 ∧ Nat.gcd r.1.natAbs r.2.natAbs = 1 := by
 simp [aCa]
theorem aE1 {n d : Int} (hd : 0 < d) : ∃ g : Nat, 0 < g ∧ g = Nat.gcd n.natAbs d.natAbs ∧ n = (anE n d).1 * g ∧ d = (anE n d).2 * g := by
 have hg : 0 < Nat.gcd n.natAbs d.natAbs := Nat.gcd_pos_of_pos_right _ (by omega)
 refine ⟨_, hg, rfl, ?_, ?_⟩
 ·exact (Int.ediv_mul_cancel (Int.ofNat_dvd_left.2 (Nat.gcd_dvd_left _ _))).symm
 ·exact (Int.ediv_mul_cancel (Int.ofNat_dvd_left.2 (Nat.gcd_dvd_right _ _))).symm
theorem aKR {n d : Int} (hd : 0 < d) (hn : n.natAbs ≤ 2147483647) (hd2 : d ≤ 2147483647) : aCa (anE n d) = true := by
 obtain ⟨g, h0, hg, h1, h2⟩ := aE1 (n := n) hd
 rw [ai9]
 have a1 : n.natAbs = (anE n d).1.natAbs * g := by conv => lhs; rw [h1]; rw [Int.natAbs_mul, Int.natAbs_natCast]
 have a2 : d.natAbs = (anE n d).2.natAbs * g := by conv => lhs; rw [h2]; rw [Int.natAbs_mul, Int.natAbs_natCast]
 have p2 : 0 < (anE n d).2 := by
  rcases Int.lt_trichotomy (anE n d).2 0 with h | h | h
  ·have := Int.mul_neg_of_neg_of_pos h (show (0 : Int) < g by omega); omega
  ·rw [h] at h2; simp at h2; omega
  ·exact h
 have b1 : (anE n d).1.natAbs ≤ n.natAbs := by rw [a1]; exact Nat.le_mul_of_pos_right _ h0
 have b2 : (anE n d).2.natAbs ≤ d.natAbs := by rw [a2]; exact Nat.le_mul_of_pos_right _ h0
 refine ⟨by omega, by omega, by omega, ?_⟩
 have := Nat.gcd_mul_right (anE n d).1.natAbs g (anE n d).2.natAbs
 rw [← a1, ← a2, ← hg] at this
 have h3 : (Nat.gcd (anE n d).1.natAbs (anE n d).2.natAbs) * g = 1 * g := by omega
 exact Nat.eq_of_mul_eq_mul_right h0 h3
theorem aDJ {n d : Int} (hd : 0 < d) (hn : n.natAbs ≤ 2147483647) (hd2 : d ≤ 2147483647) : aj9 n d = some (anE n d, 0) := by
 obtain ⟨g, h0, hg, h1, h2⟩ := aE1 (n := n) hd
 have hr := (ai9 _).1 (aKR hd hn hd2)
 unfold aj9 ar4
 rw [aEW ⟨by omega, by omega⟩, abZ, aEW ⟨by omega, by omega⟩, abZ, aS3, abZ, ← hg]
 have a1 : n.natAbs = (anE n d).1.natAbs * g := by conv => lhs; rw [h1]; rw [Int.natAbs_mul, Int.natAbs_natCast]
 have a2 : d.natAbs = (anE n d).2.natAbs * g := by conv => lhs; rw [h2]; rw [Int.natAbs_mul, Int.natAbs_natCast]
 have q1 : Int.tdiv (n.natAbs : Int) (g : Int) = ((anE n d).1.natAbs : Int) := by
  rw [a1, Int.natCast_mul]; exact Int.mul_tdiv_cancel _ (by omega)
 have q2 : Int.tdiv (d.natAbs : Int) (g : Int) = ((anE n d).2.natAbs : Int) := by
  rw [a2, Int.natCast_mul]; exact Int.mul_tdiv_cancel _ (by omega)
 have z : aeA (g : Int) 0 = false := by simp [aeA]; omega
 have g1 : igt ((anE n d).1.natAbs : Int) 2147483647 = false := by simp [igt]; omega
 have g2 : igt ((anE n d).2.natAbs : Int) 2147483647 = false := by simp [igt]; omega
 rw [aci z, aci z, q1, q2, wrapU (by omega), wrapU (by omega), wrapI (by omega), wrapI (by omega), aci g1, aci g2]
 have hd0 : ilt d 0 = false := by simp [ilt]; omega
 rw [hd0]
 have e2 : ((anE n d).2.natAbs : Int) = (anE n d).2 := by omega
 rw [e2]
 by_cases hneg : n < 0
 ·have hn0 : ilt n 0 = true := by simp [ilt, hneg]
  have : (anE n d).1 ≤ 0 := by
   rcases Int.lt_or_le 0 (anE n d).1 with h | h
   ·have := Int.mul_pos h (show (0 : Int) < g by omega); omega
   ·exact h
  rw [hn0]
  rw [show (!true == false) = true from rfl, adH, acm (by omega) (by omega)]
  have : 0 - ((anE n d).1.natAbs : Int) = (anE n d).1 := by omega
  rw [this]
 ·have hn0 : ilt n 0 = false := by simp [ilt]; omega
  have : 0 ≤ (anE n d).1 := by
   rcases Int.lt_or_le (anE n d).1 0 with h | h
   ·have := Int.mul_neg_of_neg_of_pos h (show (0 : Int) < g by omega); omega
   ·exact h
  rw [hn0]
  rw [show (!false == false) = false from rfl, acF]
  have : ((anE n d).1.natAbs : Int) = (anE n d).1 := by omega
  rw [this]
structure amq (r : Int × Int) (n d : Int) : Prop where
 rat : aCa r = true
 num : -n ≤ r.1 ∧ r.1 ≤ n
 den : r.2 ≤ d
theorem amq.pos {r : Int × Int} {n d : Int} (h : amq r n d) : 1 ≤ r.2 := ((ai9 r).1 h.rat).1
theorem amq.i64 {r : Int × Int} {n d : Int} (h : amq r n d) : I64 r.1 := by
 have := ((ai9 r).1 h.rat).2.2.1
 exact ⟨by omega, by omega⟩
theorem aOU {x y : Int × Int} (hx : aCa x = true) (hy : aCa y = true) : agD [x, y] = some 0 := by
 rw [aMk]
 ·simp [hx, hy]
 ·intro r hr
  have : aCa r = true := by simp at hr; rcases hr with rfl | rfl <;> assumption
  have := ((ai9 r).1 this).2.2.1
  exact ⟨by omega, by omega⟩
 ·simp
theorem akr {a b m n : Int} (h1 : -m ≤ a ∧ a ≤ m) (h2 : -n ≤ b ∧ b ≤ n) : -(m * n) ≤ a * b ∧ a * b ≤ m * n := by
 have hm : 0 ≤ m := by omega
 have hn : 0 ≤ n := by omega
 have h3 : (a * b).natAbs ≤ (m * n).natAbs := by
  rw [Int.natAbs_mul, Int.natAbs_mul]
  exact Nat.mul_le_mul (by omega) (by omega)
 have h4 : 0 ≤ m * n := Int.mul_nonneg hm hn
 omega
def subP (x y : Int × Int) : Int × Int := anE (x.1 * y.2 - y.1 * x.2) (x.2 * y.2)
theorem aDC {x y : Int × Int} (hx : amq x 1000 100) (hy : amq y 1000 100) : (x.1 * y.2 - y.1 * x.2).natAbs ≤ 200000 ∧ 0 < x.2 * y.2 ∧ x.2 * y.2 ≤ 10000 := by
 have h1 := akr hx.num (show -100 ≤ y.2 ∧ y.2 ≤ 100 from ⟨by have := hy.pos; omega, hy.den⟩)
 have h2 := akr hy.num (show -100 ≤ x.2 ∧ x.2 ≤ 100 from ⟨by have := hx.pos; omega, hx.den⟩)
 have h3 := akr (show -100 ≤ x.2 ∧ x.2 ≤ 100 from ⟨by have := hx.pos; omega, hx.den⟩) (show -100 ≤ y.2 ∧ y.2 ≤ 100 from ⟨by have := hy.pos; omega, hy.den⟩)
 have h4 := Int.mul_pos (show 0 < x.2 by have := hx.pos; omega) (show 0 < y.2 by have := hy.pos; omega)
 refine ⟨by omega, h4, by omega⟩
theorem Sub_ok {x y : Int × Int} (hx : amq x 1000 100) (hy : amq y 1000 100) : aG5 x y = some (subP x y, 0) := by
 obtain ⟨b1, b2, b3⟩ := aDC hx hy
 have h1 := akr hx.num (show -100 ≤ y.2 ∧ y.2 ≤ 100 from ⟨by have := hy.pos; omega, hy.den⟩)
 have h2 := akr hy.num (show -100 ≤ x.2 ∧ x.2 ≤ 100 from ⟨by have := hx.pos; omega, hx.den⟩)
 unfold aG5 aLn
 rw [aOU hx.rat hy.rat, abZ]
 rw [show ine (0 : Int) 0 = false from rfl, acF, acm (by omega) (by omega), acm (by omega) (by omega), acm (by omega) (by omega), acm (by omega) (by omega), aDJ b2 (by omega) (by omega), abZ]
 rfl
theorem aPi {n d : Int} (hd : 0 < d) : (anE n d).1.natAbs ≤ n.natAbs ∧ (anE n d).2 ≤ d := by
 obtain ⟨g, h0, hg, h1, h2⟩ := aE1 (n := n) hd
 have a1 : n.natAbs = (anE n d).1.natAbs * g := by conv => lhs; rw [h1]; rw [Int.natAbs_mul, Int.natAbs_natCast]
 have a2 : d.natAbs = (anE n d).2.natAbs * g := by conv => lhs; rw [h2]; rw [Int.natAbs_mul, Int.natAbs_natCast]
 have b1 : (anE n d).1.natAbs ≤ n.natAbs := by rw [a1]; exact Nat.le_mul_of_pos_right _ h0
 have b2 : (anE n d).2.natAbs ≤ d.natAbs := by rw [a2]; exact Nat.le_mul_of_pos_right _ h0
 exact ⟨b1, by omega⟩
theorem aER {x y : Int × Int} (hx : amq x 1000 100) (hy : amq y 1000 100) : amq (subP x y) 200000 10000 := by
 obtain ⟨b1, b2, b3⟩ := aDC hx hy
 obtain ⟨c1, c2⟩ := aPi (n := x.1 * y.2 - y.1 * x.2) b2
 exact ⟨aKR b2 (by omega) (by omega), by unfold subP; omega, by unfold subP; omega⟩
def aOI (k : Int × Int) (n : Int) : Int × Int := anE (k.1 * n) k.2
theorem aDX {k : Int × Int} (hk : amq k 200000 10000) {n : Int} (hn : -10000 ≤ n ∧ n ≤ 10000) : (k.1 * n).natAbs ≤ 2000000000 := by
 have := akr hk.num hn
 omega
theorem aLD {n : Int} (hn : -10000 ≤ n ∧ n ≤ 10000) : aCa (n, 1) = true := by
 rw [ai9]
 exact ⟨by simp, by simp, by simp; omega, by simp⟩
theorem aTh {k : Int × Int} (hk : amq k 200000 10000) {n : Int} (hn : -10000 ≤ n ∧ n ≤ 10000) : aBv k (n, 1) = some (aOI k n, 0) := by
 have b := aDX hk hn
 have p := hk.pos
 have q := hk.den
 unfold aBv aLp
 rw [aOU hk.rat (aLD hn), abZ]
 rw [show ine (0 : Int) 0 = false from rfl, acF, acm (by simp only; omega) (by simp only; omega), Int.mul_one, acm (by omega) (by omega), aDJ (by omega) (by simp only; omega) (by omega), abZ]
 rfl
theorem aFk {k : Int × Int} (hk : amq k 200000 10000) {n : Int} (hn : -10000 ≤ n ∧ n ≤ 10000) : amq (aOI k n) 2000000000 10000 := by
 have b := aDX hk hn
 have p := hk.pos
 have q := hk.den
 obtain ⟨c1, c2⟩ := aPi (n := k.1 * n) (show 0 < k.2 by omega)
 exact ⟨aKR (by omega) (by omega) (by omega), by unfold aOI; omega, by unfold aOI; omega⟩
def cmpP (x y : Int × Int) : Int := if x = y then 0 else if x.1 * y.2 < y.1 * x.2 then -1 else if y.1 * x.2 < x.1 * y.2 then 1 else 0
theorem aS9 {x y : Int × Int} {m d : Int} (hx : amq x m d) (hy : amq y m d) (hm : m ≤ 2000000000) (hd : d ≤ 10000) : aBt x y = some (cmpP x y) := by
 have h1 := akr hx.num (show -d ≤ y.2 ∧ y.2 ≤ d from ⟨by have := hy.pos; have := hy.den; omega, hy.den⟩)
 have h2 := akr hy.num (show -d ≤ x.2 ∧ x.2 ≤ d from ⟨by have := hx.pos; have := hx.den; omega, hx.den⟩)
 have h0 : 0 ≤ m ∧ 0 ≤ d := ⟨by have := hx.num; omega, by have := hx.pos; have := hx.den; omega⟩
 have h3 : m * d ≤ 2000000000 * 10000 := Int.mul_le_mul hm hd h0.2 (by omega)
 unfold aBt aLl cmpP
 rw [acm (by omega) (by omega), acm (by omega) (by omega)]
 simp only [adA, Bool.and_true, Bool.and_eq_true, decide_eq_true_eq, aeA, ilt, igt, gt_iff_lt]
 have : (x.1 = y.1 ∧ x.2 = y.2) ↔ x = y := ⟨fun h => Prod.ext h.1 h.2, fun h => by rw [h]; exact ⟨rfl, rfl⟩⟩
 simp only [this]
 (repeat' split) <;> rfl
def aNN (k : Int × Int) (heat : Int × Int) : (Int × Int) × (Int × Int) :=
 if 0 < cmpP (aOI k heat.1) (aOI k heat.2) then (aOI k heat.2, aOI k heat.1) else (aOI k heat.1, aOI k heat.2)
theorem aTB {k heat : Int × Int} (hk : amq k 200000 10000) (hh : akh heat (-10000) 10000 = true) : ajj k heat = some (aNN k heat) := by
 simp only [akh, Bool.and_eq_true, decide_eq_true_eq] at hh
 obtain ⟨h1, h2, h3⟩ := hh
 have n1 : -10000 ≤ heat.1 ∧ heat.1 ≤ 10000 := ⟨by omega, by omega⟩
 have n2 : -10000 ≤ heat.2 ∧ heat.2 ≤ 10000 := ⟨by omega, by omega⟩
 have r1 : amq (heat.1, 1) 10000 10000 := ⟨aLD n1, n1, by simp⟩
 have r2 : amq (heat.2, 1) 10000 10000 := ⟨aLD n2, n2, by simp⟩
 unfold ajj amX aBu aAF als alk
 rw [aOU r1.rat r2.rat, abZ]
 have : ieq 0 0 = true := rfl
 rw [acp this, aS9 r1 r2 (by omega) (by omega), abZ]
 have hc : ile (cmpP (heat.1, 1) (heat.2, 1)) 0 = true := by
  unfold cmpP
  simp only [ile, decide_eq_true_eq, Int.mul_one]
  split
  ·omega
  ·split
   ·omega
   ·rw [if_neg (by omega)]; omega
 rw [hc, abZ]
 simp only [Bool.not_true, acF]
 rw [aHr hk.i64, hk.rat, abZ]
 simp only [Bool.not_true, acF]
 rw [aTh hk n1, abZ, aTh hk n2, abZ]
 simp only [show ine (0 : Int) 0 = false from rfl, acF]
 rw [aS9 (aFk hk n1) (aFk hk n2) (by omega) (by omega), abZ]
 unfold aNN
 rw [adA]
 by_cases h : 0 < cmpP (aOI k heat.1) (aOI k heat.2)
 ·rw [if_pos h, if_pos (by simpa [igt] using h)]; rfl
 ·rw [if_neg h, if_neg (by simpa [igt] using h)]; rfl
def rateK (s : List (Int × acP)) (c : Cmp) : Int × Int := subP (arx s (ac4 c.2.2.1 c.2.2.2.1)) (arx s (ac4 c.2.2.2.1 c.2.2.1))
def ads (b : acs) (c : Cmp) : (Int × Int) × (Int × Int) := aNN (rateK (aiO b) c) c.2.2.2.2.2.2
theorem aJO {b : acs} (hs : ag7 b) {c : Cmp} (hA : c.2.2.1.length ≤ 1000) (hB : c.2.2.2.1.length ≤ 1000)
 (h1 : amq (arx (aiO b) (ac4 c.2.2.1 c.2.2.2.1)) 1000 100) (h2 : amq (arx (aiO b) (ac4 c.2.2.2.1 c.2.2.1)) 1000 100) (hh : akh c.2.2.2.2.2.2 (-10000) 10000 = true) : ajz b c = some (ads b c) := by
 unfold ajz av9
 rw [aDG hs.gauges, abZ, alp (by omega) (by omega), abZ, aHX, abZ, alp (by omega) (by omega), abZ, aHX, abZ]
 unfold ann amY
 rw [Sub_ok h1 h2, abZ, abZ]
 try dsimp only
 rw [aTB (aER h1 h2) hh, abZ]
 rfl
def af1 (b : acs) (c : Cmp) : Int × Int :=
 (((c.2.2.1.length - 1 : Nat) : Int) * b.1.1 - ((c.2.2.2.1.length - 1 : Nat) : Int) * b.1.2, ((c.2.2.1.length - 1 : Nat) : Int) * b.1.2 - ((c.2.2.2.1.length - 1 : Nat) : Int) * b.1.1)
theorem aM7 {b : acs} {c : Cmp} (hA : c.2.2.1.length ≤ 1000) (hB : c.2.2.2.1.length ≤ 1000) (h1 : 0 ≤ b.1.1) (h2 : b.1.1 ≤ 1000000) (h3 : 0 ≤ b.1.2) (h4 : b.1.2 ≤ 1000000) : amj b c = some (af1 b c) := by
 unfold amj aAY af1
 have e : ∀ n : Nat, aKx 0 ((n : Int) - 1) = ((n - 1 : Nat) : Int) := by
  intro n
  unfold aKx
  split <;> omega
 have bd : ∀ (n : Nat) (x : Int), n ≤ 1000 → 0 ≤ x → x ≤ 1000000 → 0 ≤ ((n - 1 : Nat) : Int) * x ∧ ((n - 1 : Nat) : Int) * x ≤ 1000000000 := by
  intro n x hn h0 hx
  refine ⟨Int.mul_nonneg (by omega) h0, ?_⟩
  have := Int.mul_le_mul (show ((n - 1 : Nat) : Int) ≤ 1000 by omega) hx h0 (by omega)
  omega
 have b1 := bd _ _ hA h1 h2
 have b2 := bd _ _ hA h3 h4
 have b3 := bd _ _ hB h1 h2
 have b4 := bd _ _ hB h3 h4
 simp only [acB]
 rw [acm (by omega) (by omega), acm (by omega) (by omega)]
 simp only [e]
 rw [acm (by omega) (by omega), acm (by omega) (by omega), acm (by omega) (by omega), acm (by omega) (by omega), acm (by omega) (by omega), acm (by omega) (by omega)]
theorem aM5 {n d : Int} (hd : 1 ≤ d) (hn : -4000000000 ≤ n ∧ n ≤ 4000000000) : apr n d = some (n / d) := by
 unfold apr aAA
 have z : aeA d 0 = false := by simp [aeA]; omega
 rw [aci z]
 have t := Int.mul_tdiv_add_tmod n d
 have b1 : -4000000000 ≤ Int.tdiv n d ∧ Int.tdiv n d ≤ 4000000000 := by
  have := Int.natAbs_tdiv_le_natAbs n d
  omega
 rw [acm (by omega) (by omega), aci z, adA]
 by_cases h : Int.tmod n d < 0
 ·rw [if_pos (by simpa [ilt] using h), acm (by omega) (by omega)]
  congr 1
  have h5 : -d < Int.tmod n d := by
   have h6 := Int.natAbs_tmod n d
   have h7 := Nat.mod_lt n.natAbs (show 0 < d.natAbs by omega)
   omega
  refine (Int.ediv_eq_iff_of_pos (by omega)).2 ⟨?_, ?_⟩ |>.symm
  ·rw [Int.sub_mul, Int.mul_comm]; omega
  ·rw [Int.sub_mul, Int.mul_comm (Int.tdiv n d)]; omega
 ·rw [if_neg (by simpa [ilt] using h)]
  congr 1
  have h5 : Int.tmod n d < d := by
   have h6 := Int.natAbs_tmod n d
   have h7 := Nat.mod_lt n.natAbs (show 0 < d.natAbs by omega)
   omega
  refine (Int.ediv_eq_iff_of_pos (by omega)).2 ⟨?_, ?_⟩ |>.symm
  ·rw [Int.mul_comm]; omega
  ·rw [Int.mul_comm (Int.tdiv n d)]; omega
theorem aSU {x : Int × Int} (hx : aCa x = true) : agD [x] = some 0 := by
 rw [aMk]
 ·simp [hx]
 ·intro r hr
  have : aCa r = true := by simp at hr; subst hr; assumption
  have := ((ai9 r).1 this).2.2.1
  exact ⟨by omega, by omega⟩
 ·simp
def aBK (r : Int × Int) : Int := -(-r.1 / r.2)
theorem aNx {r : Int × Int} (h : aCa r = true) : apt r = some (r.1 / r.2, 0) := by
 unfold apt aAI
 have := (ai9 r).1 h
 rw [aSU h, abZ]
 rw [show ine (0 : Int) 0 = false from rfl, acF, aM5 (by omega) (by omega), abZ]
theorem awv {n d : Int} (hd : 1 ≤ d) : (n / d).natAbs ≤ n.natAbs := by
 exact Int.natAbs_ediv_le_natAbs n d
theorem aRm {r : Int × Int} (h : aCa r = true) : auT r = some (aBK r, 0) := by
 unfold auT aGh aBK
 have := (ai9 r).1 h
 rw [aSU h, abZ]
 rw [show ine (0 : Int) 0 = false from rfl, acF, acm (by omega) (by omega), aM5 (by omega) (by omega), abZ]
 have hb := awv (n := 0 - r.1) (show 1 ≤ r.2 by omega)
 rw [acm (by omega) (by omega), Int.zero_sub, Int.zero_sub]
def aeG (b : acs) (c : Cmp) : Int × Int :=
 (c.2.2.2.2.1 - c.2.2.2.2.2.1 - (af1 b c).2 - (ads b c).2.1 / (ads b c).2.2, c.2.2.2.2.1 + c.2.2.2.2.2.1 - (af1 b c).1 - aBK (ads b c).1)
end Go.Proofs.ZzM
end
noncomputable section
namespace Go.Proofs.ZzM
open Go Go.Am
structure adi (b : acs) : Prop where
 film : 0 ≤ b.1.1 ∧ b.1.1 ≤ b.1.2 ∧ b.1.2 ≤ 1000000
 nG : b.2.1.length ≤ 12
 nU : b.2.2.1.length ≤ 40
 nL : b.2.2.2.1.length ≤ 12
 nC : b.2.2.2.2.1.length ≤ 40
 nK : b.2.2.2.2.2.length ≤ 10
 gauge : ∀ g ∈ b.2.1, ard g = true
 ids : b.2.1.Pairwise fun a b => a.1 < b.1
 uses : ∀ u ∈ b.2.2.1, aSV (aiO b) u.1 u.2 = 0
 loans : ∀ i l, b.2.2.2.1[i]? = some l → aJx b (aiO b) i l = 0
 compares : ∀ i c, b.2.2.2.2.1[i]? = some c → aqb b (aiO b) i c = 0
 looks : ∀ u ∈ b.2.2.2.2.2, aSV (aiO b) u.1 u.2 = 0
 nodes : (aca b).length ≤ 59
 links : 2 * (aca b).length + 2 * b.2.2.2.2.1.length ≤ 300
theorem aBf (b : acs) : aiY b = 0 ↔ (∀ g ∈ b.2.1, ard g = true) ∧ b.2.1.Pairwise fun a b => a.1 < b.1 := by
 have h0 : aeF (apj b.2.1) 0 b.2.1 = none ↔ (∀ g ∈ b.2.1, ard g = true) ∧ b.2.1.Pairwise fun a b => a.1 < b.1 := by
  rw [ah8, ← aNo (fun g : acP => g.1) b.2.1]
  constructor
  ·intro h
   have h1 : ∀ (j : Nat) (a : acP), b.2.1[j]? = some a → ard a = true ∧ aBV (fun g : acP => g.1) b.2.1 j a = false := by
    intro j a ha
    have := h j a ha
    rw [Nat.zero_add] at this
    unfold apj at this
    split at this
    ·cases this
    ·split at this
     ·cases this
     ·rename_i h1 h2
      exact ⟨by simpa using h1, by simpa using h2⟩
   refine ⟨fun x hx => ?_, fun i a ha => (h1 i a ha).2⟩
   obtain ⟨j, hj, rfl⟩ := List.mem_iff_getElem.1 hx
   exact (h1 j _ (List.getElem?_eq_getElem hj)).1
  ·rintro ⟨h1, h2⟩ j a ha
   rw [Nat.zero_add]
   simp [apj, h1 a (List.mem_of_getElem? ha), h2 j a ha]
 rw [← h0]
 unfold aiY
 cases h : aeF (apj b.2.1) 0 b.2.1 with
 | none => simp
 | some e =>
   have : ∀ (m : List acP) (j : Nat) (x : Int), aeF (apj b.2.1) j m = some x → x ≠ 0 := by
    intro m
    induction m with
    | nil => intro j x h; cases h
    | cons a m ih =>
      intro j x h
      unfold aeF at h
      cases hp : apj b.2.1 j a with
      | none => rw [hp] at h; exact ih _ _ h
      | some y =>
        rw [hp] at h
        cases h
        unfold apj at hp
        split at hp
        ·cases hp; omega
        ·split at hp
         ·cases hp; omega
         ·cases hp
   simp [this _ _ _ h]
theorem acu (b : acs) : acw b = 0 ↔ adi b := by
 unfold acw
 constructor
 ·intro h
  split at h
  ·omega
  rename_i h1
  (repeat' split at h) <;> try omega
  ·rename_i hg
   have hg' : aiY b ≠ 0 := by simpa using hg
   exact (hg' h).elim
  ·rename_i hf
   have := List.find?_some hf
   rename_i e
   simp at this
   exact (this h).elim
  ·rename_i hn1 hn2 hn3 hn4 hn5 hg e hf hn6 hn7
   have hg0 : aiY b = 0 := by simpa using hg
   obtain ⟨g1, g2⟩ := (aBf b).1 hg0
   have hall : ∀ x ∈ awW b (aiO b), x = 0 := fun x hx => by
    have := List.find?_eq_none.1 hf x hx
    simpa using this
   simp only [awW, List.mem_append] at hall
   have hs : akh b.1 0 1000000 = true := by simpa using h1
   simp only [akh, Bool.and_eq_true, decide_eq_true_eq] at hs
   refine ⟨⟨hs.1, hs.2.1, hs.2.2⟩, by omega, by omega, by omega, by omega, by omega, g1, g2, fun u hu => hall _ (.inl (List.mem_map.2 ⟨u, hu, rfl⟩)), fun i l hl => ?_, fun i c hc => ?_, fun u hu => hall _ (.inr (.inr (.inr (List.mem_map.2 ⟨u, hu, rfl⟩)))), by omega, by omega⟩
   ·obtain ⟨hi, rfl⟩ := List.getElem?_eq_some_iff.1 hl
    exact hall _ (.inr (.inl (List.mem_mapIdx.2 ⟨i, hi, rfl⟩)))
   ·obtain ⟨hi, rfl⟩ := List.getElem?_eq_some_iff.1 hc
    exact hall _ (.inr (.inr (.inl (List.mem_mapIdx.2 ⟨i, hi, rfl⟩))))
 ·intro h
  have hs : akh b.1 0 1000000 = true := by simp [akh, h.film.1, h.film.2.1, h.film.2.2]
  have hg : aiY b = 0 := (aBf b).2 ⟨h.gauge, h.ids⟩
  have hall : (awW b (aiO b)).find? (fun e => e != 0) = none := by
   rw [List.find?_eq_none]
   intro x hx
   simp only [awW, List.mem_append, List.mem_map, List.mem_mapIdx] at hx
   have : x = 0 := by
    rcases hx with ⟨u, hu, rfl⟩ | ⟨i, hi, rfl⟩ | ⟨i, hi, rfl⟩ | ⟨u, hu, rfl⟩
    ·exact h.uses u hu
    ·exact h.loans i _ (List.getElem?_eq_getElem hi)
    ·exact h.compares i _ (List.getElem?_eq_getElem hi)
    ·exact h.looks u hu
   simp [this]
  have := h.nG; have := h.nU; have := h.nL; have := h.nC; have := h.nK; have := h.nodes; have := h.links
  rw [hs, hg, hall]
  simp only [Bool.not_true, Bool.false_eq_true, if_false, bne_self_eq_false]
  rw [if_neg (by omega), if_neg (by omega), if_neg (by omega), if_neg (by omega), if_neg (by omega), if_neg (by omega), if_neg (by omega)]
section
variable {b : acs}
theorem aeO {l : List Int} (h : aja l = true) : l.length ≤ 6 := ((aH4 l).1 h).2.2
theorem adi.nums (h : adi b) {c : Cmp} (hc : c ∈ b.2.2.2.2.1) : aNS c = true := by
 obtain ⟨i, hi, rfl⟩ := List.mem_iff_getElem.1 hc
 have := h.compares i _ (List.getElem?_eq_getElem hi)
 unfold aqb at this
 split at this
 ·omega
 ·rename_i h; simpa using h
theorem adi.pilesOf (h : adi b) {c : Cmp} (hc : c ∈ b.2.2.2.2.1) : awV b (aiO b) c = 0 := by
 obtain ⟨i, hi, rfl⟩ := List.mem_iff_getElem.1 hc
 have := h.compares i _ (List.getElem?_eq_getElem hi)
 unfold aqb at this
 split at this
 ·omega
 ·split at this
  ·omega
  ·exact this
theorem ahf (c : Cmp) : aNS c = true ↔ (1 ≤ c.1 ∧ c.1 ≤ 1099511627776) ∧ (0 ≤ c.2.1 ∧ c.2.1 ≤ 20000) ∧ (-1125899906842624 ≤ c.2.2.2.2.1 ∧ c.2.2.2.2.1 ≤ 1125899906842624) ∧ (0 ≤ c.2.2.2.2.2.1 ∧ c.2.2.2.2.2.1 ≤ 1073741824) ∧ akh c.2.2.2.2.2.2 (-10000) 10000 = true ∧ aja c.2.2.1 = true ∧ aja c.2.2.2.1 = true := by
 simp [aNS, inP, aLP, and_assoc]
theorem adi.size (h : adi b) : ag7 b := by
 have h1 := h.nG; have h2 := h.nU; have h3 := h.nL; have h4 := h.nC; have h5 := h.nK
 refine ⟨by omega, by omega, by omega, by omega, by omega, fun c hc => ?_⟩
 have := (ahf c).1 (h.nums hc)
 have a := aeO this.2.2.2.2.2.1
 have b := aeO this.2.2.2.2.2.2
 omega
theorem aEt (g : acP) : ard g = true ↔ aCa g.2.2.2.2.1 = true ∧ (-1000 ≤ g.2.2.2.2.1.1 ∧ g.2.2.2.2.1.1 ≤ 1000) ∧ g.2.2.2.2.1.2 ≤ 100 ∧ (1 ≤ g.1 ∧ g.1 ≤ 1099511627776) ∧ (0 ≤ g.2.1 ∧ g.2.1 ≤ 20000) ∧ (1 ≤ g.2.2.1 ∧ g.2.2.1 ≤ 1125899906842624) ∧ (-1073741824 ≤ g.2.2.2.1.1 ∧ g.2.2.2.1.1 ≤ g.2.2.2.1.2 ∧ g.2.2.2.1.2 ≤ 1073741824) ∧ (0 ≤ g.2.2.2.2.2 ∧ g.2.2.2.2.2 ≤ 1048576) := by
 simp [ard, inP, aLP, akh, and_assoc]
theorem akW {id : Int} {g : acP} (h : ags b id = some g) : g ∈ b.2.1 ∧ g.1 = id := by
 unfold ags at h
 exact ⟨List.mem_of_find?_eq_some h, by simpa using List.find?_some h⟩
theorem aj0 (hi : b.2.1.Pairwise fun a b => a.1 < b.1) {g : acP} (hg : g ∈ b.2.1) : ags b g.1 = some g := by
 unfold ags
 induction hl : b.2.1 generalizing b with
 | nil => rw [hl] at hg; cases hg
 | cons a t ih =>
   rw [hl] at hg hi
   rw [List.pairwise_cons] at hi
   rw [List.find?_cons]
   rcases List.mem_cons.1 hg with rfl | hg
   ·simp
   ·have h1 := hi.1 g hg
    have : (a.1 == g.1) = false := by simp; omega
    rw [this]
    have := ih (b := (b.1, t, b.2.2)) hi.2 hg rfl
    exact this
theorem aD2 (h : adi b) {id day : Int} (hm : ak5 (aiO b) id day = 0) : ∃ g, ags b id = some g ∧ g.2.1 ≤ day := by
 unfold ak5 at hm
 rw [apP h.ids] at hm
 split at hm
 ·rename_i g hg
  split at hm
  ·omega
  ·exact ⟨g, hg, by omega⟩
 ·omega
theorem aK2 (s : List (Int × acP)) (id day : Int) : ak5 s id day = 0 ∨ ak5 s id day = 4 ∨ ak5 s id day = 5 := by
 unfold ak5
 split
 ·split <;> simp
 ·simp
theorem adi.pile (h : adi b) {c : Cmp} (hc : c ∈ b.2.2.2.2.1) {x : Int} (hx : x ∈ c.2.2.1 ++ c.2.2.2.1) : (∃ g, ags b x = some g ∧ g.2.1 ≤ c.2.1) ∧ ayu b x c.2.1 = none := by
 have hp := h.pilesOf hc
 unfold awV at hp
 split at hp
 ·omega
 rename_i h5
 split at hp
 ·omega
 rename_i h4
 split at hp
 ·omega
 rename_i h9
 have a5 := (List.any_eq_false.1 (Bool.eq_false_iff.2 h5)) x hx
 have a4 := (List.any_eq_false.1 (Bool.eq_false_iff.2 h4)) x hx
 have a9 := (List.any_eq_false.1 (Bool.eq_false_iff.2 h9)) x hx
 simp at a5 a4 a9
 refine ⟨aD2 h ?_, a9⟩
 rcases aK2 (aiO b) x c.2.1 with h0 | h0 | h0
 ·exact h0
 ·exact (a4 h0).elim
 ·exact (a5 h0).elim
theorem adi.lefts (h : adi b) {c : Cmp} (hc : c ∈ b.2.2.2.2.1) : (ac4 c.2.2.1 c.2.2.2.1).length ≤ 1 ∧ (ac4 c.2.2.2.1 c.2.2.1).length ≤ 1 ∧ (ac4 c.2.2.1 c.2.2.2.1).length + (ac4 c.2.2.2.1 c.2.2.1).length ≠ 0 := by
 have hp := h.pilesOf hc
 unfold awV at hp
 (repeat' split at hp) <;> first | omega | exact ⟨by omega, by omega, by omega⟩
theorem agz {a c : List Int} {x : Int} : x ∈ ac4 a c ↔ x ∈ a ∧ x ∉ c := by
 simp [ac4]
theorem adi.rate (h : adi b) {p : List Int} (hp : ∀ x ∈ p, ∃ g, ags b x = some g) : amq (arx (aiO b) p) 1000 100 := by
 unfold arx
 cases p with
 | nil =>
   have : amq (0, 1) 1000 100 := ⟨by decide, by decide, by decide⟩
   exact this
 | cons x t =>
   obtain ⟨g, hg⟩ := hp x (by simp)
   try dsimp only
   rw [apP h.ids, hg]
   have := (aEt g).1 (h.gauge g (akW hg).1)
   exact ⟨this.1, this.2.1, this.2.2.1⟩
theorem adi.rates (h : adi b) {c : Cmp} (hc : c ∈ b.2.2.2.2.1) : amq (arx (aiO b) (ac4 c.2.2.1 c.2.2.2.1)) 1000 100 ∧ amq (arx (aiO b) (ac4 c.2.2.2.1 c.2.2.1)) 1000 100 := by
 constructor
 ·exact h.rate fun x hx => by
   obtain ⟨⟨g, hg, _⟩, _⟩ := h.pile hc (List.mem_append_left _ (agz.1 hx).1)
   exact ⟨g, hg⟩
 ·exact h.rate fun x hx => by
   obtain ⟨⟨g, hg, _⟩, _⟩ := h.pile hc (List.mem_append_right _ (agz.1 hx).1)
   exact ⟨g, hg⟩
theorem adi.growth (h : adi b) {c : Cmp} (hc : c ∈ b.2.2.2.2.1) : ajz b c = some (ads b c) := by
 obtain ⟨r1, r2⟩ := h.rates hc
 have hn := (ahf c).1 (h.nums hc)
 have a := aeO hn.2.2.2.2.2.1
 have b := aeO hn.2.2.2.2.2.2
 exact aJO h.size (by omega) (by omega) r1 r2 hn.2.2.2.2.1
theorem adi.films (h : adi b) {c : Cmp} (hA : c.2.2.1.length ≤ 1000) (hB : c.2.2.2.1.length ≤ 1000) : amj b c = some (af1 b c) := by
 have := h.film
 exact aM7 hA hB (by omega) (by omega) (by omega) (by omega)
theorem aFe {k heat : Int × Int} (hk : amq k 200000 10000) (hh : akh heat (-10000) 10000 = true) : amq (aNN k heat).1 2000000000 10000 ∧ amq (aNN k heat).2 2000000000 10000 := by
 simp only [akh, Bool.and_eq_true, decide_eq_true_eq] at hh
 have r1 := aFk hk (n := heat.1) ⟨by omega, by omega⟩
 have r2 := aFk hk (n := heat.2) ⟨by omega, by omega⟩
 unfold aNN
 split
 ·exact ⟨r2, r1⟩
 ·exact ⟨r1, r2⟩
theorem asp {c : Cmp} (hA : c.2.2.1.length ≤ 1000) (hB : c.2.2.2.1.length ≤ 1000) (h1 : 0 ≤ b.1.1) (h2 : b.1.1 ≤ 1000000) (h3 : 0 ≤ b.1.2) (h4 : b.1.2 ≤ 1000000) :
 (-1000000000 ≤ (af1 b c).1 ∧ (af1 b c).1 ≤ 1000000000) ∧ (-1000000000 ≤ (af1 b c).2 ∧ (af1 b c).2 ≤ 1000000000) := by
 have bd : ∀ (n : Nat) (x : Int), n ≤ 1000 → 0 ≤ x → x ≤ 1000000 → 0 ≤ ((n - 1 : Nat) : Int) * x ∧ ((n - 1 : Nat) : Int) * x ≤ 1000000000 := by
  intro n x hn h0 hx
  refine ⟨Int.mul_nonneg (by omega) h0, ?_⟩
  have := Int.mul_le_mul (show ((n - 1 : Nat) : Int) ≤ 1000 by omega) hx h0 (by omega)
  omega
 have b1 := bd _ _ hA h1 h2
 have b2 := bd _ _ hA h3 h4
 have b3 := bd _ _ hB h1 h2
 have b4 := bd _ _ hB h3 h4
 unfold af1
 try dsimp only
 omega
theorem asm {r : Int × Int} (h : amq r 2000000000 10000) : -2000000000 ≤ r.1 / r.2 ∧ r.1 / r.2 ≤ 2000000000 := by
 have := awv (n := r.1) h.pos
 have := h.num
 omega
theorem awC {r : Int × Int} (h : amq r 2000000000 10000) : -2000000000 ≤ aBK r ∧ aBK r ≤ 2000000000 := by
 have := awv (n := -r.1) h.pos
 have := h.num
 unfold aBK
 omega
theorem adi.says (h : adi b) {c : Cmp} (hc : c ∈ b.2.2.2.2.1) : anm b c = some (aeG b c) := by
 obtain ⟨r1, r2⟩ := h.rates hc
 have hn := (ahf c).1 (h.nums hc)
 have ha := aeO hn.2.2.2.2.2.1
 have hb := aeO hn.2.2.2.2.2.2
 have hf := h.film
 obtain ⟨g1, g2⟩ := aFe (aER r1 r2) hn.2.2.2.2.1
 have fb := asp (b := b) (c := c) (by omega) (by omega) (by omega) (by omega) (by omega) (by omega)
 have q1 : amq (ads b c).1 2000000000 10000 := g1
 have q2 : amq (ads b c).2 2000000000 10000 := g2
 have c1 := awC q1
 have c2 := asm q2
 unfold anm aGl aeG
 rw [h.growth hc, abZ, h.films (by omega) (by omega), abZ, aNx q2.rat, abZ, aRm q1.rat, abZ]
 try dsimp only
 have n3 := hn.2.2.1
 have n4 := hn.2.2.2.1
 rw [acm (by omega) (by omega), acm (by omega) (by omega), acm (by omega) (by omega), acm (by omega) (by omega), acm (by omega) (by omega), acm (by omega) (by omega)]
end
def ada (l : ayv) (f t : Int) : Int := min l.2.1.2 (t - 1) - max l.2.1.1 f + 1
def acS (id f t : Int) : List ayv → Int
 | [] => 0
 | l :: r => (if l.1 = id ∧ 0 < ada l f t then ada l f t * l.2.2 else 0) + acS id f t r
theorem apd (id f t : Int) : ∀ (x y : List ayv), acS id f t (x ++ y) = acS id f t x + acS id f t y
 | [], y => by simp [acS]
 | l :: r, y => by
   simp only [List.cons_append, acS, apd id f t r y]
   omega
def aeT (b : acs) (id f t : Int) : List Int := (b.2.2.1.filter fun u => u.1 == id && inP u.2 f (t - 1)).map fun u => u.2
def agc (b : acs) (g : acP) (f t : Int) : Int := acS g.1 f t b.2.2.2.1 + (aHx (aeT b g.1 f t)).length * g.2.2.2.2.2
theorem aBd (a c : Int) : aKw a c = min a c := by unfold aKw; split <;> omega
theorem aLG (a c : Int) : aKx a c = max a c := by unfold aKx; split <;> omega
theorem ap0 {b : acs} (h : adi b) {l : ayv} (hl : l ∈ b.2.2.2.1) : (0 ≤ l.2.1.1 ∧ l.2.1.1 ≤ l.2.1.2 ∧ l.2.1.2 ≤ 20000) ∧ (0 ≤ l.2.2 ∧ l.2.2 ≤ 1048576) := by
 obtain ⟨i, hi, rfl⟩ := List.mem_iff_getElem.1 hl
 have := h.loans i _ (List.getElem?_eq_getElem hi)
 unfold aJx at this
 split at this
 ·omega
 rename_i h1
 split at this
 ·omega
 rename_i h2
 simp only [Bool.not_eq_true', Bool.not_eq_false, akh, inP, Bool.and_eq_true, decide_eq_true_eq] at h1 h2
 exact ⟨h1, h2⟩
theorem aEf {l : ayv} (h : (0 ≤ l.2.1.1 ∧ l.2.1.1 ≤ l.2.1.2 ∧ l.2.1.2 ≤ 20000) ∧ (0 ≤ l.2.2 ∧ l.2.2 ≤ 1048576)) {f t : Int} (hf : 0 ≤ f) (hd : 0 < ada l f t) : 0 ≤ ada l f t * l.2.2 ∧ ada l f t * l.2.2 ≤ 20001 * 1048576 := by
 refine ⟨Int.mul_nonneg (by omega) h.2.1, Int.mul_le_mul ?_ h.2.2 h.2.1 (by omega)⟩
 unfold ada
 omega
theorem alo {id f t : Int} (hf : 0 ≤ f) : ∀ {x : List ayv}, (∀ l ∈ x, (0 ≤ l.2.1.1 ∧ l.2.1.1 ≤ l.2.1.2 ∧ l.2.1.2 ≤ 20000) ∧ (0 ≤ l.2.2 ∧ l.2.2 ≤ 1048576)) → 0 ≤ acS id f t x ∧ acS id f t x ≤ x.length * (20001 * 1048576)
 | [], _ => by simp [acS]
 | l :: r, h => by
   have ih := alo (id := id) (t := t) hf (x := r) fun l hl => h l (by simp [hl])
   simp only [acS, List.length_cons, Int.natCast_succ, Int.add_mul, Int.one_mul]
   split
   ·rename_i hc
    have := aEf (h l (by simp)) hf hc.2
    omega
   ·omega
theorem aTJ {b : acs} (h : adi b) {g : acP} (hg : 0 ≤ g.2.2.2.2.2 ∧ g.2.2.2.2.2 ≤ 1048576) {f t : Int} (hf : 0 ≤ f ∧ f ≤ 100000) (ht : 0 ≤ t ∧ t ≤ 100000) : ap8 b g f t = some (agc b g f t) := by
 have hL := h.nL
 have hU := h.nU
 have hlb : ∀ i, 0 ≤ acS g.1 f t (b.2.2.2.1.take i) ∧ acS g.1 f t (b.2.2.2.1.take i) ≤ 12 * (20001 * 1048576) := by
  intro i
  have h1 := alo (id := g.1) (t := t) hf.1 (x := b.2.2.2.1.take i) fun l hl => ap0 h (List.mem_of_mem_take hl)
  have h2 : ((b.2.2.2.1.take i).length : Int) * (20001 * 1048576) ≤ 12 * (20001 * 1048576) := Int.mul_le_mul_of_nonneg_right (by rw [List.length_take]; omega) (by omega)
  omega
 unfold ap8 aGt
 refine afS (fun x : Int × Int => ∃ i : Nat, i ≤ b.2.2.2.1.length ∧ x = (acS g.1 f t (b.2.2.2.1.take i), (i : Int))) (fun x => b.2.2.2.1.length - x.2.toNat) ?_ ⟨0, by omega, rfl⟩
 rintro x ⟨i, hi, rfl⟩
 rcases Nat.lt_or_ge i b.2.2.2.1.length with hlt | hge
 ·have hl : b.2.2.2.1[i]? = some b.2.2.2.1[i] := List.getElem?_eq_getElem hlt
  have hz := ap0 h (List.mem_of_getElem? hl)
  refine .inr ⟨(acS g.1 f t (b.2.2.2.1.take (i + 1)), (i : Int) + 1), ⟨i + 1, hlt, by simp⟩, by simp; omega, fun kn => ?_⟩
  try dsimp only
  unfold am5
  have b1 := hlb i
  have b2 := hlb (i + 1)
  have e1 : acS g.1 f t (b.2.2.2.1.take (i + 1)) = acS g.1 f t (b.2.2.2.1.take i) + (if b.2.2.2.1[i].1 = g.1 ∧ 0 < ada b.2.2.2.1[i] f t then ada b.2.2.2.1[i] f t * b.2.2.2.1[i].2.2 else 0) := by
   rw [take_succ hl, apd]; simp [acS]
  rw [acj hlt, ace hl, acm (by omega) (by omega), aBd, aLG, acm (by omega) (by omega), acm (by omega) (by omega)]
  rw [show min b.2.2.2.1[i].2.1.2 (t - 1) - max b.2.2.2.1[i].2.1.1 f + 1 = ada b.2.2.2.1[i] f t from rfl, adA]
  by_cases hid : b.2.2.2.1[i].1 = g.1
  ·rw [if_pos (by simpa [ieq] using hid), adA]
   by_cases hd : 0 < ada b.2.2.2.1[i] f t
   ·have lb := aEf hz hf.1 hd
    rw [if_pos ⟨hid, hd⟩] at e1
    rw [if_pos (by simpa [igt] using hd), acm (by omega) (by omega), acm (by omega) (by omega), acg hlt (by omega), e1]
   ·rw [if_neg (fun hc => hd hc.2)] at e1
    rw [if_neg (by simpa [igt] using hd), acg hlt (by omega), e1, Int.add_zero]
  ·rw [if_neg (fun hc => hid hc.1)] at e1
   rw [if_neg (by simpa [ieq] using hid), acg hlt (by omega), e1, Int.add_zero]
 ·refine .inl fun kn => ?_
  have : i = b.2.2.2.1.length := by omega
  subst this
  try dsimp only
  unfold am5
  rw [acH, List.take_length]
  have hud : ∀ x : List (Int × Int), x.length ≤ 40 → ((x.filter fun u => u.1 == g.1 && inP u.2 f (t - 1)).map fun u => u.2).length ≤ 40 := by
   intro x hx
   rw [List.length_map]
   exact Nat.le_trans (List.length_filter_le _ _) hx
  refine ac9 b.2.2.1 (fun i => ((b.2.2.1.take i).filter fun u => u.1 == g.1 && inP u.2 f (t - 1)).map fun u => u.2) _ rfl (fun i u hi hu kn' => ?_) (fun kn' => ?_)
  ·try dsimp only
   unfold am4
   have hx := hud (b.2.2.1.take i) (by rw [List.length_take]; omega)
   rw [acj hi, ace hu, acm (by omega) (by omega), aeN, abZ, acl (by simp only [List.length_singleton]; omega), Am.iff_true, acg hi (by omega), acg hi (by omega), take_succ hu, List.filter_append, List.map_append]
   cases h1 : (u.1 == g.1) with
   | false =>
     have : ieq u.1 g.1 = false := h1
     simp only [this, acF, List.filter_cons, h1, Bool.false_and, Bool.false_eq_true, if_false, List.filter_nil, List.map_nil, List.append_nil]
   | true =>
     have : ieq u.1 g.1 = true := h1
     rw [this]
     cases h2 : inP u.2 f (t - 1) with
     | false => simp only [adH, acF, List.filter_cons, h1, h2, Bool.true_and, Bool.false_eq_true, if_false, List.filter_nil, List.map_nil, List.append_nil]
     | true => simp only [adH, List.filter_cons, h1, h2, Bool.true_and, if_true, List.filter_nil, List.map_nil, List.map_cons]
  ·try dsimp only
   unfold am4
   rw [acH, List.take_length]
   rw [show ((b.2.2.1.filter fun u => u.1 == g.1 && inP u.2 f (t - 1)).map fun u => u.2) = aeT b g.1 f t from rfl]
   have h40 : (aeT b g.1 f t).length ≤ 40 := hud _ hU
   have hc40 : (aHx (aeT b g.1 f t)).length ≤ 40 := by
    have := ayD (aeT b g.1 f t)
    omega
   have hm : 0 ≤ ((aHx (aeT b g.1 f t)).length : Int) * g.2.2.2.2.2 ∧ ((aHx (aeT b g.1 f t)).length : Int) * g.2.2.2.2.2 ≤ 40 * 1048576 :=
    ⟨Int.mul_nonneg (by omega) hg.1, Int.mul_le_mul (by omega) hg.2 hg.1 (by omega)⟩
   have b1 := hlb b.2.2.2.1.length
   rw [List.take_length] at b1
   dsimp only
   rw [acl (by omega), Am.iff_true, acl (by rw [aHP]; omega), Am.iff_true, aO8, acB, acm (by omega) (by omega), acm (by omega) (by omega)]
   rfl
end Go.Proofs.ZzM
end
noncomputable section
namespace Go.Proofs.ZzM
open Go Go.Am
abbrev Lk : Type := Int × Int × Int
inductive Wl (L : List Lk) (S : Int → Prop) : List Int → Int → Int → Prop
 | nil {v : Int} : S v → Wl L S [] v 0
 | step {vs : List Int} {u v m d : Int} : Wl L S vs u d → (u, v, m) ∈ L → Wl L S (u :: vs) v (d + m)
def Pot (L : List Lk) (p : Int → Int) : Prop := ∀ u v m, (u, v, m) ∈ L → p v ≤ p u + m
def InR (L : List Lk) (N : Nat) : Prop := ∀ l ∈ L, (0 ≤ l.1 ∧ l.1 < N) ∧ (0 ≤ l.2.1 ∧ l.2.1 < N)
section
variable {L : List Lk} {S : Int → Prop} {N : Nat} {p : Int → Int}
theorem Wl.cut (hp : Pot L p) {vs : List Int} {v d : Int} (h : Wl L S vs v d) : ∀ x ∈ vs, ∃ vs1 d1, Wl L S vs1 x d1 ∧ (x :: vs1) <:+ vs ∧ d1 + (p v - p x) ≤ d := by
 induction h with
 | nil h => intro x hx; cases hx
 | @step vs u v m d hw hl ih =>
   intro x hx
   have h1 := hp u v m hl
   rcases List.mem_cons.1 hx with rfl | hx
   ·exact ⟨vs, d, hw, List.suffix_refl _, by omega⟩
   ·obtain ⟨vs1, d1, g1, g2, g3⟩ := ih x hx
    exact ⟨vs1, d1, g1, g2.trans (List.suffix_cons _ _), by omega⟩
theorem Wl.simple (hp : Pot L p) {vs : List Int} {v d : Int} (h : Wl L S vs v d) : ∃ vs' d', Wl L S vs' v d' ∧ d' ≤ d ∧ (v :: vs').Nodup := by
 induction h with
 | nil h => exact ⟨[], 0, .nil h, Int.le_refl _, by simp⟩
 | @step vs u v m d hw hl ih =>
   obtain ⟨vs1, d1, g1, g2, g3⟩ := ih
   have hw1 := Wl.step g1 hl
   by_cases hv : v ∈ u :: vs1
   ·obtain ⟨vs2, d2, k1, k2, k3⟩ := hw1.cut hp v hv
    exact ⟨vs2, d2, k1, by omega, g3.sublist k2.sublist⟩
   ·exact ⟨u :: vs1, d1 + m, hw1, by omega, List.nodup_cons.2 ⟨hv, g3⟩⟩
theorem Wl.range (hL : InR L N) (hS : ∀ v, S v → 0 ≤ v ∧ v < N) {vs : List Int} {v d : Int} (h : Wl L S vs v d) : (0 ≤ v ∧ v < N) ∧ ∀ u ∈ vs, 0 ≤ u ∧ u < N := by
 induction h with
 | nil h => exact ⟨hS _ h, fun u hu => by cases hu⟩
 | @step vs u v m d hw hl ih =>
   refine ⟨(hL _ hl).2, fun w hw' => ?_⟩
   rcases List.mem_cons.1 hw' with rfl | h
   ·exact ih.1
   ·exact ih.2 w h
theorem aMC : ∀ (N : Nat) (l : List Int), l.Nodup → (∀ x ∈ l, 0 ≤ x ∧ x < N) → l.length ≤ N
 | 0, l, _, h => by
   cases l with
   | nil => simp
   | cons a l => have := h a (by simp); omega
 | N + 1, l, hn, h => by
   have h1 : (l.erase (N : Int)).length ≤ N := aMC N _ (hn.erase _) fun x hx => by
    have h2 := (hn.mem_erase_iff).1 hx
    have := h x h2.2
    have := h2.1
    omega
   have := List.length_erase (a := (N : Int)) (l := l)
   split at this <;> omega
theorem Wl.short (hL : InR L N) (hS : ∀ v, S v → 0 ≤ v ∧ v < N) {vs : List Int} {v d : Int} (h : Wl L S vs v d) (hn : (v :: vs).Nodup) : vs.length + 1 ≤ N := by
 have := h.range hL hS
 exact aMC N (v :: vs) hn fun x hx => by
  rcases List.mem_cons.1 hx with rfl | hx
  ·exact this.1
  ·exact this.2 x hx
def axY (f : Lk → Bool) : List Lk → Int
 | [] => 0
 | l :: t => (if f l then min l.2.2 0 else 0) + axY f t
theorem aPE (f : Lk → Bool) : ∀ L : List Lk, axY (fun _ => true) L ≤ axY f L
 | [] => Int.le_refl _
 | l :: t => by
   have := aPE f t
   simp only [axY, if_true]
   split <;> omega
theorem amv (f : Lk → Bool) : ∀ L : List Lk, axY f L ≤ 0
 | [] => Int.le_refl _
 | l :: t => by
   have := amv f t
   simp only [axY]
   split <;> omega
theorem aMP {f : Lk → Bool} {l : Lk} (hf : f l = true) : ∀ {L : List Lk}, l ∈ L → axY f L ≤ l.2.2
 | a :: t, h => by
   simp only [axY]
   rcases List.mem_cons.1 h with rfl | h
   ·have := amv f t
    rw [if_pos hf]; omega
   ·have := aMP hf h
    split <;> omega
theorem aPD {f g : Lk → Bool} (h : ∀ l, f l = true → g l = false) : ∀ L : List Lk, axY (fun l => f l || g l) L = axY f L + axY g L
 | [] => rfl
 | l :: t => by
   have ih := aPD h t
   simp only [axY, ih]
   by_cases hf : f l = true
   ·simp [hf, h l hf]; omega
   ·have hf' : f l = false := by simpa using hf
    by_cases hg : g l = true
    ·simp [hf', hg]; omega
    ·simp [hf', hg]
theorem Wl.low {vs : List Int} {v d : Int} (h : Wl L S vs v d) : vs.Nodup → axY (fun l => vs.contains l.1) L ≤ d := by
 induction h with
 | nil h => intro _; exact amv _ _
 | @step vs u v m d hw hl ih =>
   intro hn
   rw [List.nodup_cons] at hn
   have h1 := ih hn.2
   have h2 : axY (fun l => l.1 == u) L ≤ m := aMP (f := fun l => l.1 == u) (l := (u, v, m)) (by simp) hl
   have h3 := aPD (f := fun l : Lk => l.1 == u) (g := fun l => vs.contains l.1) (fun l hf => by
    simp only [beq_iff_eq] at hf
    rw [hf]
    simpa using hn.1) L
   have h4 : (fun l : Lk => (u :: vs).contains l.1) = fun l => (l.1 == u) || vs.contains l.1 := by funext l; rw [List.contains_cons]
   rw [h4, h3]
   omega
def ayI (L : List Lk) : Int := axY (fun _ => true) L
theorem Wl.low' (hp : Pot L p) {vs : List Int} {v d : Int} (h : Wl L S vs v d) : ayI L ≤ d := by
 obtain ⟨vs', d', h1, h2, h3⟩ := h.simple hp
 have := h1.low (List.nodup_cons.1 h3).2
 have := aPE (fun l => vs'.contains l.1) L
 unfold ayI
 omega
theorem Wl.high {M : Int} (hM : ∀ l ∈ L, l.2.2 ≤ M) {vs : List Int} {v d : Int} (h : Wl L S vs v d) : d ≤ vs.length * M := by
 induction h with
 | nil h => simp
 | @step vs u v m d hw hl ih =>
   have := hM _ hl
   simp only [List.length_cons, Int.natCast_succ, Int.add_mul, Int.one_mul]
   simp only at this
   omega
theorem Wl.mono {S' : Int → Prop} (hS : ∀ v, S v → S' v) {vs : List Int} {v d : Int} (h : Wl L S vs v d) : Wl L S' vs v d := by
 induction h with
 | nil h => exact .nil (hS _ h)
 | step hw hl ih => exact .step ih hl
theorem Wl.pot (hp : Pot L p) {vs : List Int} {v d : Int} (h : Wl L S vs v d) : ∃ s, S s ∧ p v - p s ≤ d := by
 induction h with
 | @nil v h => exact ⟨v, h, by omega⟩
 | @step vs u v m d hw hl ih =>
   obtain ⟨s, h1, h2⟩ := ih
   have := hp u v m hl
   exact ⟨s, h1, by omega⟩
end
abbrev ae7 : Int := 1152921504606846976
structure aOM (L : List Lk) (S : Int → Prop) (N : Nat) (x : Int → Int) : Prop where
 att : ∀ v : Int, 0 ≤ v → v < N → x v ≠ ae7 → ∃ vs, Wl L S vs v (x v)
 low : ∀ v vs d, Wl L S vs v d → x v ≤ d
 bd : ∀ v : Int, 0 ≤ v → v < N → x v ≤ ae7
theorem aOM.uniq {L : List Lk} {S : Int → Prop} {N : Nat} {x y : Int → Int} (hx : aOM L S N x) (hy : aOM L S N y) {v : Int} (h0 : 0 ≤ v) (h1 : v < N) : x v = y v := by
 have key : ∀ {x y : Int → Int}, aOM L S N x → aOM L S N y → x v ≤ y v := by
  intro x y hx hy
  by_cases h : y v = ae7
  ·rw [h]; exact hx.bd v h0 h1
  ·obtain ⟨vs, hw⟩ := hy.att v h0 h1 h
   exact hx.low v vs _ hw
 exact Int.le_antisymm (key hx hy) (key hy hx)
def gv (x : List Int) (v : Int) : Int := x[v.toNat]?.getD 0
theorem aJM {x : List Int} {v : Int} (h : v.toNat < x.length) : x[v.toNat]? = some (gv x v) := by
 unfold gv; rw [List.getElem?_eq_getElem h]; rfl
theorem aph {x : List Int} {u v : Int} (hu : 0 ≤ u) (hv : 0 ≤ v) (h : u.toNat < x.length) (y : Int) : gv (x.set u.toNat y) v = if v = u then y else gv x v := by
 unfold gv
 rw [List.getElem?_set]
 by_cases hvu : v = u
 ·subst hvu; simp [h]
 ·have : ¬ u.toNat = v.toNat := by omega
  simp [hvu, this]
theorem aMZ {x y : List Int} (hl : x.length = y.length) (h : ∀ v : Int, 0 ≤ v → v < x.length → gv x v = gv y v) : x = y := by
 refine List.ext_getElem hl fun i h1 h2 => ?_
 have := h i (by omega) (by omega)
 unfold gv at this
 simpa [h1, h2] using this
def ahG (x : List Int) (l : Lk) : List Int := if gv x l.1 < ae7 ∧ gv x l.1 + l.2.2 < gv x l.2.1 then x.set l.2.1.toNat (gv x l.1 + l.2.2) else x
def axW (L : List Lk) (x : List Int) : List Int := L.foldl ahG x
def ahe (L : List Lk) : Nat → List Int → List Int
 | 0, x => x
 | n + 1, x => ahe L n (axW L x)
theorem ai8 (x : List Int) (l : Lk) : (ahG x l).length = x.length := by unfold ahG; split <;> simp
theorem aok (L : List Lk) : ∀ x : List Int, (axW L x).length = x.length := by
 induction L with
 | nil => intro x; rfl
 | cons l t ih => intro x; show (axW t (ahG x l)).length = _; rw [ih, ai8]
theorem aee (L : List Lk) : ∀ (n : Nat) (x : List Int), (ahe L n x).length = x.length
 | 0, x => rfl
 | n + 1, x => by rw [ahe, aee L n, aok]
theorem ary (L : List Lk) : ∀ (n : Nat) (x : List Int), ahe L (n + 1) x = axW L (ahe L n x)
 | 0, x => rfl
 | n + 1, x => by rw [ahe, ary L n]; rfl
section
variable {L0 : List Lk} {S : Int → Prop} {N : Nat}
theorem aHW {x : List Int} {l : Lk} (hl : (0 ≤ l.1 ∧ l.1 < N) ∧ (0 ≤ l.2.1 ∧ l.2.1 < N)) (hx : x.length = N) (v : Int) (hv : 0 ≤ v) : gv (ahG x l) v ≤ gv x v := by
 unfold ahG
 split
 ·rename_i h
  rw [aph hl.2.1 hv (by omega)]
  split
  ·rename_i h2; subst h2; omega
  ·exact Int.le_refl _
 ·exact Int.le_refl _
theorem asF : ∀ {L : List Lk}, InR L N → ∀ {x : List Int}, x.length = N → ∀ v, 0 ≤ v → gv (axW L x) v ≤ gv x v
 | [], _, x, _, v, _ => Int.le_refl _
 | l :: t, hL, x, hx, v, hv => by
   have h1 := aHW (hL l (by simp)) hx v hv
   have h2 := asF (L := t) (fun l hl => hL l (by simp [hl])) (x := ahG x l) (by rw [ai8, hx]) v hv
   show gv (axW t (ahG x l)) v ≤ _
   omega
theorem avh : ∀ {L : List Lk}, InR L N → ∀ {x : List Int}, x.length = N → ∀ u v m, (u, v, m) ∈ L → gv x u < ae7 → gv (axW L x) v ≤ gv x u + m
 | l :: t, hL, x, hx, u, v, m, hm, hf => by
   have ht : InR t N := fun l hl => hL l (by simp [hl])
   have hx' : (ahG x l).length = N := by rw [ai8, hx]
   show gv (axW t (ahG x l)) v ≤ _
   rcases List.mem_cons.1 hm with rfl | hm
   ·have hl := hL (u, v, m) (by simp)
    have h2 := asF ht hx' v hl.2.1
    have h3 : gv (ahG x (u, v, m)) v ≤ gv x u + m := by
     unfold ahG
     split
     ·rw [aph hl.2.1 hl.2.1 (by simp only at hl; simp only; omega), if_pos rfl]; exact Int.le_refl _
     ·rename_i h; simp only [not_and, Int.not_lt] at h; exact h hf
    omega
   ·have hl := hL (u, v, m) (by simp [hm])
    have h1 := aHW (hL l (by simp)) hx u hl.1.1
    have := avh ht hx' u v m hm (by omega)
    omega
def Att (L0 : List Lk) (S : Int → Prop) (N : Nat) (x : List Int) : Prop := ∀ v : Int, 0 ≤ v → v < N → gv x v < ae7 → ∃ vs, Wl L0 S vs v (gv x v)
theorem aNK {x : List Int} {l : Lk} (hl : (0 ≤ l.1 ∧ l.1 < N) ∧ (0 ≤ l.2.1 ∧ l.2.1 < N)) (hm : l ∈ L0) (hx : x.length = N) (h : Att L0 S N x) : Att L0 S N (ahG x l) := by
 unfold ahG
 split
 ·rename_i hc
  intro v h0 h1 hf
  rw [aph hl.2.1 h0 (by omega)] at hf ⊢
  split
  ·rename_i h2
   obtain ⟨vs, hw⟩ := h l.1 hl.1.1 hl.1.2 hc.1
   exact ⟨_, h2 ▸ Wl.step hw hm⟩
  ·rename_i h2
   rw [if_neg h2] at hf
   exact h v h0 h1 hf
 ·exact h
theorem aH7 : ∀ {L : List Lk}, InR L N → (∀ l ∈ L, l ∈ L0) → ∀ {x : List Int}, x.length = N → Att L0 S N x → Att L0 S N (axW L x)
 | [], _, _, _, _, h => h
 | l :: t, hL, hsub, x, hx, h => aH7 (L := t) (fun l hl => hL l (by simp [hl])) (fun l hl => hsub l (by simp [hl])) (x := ahG x l) (by rw [ai8, hx]) (aNK (hL l (by simp)) (hsub l (by simp)) hx h)
theorem aDM (hL : InR L0 N) : ∀ (n : Nat) {x : List Int}, x.length = N → Att L0 S N x → Att L0 S N (ahe L0 n x)
 | 0, _, _, h => h
 | n + 1, x, hx, h => aDM hL n (by rw [aok, hx]) (aH7 hL (fun _ h => h) hx h)
theorem asE (hL : InR L0 N) : ∀ (n : Nat) {x : List Int}, x.length = N → ∀ v, 0 ≤ v → gv (ahe L0 n x) v ≤ gv x v
 | 0, _, _, _, _ => Int.le_refl _
 | n + 1, x, hx, v, hv => Int.le_trans (asE hL n (by rw [aok, hx]) v hv) (asF hL hx v hv)
def amr (S : Int → Bool) (N : Nat) : List Int := (List.range N).map fun (i : Nat) => if S i then 0 else ae7
theorem afL (S : Int → Bool) {N : Nat} {v : Int} (h0 : 0 ≤ v) (h1 : v < N) : gv (amr S N) v = if S v then 0 else ae7 := by
 unfold gv amr
 have : v.toNat < N := by omega
 rw [List.getElem?_map, List.getElem?_range this]
 simp only [Option.map_some, Option.getD_some]
 rw [Int.toNat_of_nonneg h0]
theorem acW (S : Int → Bool) (N : Nat) : (amr S N).length = N := by simp [amr]
end
theorem avg {L : List Lk} {S : Int → Bool} {N : Nat} {M : Int} (hL : InR L N) (hS : ∀ v, S v = true → 0 ≤ v ∧ v < N) (hM : ∀ l ∈ L, l.2.2 ≤ M) : ∀ (n : Nat), n * M < ae7 → 0 ≤ M → ∀ vs v d, Wl L (fun v => S v = true) vs v d → vs.length ≤ n → gv (ahe L n (amr S N)) v ≤ d
 | 0, _, _, vs, v, d, hw, hl => by
   cases hw with
   | nil h =>
     have := hS v h
     rw [ahe, afL S this.1 this.2, if_pos h]; exact Int.le_refl _
   | step => simp at hl
 | n + 1, hn, hM0, vs, v, d, hw, hl => by
   have hn' : n * M < ae7 := by rw [Int.natCast_succ, Int.add_mul, Int.one_mul] at hn; omega
   have hlen : (ahe L n (amr S N)).length = N := by rw [aee, acW]
   rw [ary]
   cases hw with
   | nil h =>
     have h1 := asF hL hlen v (hS v h).1
     have h2 := avg hL hS hM n hn' hM0 [] v 0 (.nil h) (by simp)
     omega
   | @step vs u _ m d hw hlk =>
     have h2 := avg hL hS hM n hn' hM0 vs u d hw (by simpa using hl)
     have h3 := hw.high hM
     have h4 : (vs.length : Int) * M ≤ n * M := Int.mul_le_mul_of_nonneg_right (by simp at hl; omega) hM0
     have := avh hL hlen u v m hlk (by omega)
     omega
theorem azp {L : List Lk} {S : Int → Bool} {N : Nat} {M : Int} {p : Int → Int} (hp : Pot L p) (hL : InR L N) (hS : ∀ v, S v = true → 0 ≤ v ∧ v < N) (hM : ∀ l ∈ L, l.2.2 ≤ M) (hM0 : 0 ≤ M) (hN : N * M < ae7) (n : Nat) (hn : N ≤ n + 1) : aOM L (fun v => S v = true) N (gv (ahe L n (amr S N))) := by
 have hatt : Att L (fun v => S v = true) N (amr S N) := fun v h0 h1 hf => by
  rw [afL S h0 h1] at hf ⊢
  split
  ·rename_i h; exact ⟨[], .nil h⟩
  ·rename_i h; rw [if_neg h] at hf; omega
 have hbd : ∀ v : Int, 0 ≤ v → v < N → gv (ahe L n (amr S N)) v ≤ ae7 := fun v h0 h1 => by
  have := asE hL n (acW S N) v h0
  rw [afL S h0 h1] at this
  have hF : (0 : Int) ≤ ae7 := by decide
  split at this <;> omega
 have hlow : ∀ (n : Nat), N ≤ n + 1 → ∀ v vs d, Wl L (fun v => S v = true) vs v d → gv (ahe L n (amr S N)) v ≤ d := by
  intro n hn v vs d hw
  obtain ⟨vs', d', h1, h2, h3⟩ := hw.simple hp
  have h4 := h1.short hL hS h3
  have hpos : 0 < N := by omega
  obtain ⟨k, rfl⟩ : ∃ k, N = k + 1 := ⟨N - 1, by omega⟩
  have hk : (k : Int) * M < ae7 := by rw [Int.natCast_succ, Int.add_mul, Int.one_mul] at hN; omega
  have h5 := avg hL hS hM k hk hM0 vs' v d' h1 (by omega)
  obtain ⟨j, rfl⟩ : ∃ j, n = k + j := ⟨n - k, by omega⟩
  have h6 : ∀ (j : Nat), gv (ahe L (k + j) (amr S (k + 1))) v ≤ gv (ahe L k (amr S (k + 1))) v := by
   intro j
   induction j with
   | zero => exact Int.le_refl _
   | succ j ih =>
     rw [← Nat.add_assoc, ary]
     have := asF hL (x := ahe L (k + j) (amr S (k + 1))) (by rw [aee, acW]) v (h1.range hL hS).1.1
     omega
  have := h6 j
  omega
 exact ⟨fun v h0 h1 hne => aDM hL n (acW S N) hatt v h0 h1 (by have := hbd v h0 h1; omega), hlow n hn, hbd⟩
theorem aOM.pot {L : List Lk} {S : Int → Prop} {N : Nat} {x : Int → Int} (h : aOM L S N x) (hL : InR L N) {u v m : Int} (hl : (u, v, m) ∈ L) (hf : x u ≠ ae7) : x v ≤ x u + m := by
 obtain ⟨vs, hw⟩ := h.att u (hL _ hl).1.1 (hL _ hl).1.2 hf
 exact h.low v _ _ (.step hw hl)
end Go.Proofs.ZzM
end
noncomputable section
namespace Go.Proofs.ZzM
open Go Go.Am
def adm (b : acs) (g : acP) : List Lk :=
 [(0, atP (aca b) [g.1] g.2.1, g.2.2.1 + g.2.2.2.1.2), (atP (aca b) [g.1] g.2.1, 0, -(g.2.2.1 + g.2.2.2.1.1))] ++
 (List.range ((acv b g).length - 1)).flatMap fun (k : Nat) => [(atP (aca b) [g.1] g.2.1 + k, atP (aca b) [g.1] g.2.1 + k + 1, 0), (atP (aca b) [g.1] g.2.1 + k + 1, atP (aca b) [g.1] g.2.1 + k, agc b g ((acv b g)[k]?.getD 0) ((acv b g)[k + 1]?.getD 0))]
def cx (b : acs) (c : Cmp) : Int := atP (aca b) (ac4 c.2.2.1 c.2.2.2.1) c.2.1
def cy (b : acs) (c : Cmp) : Int := atP (aca b) (ac4 c.2.2.2.1 c.2.2.1) c.2.1
def acZ (b : acs) (c : Cmp) : List Lk := [(cy b c, cx b c, (aeG b c).2), (cx b c, cy b c, -(aeG b c).1)]
def ack (b : acs) : List Lk := b.2.1.flatMap (adm b) ++ b.2.2.2.2.1.flatMap (acZ b)
def adv (b : acs) (i : Nat) (g : acP) : List (Int × Int) := [(1, (i : Int)), (1, (i : Int))] ++ (List.range ((acv b g).length - 1)).flatMap fun _ => [(2, (i : Int)), (2, (i : Int))]
def aed (b : acs) : List (Int × Int) := (b.2.1.mapIdx (adv b)).flatten ++ (b.2.2.2.2.1.mapIdx fun i _ => [(3, (i : Int)), (3, (i : Int))]).flatten
section
variable {b : acs}
theorem aOV (h : adi b) {id day : Int} (hu : aSV (aiO b) id day = 0) : (0 ≤ day ∧ day ≤ 20000) ∧ ∃ g, ags b id = some g ∧ g.2.1 ≤ day := by
 unfold aSV at hu
 split at hu
 ·omega
 ·rename_i hd
  simp only [Bool.not_eq_true', Bool.not_eq_false, aLP, inP, Bool.and_eq_true, decide_eq_true_eq] at hd
  exact ⟨hd, aD2 h hu⟩
theorem aiK {g : acP} {d : Int} : d ∈ acv b g ↔ d = g.2.1 ∨ (∃ c ∈ b.2.2.2.2.1, (c.2.2.1.contains g.1) ≠ (c.2.2.2.1.contains g.1) ∧ c.2.1 = d) ∨ (∃ n ∈ b.2.2.2.2.2, n.1 = g.1 ∧ n.2 = d) := by
 unfold acv
 rw [apL, aLO]
 simp only [List.mem_append, List.mem_singleton, List.mem_map, List.mem_filter]
 constructor
 ·rintro ((h | ⟨c, ⟨h1, h2⟩, h3⟩) | ⟨n, ⟨h1, h2⟩, h3⟩)
  ·exact .inl h
  ·exact .inr (.inl ⟨c, h1, by simpa using h2, h3⟩)
  ·exact .inr (.inr ⟨n, h1, by simpa using h2, h3⟩)
 ·rintro (h | ⟨c, h1, h2, h3⟩ | ⟨n, h1, h2, h3⟩)
  ·exact .inl (.inl h)
  ·exact .inl (.inr ⟨c, ⟨h1, by simpa using h2⟩, h3⟩)
  ·exact .inr ⟨n, ⟨h1, by simpa using h2⟩, h3⟩
theorem adi.gaugeR (h : adi b) {g : acP} (hg : g ∈ b.2.1) : aCa g.2.2.2.2.1 = true ∧ (-1000 ≤ g.2.2.2.2.1.1 ∧ g.2.2.2.2.1.1 ≤ 1000) ∧ g.2.2.2.2.1.2 ≤ 100 ∧ (1 ≤ g.1 ∧ g.1 ≤ 1099511627776) ∧ (0 ≤ g.2.1 ∧ g.2.1 ≤ 20000) ∧ (1 ≤ g.2.2.1 ∧ g.2.2.1 ≤ 1125899906842624) ∧ (-1073741824 ≤ g.2.2.2.1.1 ∧ g.2.2.2.1.1 ≤ g.2.2.2.1.2 ∧ g.2.2.2.1.2 ≤ 1073741824) ∧ (0 ≤ g.2.2.2.2.2 ∧ g.2.2.2.2.2 ≤ 1048576) := (aEt g).1 (h.gauge g hg)
theorem adi.day (h : adi b) {g : acP} (hg : g ∈ b.2.1) {d : Int} (hd : d ∈ acv b g) : g.2.1 ≤ d ∧ 0 ≤ d ∧ d ≤ 20000 := by
 have hr := h.gaugeR hg
 have hgo := aj0 h.ids hg
 rcases aiK.1 hd with rfl | ⟨c, hc, h1, rfl⟩ | ⟨n, hn, h1, rfl⟩
 ·have := hr.2.2.2.2.1; omega
 ·have hn := (ahf c).1 (h.nums hc)
  have hx : g.1 ∈ c.2.2.1 ++ c.2.2.2.1 := by
   rw [List.mem_append]
   by_cases h2 : g.1 ∈ c.2.2.1
   ·exact .inl h2
   ·refine .inr ?_
    have e1 : c.2.2.1.contains g.1 = false := by simpa using h2
    rw [e1] at h1
    have : c.2.2.2.1.contains g.1 = true := by cases hh : c.2.2.2.1.contains g.1 <;> simp_all
    simpa using this
  obtain ⟨⟨g', h3, h4⟩, _⟩ := h.pile hc hx
  rw [hgo] at h3; cases h3
  have := hn.2.1
  omega
 ·obtain ⟨h2, g', h3, h4⟩ := aOV h (h.looks n hn)
  rw [h1, hgo] at h3; cases h3
  omega
theorem ain (g : acP) : g.2.1 ∈ acv b g := aiK.2 (.inl rfl)
theorem aG8 (h : adi b) {g : acP} (hg : g ∈ b.2.1) : (acv b g).length ≤ 59 := by
 have h1 : ∀ l : List acP, g ∈ l → (acv b g).length ≤ (l.flatMap fun g => (acv b g).map fun d => ((g.1, d) : Int × Int)).length := by
  intro l
  induction l with
  | nil => intro hg; cases hg
  | cons a t ih =>
    intro hg
    rw [List.flatMap_cons, List.length_append, List.length_map]
    rcases List.mem_cons.1 hg with rfl | hg
    ·omega
    ·have := ih hg; omega
 have := h1 b.2.1 hg
 have := h.nodes
 unfold aca at this
 omega
theorem aQ7 {p : List Int} {d : Int} : 0 ≤ atP (aca b) p d ∧ atP (aca b) p d ≤ (aca b).length := by
 unfold atP
 cases p with
 | nil => simp
 | cons x t =>
   try dsimp only
   cases h : agq (aca b) x d with
   | none => simp
   | some j => have := (agX h).1; dsimp only; omega
theorem azg (h : adi b) {c : Cmp} (hc : c ∈ b.2.2.2.2.1) : (-1125904000000000 ≤ (aeG b c).1 ∧ (aeG b c).1 ≤ 1125904000000000) ∧ (-1125904000000000 ≤ (aeG b c).2 ∧ (aeG b c).2 ≤ 1125904000000000) := by
 obtain ⟨r1, r2⟩ := h.rates hc
 have hn := (ahf c).1 (h.nums hc)
 have ha := aeO hn.2.2.2.2.2.1
 have hb := aeO hn.2.2.2.2.2.2
 have hf := h.film
 obtain ⟨g1, g2⟩ := aFe (aER r1 r2) hn.2.2.2.2.1
 have fb := asp (b := b) (c := c) (by omega) (by omega) (by omega) (by omega) (by omega) (by omega)
 have q1 : amq (ads b c).1 2000000000 10000 := g1
 have q2 : amq (ads b c).2 2000000000 10000 := g2
 have c1 := awC q1
 have c2 := asm q2
 have n3 := hn.2.2.1
 have n4 := hn.2.2.2.1
 unfold aeG
 try dsimp only
 omega
theorem ane (h : adi b) {g : acP} (hg : g ∈ b.2.1) {f t : Int} (hf : 0 ≤ f) : 0 ≤ agc b g f t ∧ agc b g f t ≤ 12 * (20001 * 1048576) + 40 * 1048576 := by
 have hr := (h.gaugeR hg).2.2.2.2.2.2.2
 have h1 := alo (id := g.1) (t := t) hf (x := b.2.2.2.1) fun l hl => ap0 h hl
 have h2 : (b.2.2.2.1.length : Int) * (20001 * 1048576) ≤ 12 * (20001 * 1048576) := Int.mul_le_mul_of_nonneg_right (by have := h.nL; omega) (by omega)
 have h3 : (aeT b g.1 f t).length ≤ 40 := by
  unfold aeT
  rw [List.length_map]
  exact Nat.le_trans (List.length_filter_le _ _) h.nU
 have h4 := ayD (aeT b g.1 f t)
 have hm : 0 ≤ ((aHx (aeT b g.1 f t)).length : Int) * g.2.2.2.2.2 ∧ ((aHx (aeT b g.1 f t)).length : Int) * g.2.2.2.2.2 ≤ 40 * 1048576 :=
  ⟨Int.mul_nonneg (by omega) hr.1, Int.mul_le_mul (by omega) hr.2 hr.1 (by omega)⟩
 unfold agc
 omega
end
theorem ahP {α β : Type} (f : Nat → α → β) {l : List α} {i : Nat} {a : α} (h : l[i]? = some a) : (l.take (i + 1)).mapIdx f = (l.take i).mapIdx f ++ [f i a] := by
 have hi : i < l.length := (List.getElem?_eq_some_iff.1 h).1
 have : (l.take i).length = i := by rw [List.length_take]; omega
 rw [take_succ h, List.mapIdx_append]
 simp [this]
theorem ave {α : Type} (f : Nat → List α) (j : Nat) : (List.range (j + 1)).flatMap f = (List.range j).flatMap f ++ f j := by
 rw [List.range_succ, List.flatMap_append]; simp
theorem agJ {α : Type} (f : Nat → List α) (n : Nat) (h : ∀ k, (f k).length = 2) : ((List.range n).flatMap f).length = 2 * n := by
 induction n with
 | zero => rfl
 | succ n ih => rw [ave, List.length_append, ih, h]; omega
set_option maxHeartbeats 2000000 in
theorem aFo {b : acs} (h : adi b) : ap7 b = some (b, aca b, (((aca b).length : Int) + 1, ack b), aed b) := by
 unfold ap7 aGq
 have hN := h.nodes
 have hG := h.nG
 have hC := h.nC
 rw [aFg h.size, abZ, acB, acm (by omega) (by omega)]
 -- lengths of what comes
 have gl : ∀ g ∈ b.2.1, (adm b g).length ≤ 120 ∧ ∀ i, (adv b i g).length ≤ 120 := by
  intro g hg
  have := aG8 h hg
  constructor
  ·unfold adm
   rw [List.length_append, agJ _ _ (fun _ => rfl)]
   simp only [List.length_cons, List.length_nil]; omega
  ·intro i
   unfold adv
   rw [List.length_append, agJ _ _ (fun _ => rfl)]
   simp only [List.length_cons, List.length_nil]; omega
 have gls : ∀ i, ((b.2.1.take i).flatMap (adm b)).length ≤ 1440 ∧ (((b.2.1.take i).mapIdx (adv b)).flatten).length ≤ 1440 := by
  intro i
  induction i with
  | zero => simp
  | succ i ih =>
    have key : ∀ i, i ≤ b.2.1.length → ((b.2.1.take i).flatMap (adm b)).length ≤ i * 120 ∧ (((b.2.1.take i).mapIdx (adv b)).flatten).length ≤ i * 120 := by
     intro i
     induction i with
     | zero => intro _; simp
     | succ i ih =>
       intro hi
       have ih := ih (by omega)
       have hg : b.2.1[i]? = some b.2.1[i] := List.getElem?_eq_getElem hi
       have h2 := gl _ (List.mem_of_getElem? hg)
       have h3 := h2.2 i
       rw [ahP _ hg, take_succ hg, List.flatMap_append, List.flatten_append, List.length_append, List.length_append]
       simp only [List.flatMap_cons, List.flatMap_nil, List.append_nil, List.flatten_cons, List.flatten_nil]
       omega
    rcases Nat.lt_or_ge b.2.1.length (i + 1) with h1 | h1
    ·rw [List.take_of_length_le (by omega)]
     have := key b.2.1.length (Nat.le_refl _)
     rw [List.take_length] at this
     omega
    ·have := key (i + 1) h1
     omega
 refine ac9 b.2.1 (fun i => ((b.2.1.take i).flatMap (adm b), ((b.2.1.take i).mapIdx (adv b)).flatten)) _ rfl (fun i g hi hg kn => ?_) (fun kn => ?_)
 ·try dsimp only
  unfold am3
  have hgm := List.mem_of_getElem? hg
  have hr := h.gaugeR hgm
  have hd := aG8 h hgm
  have hls := gls i
  have hat := aQ7 (b := b) (p := [g.1]) (d := g.2.1)
  rw [acj hi, ace hg]
  rw [show ajk ((b.1.1, b.1.2), b.2.1, b.2.2.1, b.2.2.2.1, b.2.2.2.2.1, b.2.2.2.2.2) g = ajk b g from rfl, aQy h.size, abZ]
  rw [aQ6 _ _ _ (by dsimp only; omega), abZ]
  try dsimp only
  have r1 := hr.2.2.2.2.2.1
  have r2 := hr.2.2.2.2.2.2.1
  rw [acm (by omega) (by omega), acm (by omega) (by omega), acm (by omega) (by omega), acl (by simp only [List.length_cons, List.length_nil]; omega), Am.iff_true, acl (by simp only [List.length_cons, List.length_nil]; omega), Am.iff_true]
  refine afS (fun x : Int × List Lk × List (Int × Int) => ∃ j : Nat, j + 1 ≤ (acv b g).length ∧ x.1 = (j : Int) + 1 ∧
   x.2.1 = (b.2.1.take i).flatMap (adm b) ++ ([(0, atP (aca b) [g.1] g.2.1, g.2.2.1 + g.2.2.2.1.2), (atP (aca b) [g.1] g.2.1, 0, -(g.2.2.1 + g.2.2.2.1.1))] ++
    (List.range j).flatMap fun (k : Nat) => [(atP (aca b) [g.1] g.2.1 + k, atP (aca b) [g.1] g.2.1 + k + 1, 0), (atP (aca b) [g.1] g.2.1 + k + 1, atP (aca b) [g.1] g.2.1 + k, agc b g ((acv b g)[k]?.getD 0) ((acv b g)[k + 1]?.getD 0))]) ∧
   x.2.2 = ((b.2.1.take i).mapIdx (adv b)).flatten ++ ([(1, (i : Int)), (1, (i : Int))] ++ (List.range j).flatMap fun _ => [(2, (i : Int)), (2, (i : Int))])) (fun x => (acv b g).length - x.1.toNat) ?_
   ⟨0, List.length_pos_of_mem (ain g), rfl, by simp, by simp⟩
  rintro ⟨x1, ls, ss⟩ ⟨j, hj, e1, e2, e3⟩
  dsimp only at e1 e2 e3 ⊢
  subst e1
  have hlls : ls.length ≤ 1562 := by
   rw [e2, List.length_append, List.length_append, agJ _ _ (fun _ => rfl)]
   simp only [List.length_cons, List.length_nil]; omega
  have hlss : ss.length ≤ 1562 := by
   rw [e3, List.length_append, List.length_append, agJ _ _ (fun _ => rfl)]
   simp only [List.length_cons, List.length_nil]; omega
  rcases Nat.lt_or_ge (j + 1) (acv b g).length with hlt | hge
  ·refine .inr ⟨((j : Int) + 1 + 1, _, _), ⟨j + 1, hlt, by push_cast; rfl, rfl, rfl⟩, by dsimp only; omega, fun kn' => ?_⟩
   try dsimp only
   unfold am2
   have g1 : (acv b g)[j]? = some ((acv b g)[j]?.getD 0) := by rw [List.getElem?_eq_getElem (by omega)]; rfl
   have g2 : (acv b g)[j + 1]? = some ((acv b g)[j + 1]?.getD 0) := by rw [List.getElem?_eq_getElem hlt]; rfl
   have d1 := h.day hgm (List.mem_of_getElem? g1)
   have d2 := h.day hgm (List.mem_of_getElem? g2)
   have lb := ane h hgm (t := (acv b g)[j + 1]?.getD 0) d1.2.1
   have ec : ((j : Int) + 1) = ((j + 1 : Nat) : Int) := by push_cast; rfl
   rw [ec, acj hlt, acm (by omega) (by omega), acm (by omega) (by omega), acm (by omega) (by omega), acm (by omega) (by omega)]
   rw [show (((j + 1 : Nat) : Int) - 1) = ((j : Nat) : Int) by omega, ace g1, ace g2]
   rw [show ap8 ((b.1.1, b.1.2), b.2.1, b.2.2.1, b.2.2.2.1, b.2.2.2.2.1, b.2.2.2.2.2) (g.1, g.2.1, g.2.2.1, (g.2.2.2.1.1, g.2.2.2.1.2), (g.2.2.2.2.1.1, g.2.2.2.2.1.2), g.2.2.2.2.2) ((acv b g)[j]?.getD 0) ((acv b g)[j + 1]?.getD 0) = ap8 b g ((acv b g)[j]?.getD 0) ((acv b g)[j + 1]?.getD 0) from rfl]
   rw [aTJ h hr.2.2.2.2.2.2.2 ⟨by omega, by omega⟩ ⟨by omega, by omega⟩, abZ, acm (by omega) (by omega), acm (by omega) (by omega), acl (by simp only [List.length_cons, List.length_nil]; omega), Am.iff_true, acl (by simp only [List.length_cons, List.length_nil]; omega), Am.iff_true, acg hlt (by omega)]
   rw [ave, ave, e2, e3]
   have a1 : atP (aca b) [g.1] g.2.1 + ((j + 1 : Nat) : Int) - 1 = atP (aca b) [g.1] g.2.1 + (j : Int) := by push_cast; omega
   have a2 : atP (aca b) [g.1] g.2.1 + ((j + 1 : Nat) : Int) = atP (aca b) [g.1] g.2.1 + (j : Int) + 1 := by push_cast; omega
   have a3 : 0 - (0 - agc b g ((acv b g)[j]?.getD 0) ((acv b g)[j + 1]?.getD 0)) = agc b g ((acv b g)[j]?.getD 0) ((acv b g)[j + 1]?.getD 0) := by omega
   rw [a1, a2, a3]
   simp only [List.append_assoc]
  ·refine .inl fun kn' => ?_
   have hje : j + 1 = (acv b g).length := by omega
   unfold am2
   rw [show ((j : Int) + 1) = (((acv b g).length : Nat) : Int) by rw [← hje]; push_cast; rfl, acH]
   dsimp only
   rw [acg hi (by omega)]
   rw [ahP _ hg, take_succ hg, List.flatMap_append, List.flatten_append, e2, e3, show j = (acv b g).length - 1 by omega]
   simp only [List.flatMap_cons, List.flatMap_nil, List.append_nil, List.flatten_cons, List.flatten_nil]
   rfl
 ·try dsimp only
  unfold am3
  rw [acH, List.take_length]
  have hls := gls b.2.1.length
  rw [List.take_length] at hls
  have cl : ∀ i, i ≤ b.2.2.2.2.1.length → ((b.2.2.2.2.1.take i).flatMap (acZ b)).length = 2 * i ∧ (((b.2.2.2.2.1.take i).mapIdx fun i _ => [((3 : Int), (i : Int)), ((3 : Int), (i : Int))]).flatten).length = 2 * i := by
   intro i
   induction i with
   | zero => intro _; simp
   | succ i ih =>
     intro hi
     have ih := ih (by omega)
     have hg : b.2.2.2.2.1[i]? = some b.2.2.2.2.1[i] := List.getElem?_eq_getElem hi
     rw [ahP _ hg, take_succ hg, List.flatMap_append, List.flatten_append, List.length_append, List.length_append]
     simp only [List.flatMap_cons, List.flatMap_nil, List.append_nil, List.flatten_cons, List.flatten_nil, acZ, List.length_cons, List.length_nil]
     omega
  refine ac9 b.2.2.2.2.1 (fun i => (b.2.1.flatMap (adm b) ++ (b.2.2.2.2.1.take i).flatMap (acZ b), (b.2.1.mapIdx (adv b)).flatten ++ ((b.2.2.2.2.1.take i).mapIdx fun i _ => [((3 : Int), (i : Int)), ((3 : Int), (i : Int))]).flatten)) _ (by simp) (fun i c hi hc kn' => ?_) (fun kn' => ?_)
  ·try dsimp only
   unfold am1
   have hcm := List.mem_of_getElem? hc
   have hn := (ahf c).1 (h.nums hcm)
   have ha := aeO hn.2.2.2.2.2.1
   have hb := aeO hn.2.2.2.2.2.2
   have sb := azg h hcm
   have c1 := cl i (by omega)
   rw [acj hi, ace hc, alp (by omega) (by omega), abZ, aQ6 _ _ _ (by dsimp only; omega), abZ, alp (by omega) (by omega), abZ, aQ6 _ _ _ (by dsimp only; omega), abZ]
   rw [show anm ((b.1.1, b.1.2), b.2.1, b.2.2.1, b.2.2.2.1, b.2.2.2.2.1, b.2.2.2.2.2) c = anm b c from rfl, h.says hcm, abZ]
   rw [acm (by omega) (by omega), acl (by simp only [List.length_append, List.length_cons, List.length_nil]; omega), Am.iff_true, acl (by simp only [List.length_append, List.length_cons, List.length_nil]; omega), Am.iff_true, acg hi (by omega), ahP _ hc, take_succ hc, List.flatMap_append, List.flatten_append]
   simp only [List.flatMap_cons, List.flatMap_nil, List.append_nil, List.flatten_cons, List.flatten_nil, List.append_assoc, Int.zero_sub]
   rfl
  ·try dsimp only
   unfold am1
   rw [acH, List.take_length]
   rfl
end Go.Proofs.ZzM
end
noncomputable section
namespace Go.Proofs.ZzM
open Go Go.Am
section
variable {ρ : Type}
def wv (w : List Bool) (v : Int) : Bool := w[v.toNat]?.getD false
theorem aMe {w : List Bool} {u v : Int} (hu : 0 ≤ u) (hv : 0 ≤ v) (h : u.toNat < w.length) (y : Bool) : wv (w.set u.toNat y) v = if v = u then y else wv w v := by
 unfold wv
 rw [List.getElem?_set]
 by_cases hvu : v = u
 ·subst hvu; simp [h]
 ·have : ¬ u.toNat = v.toNat := by omega
  simp [hvu, this]
theorem agM {x : List Int} {v : Int} (h : v.toNat < x.length) (f : Int → Option ρ) : afn x v.toNat f = f (gv x v) := amu (aJM h) f
theorem aFi {w : List Bool} {v : Int} (h : v.toNat < w.length) (f : Bool → Option ρ) : afn w v.toNat f = f (wv w v) := by
 refine amu ?_ f
 unfold wv; rw [List.getElem?_eq_getElem h]; rfl
theorem af0 {v : Int} {n : Nat} (h0 : 0 ≤ v) (h1 : v < n) (x : Option ρ) : acO ((ile 0 v) && (ilt v (n : Int))) x = x := by
 have : ((ile 0 v) && (ilt v (n : Int))) = true := by simp [ile, ilt, h0, h1]
 rw [this, Am.iff_true]
end
def ajX (n least : Int) : List Lk → List Int → List Bool → List Int → Bool × List Int × List Bool × List Int
 | [], x, w, q => (true, x, w, q)
 | l :: t, x, w, q =>
   if l.1 ≠ n then ajX n least t x w q else
   if gv x l.2.1 ≤ gv x n + l.2.2 then ajX n least t x w q else
   if gv x n + l.2.2 < least then (false, x.set l.2.1.toNat (gv x n + l.2.2), w, q) else
   if wv w l.2.1 then ajX n least t (x.set l.2.1.toNat (gv x n + l.2.2)) w q else ajX n least t (x.set l.2.1.toNat (gv x n + l.2.2)) (w.set l.2.1.toNat true) (q ++ [l.2.1])
structure afB (L : List Lk) (N : Nat) (M : Int) : Prop where
 inr : InR L N
 noloop : ∀ l ∈ L, l.1 ≠ l.2.1
 most : ∀ l ∈ L, -M ≤ l.2.2 ∧ l.2.2 ≤ M
 len : L.length ≤ 400
 nodes : N ≤ 1000
 m0 : 0 ≤ M
 m1 : M ≤ 4503599627370496
set_option maxHeartbeats 1000000 in
theorem aR5 {ρ : Type} {L : List Lk} {N : Nat} {M : Int} (hL : afB L N M) {n least : Int} (hn : 0 ≤ n ∧ n < N) {x : List Int} {w : List Bool} {q : List Int} (hx : x.length = N) (hw : w.length = N) (hq : q.length ≤ 1000000)
 (hb : -2305843009213693952 ≤ gv x n ∧ gv x n ≤ 2305843009213693952) (K0 : (Val (.pair .bool (.pair (.slice tI) (.pair (.slice .bool) (.slice tI))))) → Option ρ) (K1 : (Val (.pair (.slice tI) (.pair (.slice .bool) (.slice tI)))) → Option ρ) :
 ach (fun (v47 : (Val (.pair tI (.pair (.slice tI) (.pair (.slice .bool) (.slice tI)))))) kk52 => afX [] least n L (aco L) v47.1 v47.2.1 v47.2.2.1 v47.2.2.2 (fun u48 u49 u50 u51 => kk52 (u48, u49, u50, u51)) K0 K1) ((0 : Int), x, w, q) =
  match ajX n least L x w q with
  | (true, r) => K1 r
  | (false, r) => K0 (false, r) := by
 have hlen := hL.len
 refine aGQ L (fun i (s : List Int × List Bool × List Int) t => match ajX n least t s.1 s.2.1 s.2.2 with | (true, r) => K1 r | (false, r) => K0 (false, r))
  (fun i s => s.1.length = N ∧ s.2.1.length = N ∧ gv s.1 n = gv x n ∧ s.2.2.length ≤ 1000000 + i) (fun s hs kn => ?_) (fun i l t s hd hi hl hI kn hk => ?_) (s := (x, w, q)) ⟨hx, hw, rfl, by simpa using hq⟩
 ·try dsimp only
  unfold afX
  rw [acH]
  rfl
 ·obtain ⟨y, u, p⟩ := s
  obtain ⟨h1, h2, h3, h4⟩ := hI
  dsimp only at h1 h2 h3 h4 hk ⊢
  have hmem : l ∈ L := List.mem_of_getElem? hl
  have hr := hL.inr l hmem
  have hm := hL.most l hmem
  have hm1 := hL.m1
  have hnl := hL.noloop l hmem
  unfold afX
  rw [acj hi, ace hl]
  unfold ajX
  by_cases hln : l.1 = n
  ·have e0 : ine l.1 n = false := by simp [ine, hln]
   rw [aci e0]
   have e1 : ∀ (f : Bool → Option ρ) (g : Option ρ), aHy (k := tI) (v := .bool) (i : Int) [] f g = g := fun f g => rfl
   rw [e1, if_neg (by simp [hln])]
   have tn : n.toNat < y.length := by omega
   have tt : l.2.1.toNat < y.length := by omega
   have tu : l.2.1.toNat < u.length := by omega
   rw [af0 hn.1 (by omega), agM tn, acm (by omega) (by omega), af0 hr.2.1 (by omega), agM tt, adA]
   by_cases hge : gv y l.2.1 ≤ gv y n + l.2.2
   ·rw [if_pos (by simpa [ige] using hge), if_pos hge, acg hi (by omega)]
    exact hk (y, u, p) ⟨h1, h2, h3, by dsimp only; omega⟩
   ·rw [if_neg (by simpa [ige] using hge), if_neg hge]
    have hset : gv (y.set l.2.1.toNat (gv y n + l.2.2)) n = gv x n := by
     rw [aph hr.2.1 hn.1 tt, if_neg (fun h => hnl (hln.trans h)), h3]
    have hself : gv (y.set l.2.1.toNat (gv y n + l.2.2)) l.2.1 = gv y n + l.2.2 := by
     rw [aph hr.2.1 hr.2.1 tt, if_pos rfl]
    rw [af0 hn.1 (by omega), agM tn, acm (by omega) (by omega), af0 hr.2.1 (by omega), agM tt]
    rw [show (adE (List.set y l.2.1.toNat (gv y n + l.2.2))) = ((y.length : Nat) : Int) by simp [adE]]
    rw [af0 hr.2.1 (by omega), agM (by simpa using tt), hself, adA]
    by_cases hlt : gv y n + l.2.2 < least
    ·rw [if_pos (by simpa [ilt] using hlt), if_pos hlt]
    ·rw [if_neg (by simpa [ilt] using hlt), if_neg hlt, af0 hr.2.1 (by omega), aFi tu, adA]
     cases hwv : wv u l.2.1 with
     | true =>
       rw [if_neg (by simp), if_pos rfl, acg hi (by omega)]
       exact hk (y.set l.2.1.toNat (gv y n + l.2.2), u, p) ⟨by simpa using h1, h2, hset, by dsimp only; omega⟩
     | false =>
       rw [if_pos (by simp), if_neg (by simp), acl (by simp only [List.length_singleton]; omega), Am.iff_true, af0 hr.2.1 (by omega), aFi tu, acg hi (by omega)]
       exact hk (y.set l.2.1.toNat (gv y n + l.2.2), u.set l.2.1.toNat true, p ++ [l.2.1]) ⟨by simpa using h1, by simpa using h2, hset, by simp only [List.length_append, List.length_singleton]; omega⟩
  ·have e0 : ine l.1 n = true := by simp [ine, hln]
   rw [acp e0, if_pos hln, acg hi (by omega)]
   exact hk (y, u, p) ⟨h1, h2, h3, by dsimp only; omega⟩
structure aST (N : Nat) (n least : Int) (L : List Lk) (x : List Int) (q : List Int) (x' : List Int) (w' : List Bool) (q' : List Int) : Prop where
 lx : x'.length = N
 lw : w'.length = N
 same : gv x' n = gv x n
 le : ∀ v : Int, 0 ≤ v → v < N → gv x' v ≤ gv x v
 link : ∀ v m, (n, v, m) ∈ L → gv x' v ≤ gv x n + m
 chg : ∀ v : Int, 0 ≤ v → v < N → gv x' v = gv x v ∨ (v ∈ q' ∧ gv x' v < gv x v ∧ ∃ m, (n, v, m) ∈ L ∧ gv x' v = gv x n + m ∧ least ≤ gv x' v)
 new : ∃ l, q' = q ++ l ∧ ∀ v ∈ l, (0 ≤ v ∧ v < N) ∧ gv x' v < gv x v
 nodup : q'.Nodup
 waits : ∀ v : Int, 0 ≤ v → v < N → (wv w' v = true ↔ v ∈ q')
theorem ag1 {N : Nat} {n least : Int} (hn : 0 ≤ n ∧ n < N) : ∀ {L : List Lk}, InR L N → (∀ l ∈ L, l.1 ≠ l.2.1) → ∀ {x : List Int} {w : List Bool} {q : List Int}, x.length = N → w.length = N → q.Nodup → (∀ v : Int, 0 ≤ v → v < N → (wv w v = true ↔ v ∈ q)) →
 ∀ {x' : List Int} {w' : List Bool} {q' : List Int}, ajX n least L x w q = (true, x', w', q') → aST N n least L x q x' w' q'
 | [], _, _, x, w, q, hx, hw, hq, hwq, x', w', q', h => by
   cases h
   exact ⟨hx, hw, rfl, fun _ _ _ => Int.le_refl _, fun _ _ h => (by cases h), fun _ _ _ => .inl rfl, ⟨[], by simp, fun _ h => by cases h⟩, hq, hwq⟩
 | l :: t, hL, hnl, x, w, q, hx, hw, hq, hwq, x', w', q', h => by
   have hLt : InR t N := fun l hl => hL l (by simp [hl])
   have hnt : ∀ l ∈ t, l.1 ≠ l.2.1 := fun l hl => hnl l (by simp [hl])
   have hr := hL l (by simp)
   have hl0 := hnl l (by simp)
   unfold ajX at h
   split at h
   ·rename_i hne
    have a := ag1 hn hLt hnt hx hw hq hwq h
    exact ⟨a.lx, a.lw, a.same, a.le, fun v m hm => by
     rcases List.mem_cons.1 hm with rfl | hm
     ·exact (hne rfl).elim
     ·exact a.link v m hm, fun v h0 h1 => (a.chg v h0 h1).imp id fun ⟨g1, g2, m, g3, g4⟩ => ⟨g1, g2, m, by simp [g3], g4⟩, a.new, a.nodup, a.waits⟩
   ·rename_i hne
    have hln : l.1 = n := by simpa using hne
    split at h
    ·rename_i hle
     have a := ag1 hn hLt hnt hx hw hq hwq h
     exact ⟨a.lx, a.lw, a.same, a.le, fun v m hm => by
      rcases List.mem_cons.1 hm with rfl | hm
      ·have := a.le v hr.2.1 hr.2.2; simp only at hle; omega
      ·exact a.link v m hm, fun v h0 h1 => (a.chg v h0 h1).imp id fun ⟨g1, g2, m, g3, g4⟩ => ⟨g1, g2, m, by simp [g3], g4⟩, a.new, a.nodup, a.waits⟩
    ·rename_i hgt
     split at h
     ·cases h
     ·rename_i hls
      have tt : l.2.1.toNat < x.length := by omega
      have tw : l.2.1.toNat < w.length := by omega
      have hy : (x.set l.2.1.toNat (gv x n + l.2.2)).length = N := by simpa using hx
      have hyn : gv (x.set l.2.1.toNat (gv x n + l.2.2)) n = gv x n := by
       rw [aph hr.2.1 hn.1 tt, if_neg (fun h => hl0 (hln.trans h))]
      have hyv : ∀ v, 0 ≤ v → gv (x.set l.2.1.toNat (gv x n + l.2.2)) v = if v = l.2.1 then gv x n + l.2.2 else gv x v := fun v h0 => aph hr.2.1 h0 tt _
      have hlm : (n, l.2.1, l.2.2) ∈ l :: t := by rw [← hln]; simp
      -- what both ways have in common
      have fin : ∀ {w1 : List Bool} {q1 : List Int}, aST N n least t (x.set l.2.1.toNat (gv x n + l.2.2)) q1 x' w' q' → l.2.1 ∈ q1 → (∃ l', q1 = q ++ l' ∧ ∀ v ∈ l', v = l.2.1) → aST N n least (l :: t) x q x' w' q' := by
       intro w1 q1 a hmem hq1
       obtain ⟨new, hnew, hnv⟩ := a.new
       obtain ⟨l', hl', hlv⟩ := hq1
       have hto : gv x' l.2.1 ≤ gv x n + l.2.2 := by
        have := a.le l.2.1 hr.2.1 hr.2.2
        rw [hyv _ hr.2.1, if_pos rfl] at this
        exact this
       refine ⟨a.lx, a.lw, a.same.trans hyn, fun v h0 h1 => ?_, fun v m hm => ?_, fun v h0 h1 => ?_, ⟨l' ++ new, by rw [hnew, hl', List.append_assoc], fun v hv => ?_⟩, a.nodup, a.waits⟩
       ·have := a.le v h0 h1
        rw [hyv v h0] at this
        split at this
        ·rename_i e; subst e; omega
        ·exact this
       ·rcases List.mem_cons.1 hm with rfl | hm
        ·exact hto
        ·have := a.link v m hm
         rwa [hyn] at this
       ·rcases a.chg v h0 h1 with g | ⟨g1, g2, m, g3, g4, g5⟩
        ·rw [hyv v h0] at g
         split at g
         ·rename_i e
          subst e
          exact .inr ⟨by rw [hnew]; exact List.mem_append_left _ hmem, by omega, l.2.2, hlm, g, by omega⟩
         ·exact .inl g
        ·rw [hyv v h0] at g2
         rw [hyn] at g4
         refine .inr ⟨g1, ?_, m, by simp [g3], g4, g5⟩
         split at g2
         ·rename_i e; subst e; omega
         ·exact g2
       ·rcases List.mem_append.1 hv with hv | hv
        ·rw [hlv v hv]; exact ⟨hr.2, by omega⟩
        ·obtain ⟨g1, g2⟩ := hnv v hv
         rw [hyv v g1.1] at g2
         refine ⟨g1, ?_⟩
         split at g2
         ·rename_i e; subst e; omega
         ·exact g2
      split at h
      ·rename_i hwt
       exact fin (w1 := w) (ag1 hn hLt hnt hy hw hq hwq h) ((hwq _ hr.2.1 hr.2.2).1 hwt) ⟨[], by simp, fun _ h => by cases h⟩
      ·rename_i hwt
       have hnq : l.2.1 ∉ q := fun hc => hwt ((hwq _ hr.2.1 hr.2.2).2 hc)
       refine fin (w1 := w.set l.2.1.toNat true) (ag1 hn hLt hnt hy (by simpa using hw) ?_ ?_ h) (by simp) ⟨[l.2.1], rfl, fun v hv => by simpa using hv⟩
       ·rw [List.nodup_append]
        exact ⟨hq, by simp, fun a ha b hb => by simp at hb; subst hb; exact fun e => hnq (e ▸ ha)⟩
       ·intro v h0 h1
        rw [aMe hr.2.1 h0 tw]
        by_cases hv : v = l.2.1
        ·simp [hv]
        ·simp only [hv, if_false, List.mem_append, List.mem_singleton, or_false]
         exact hwq v h0 h1
theorem aiF {n least : Int} : ∀ {L : List Lk}, (∀ l ∈ L, l.1 ≠ l.2.1) → (∀ l ∈ L, 0 ≤ l.2.1) → 0 ≤ n → ∀ {x : List Int} {w : List Bool} {q : List Int} {r}, ajX n least L x w q = (false, r) → ∃ v m, (n, v, m) ∈ L ∧ gv x n + m < least
 | [], _, _, _, x, w, q, r, h => by cases h
 | l :: t, hnl, h0, hn, x, w, q, r, h => by
   have hnt : ∀ l ∈ t, l.1 ≠ l.2.1 := fun l hl => hnl l (by simp [hl])
   have h0t : ∀ l ∈ t, 0 ≤ l.2.1 := fun l hl => h0 l (by simp [hl])
   have up : (∃ v m, (n, v, m) ∈ t ∧ gv x n + m < least) → ∃ v m, (n, v, m) ∈ l :: t ∧ gv x n + m < least := fun ⟨v, m, g1, g2⟩ => ⟨v, m, by simp [g1], g2⟩
   unfold ajX at h
   split at h
   ·exact up (aiF hnt h0t hn h)
   ·rename_i hne
    have hln : l.1 = n := by simpa using hne
    split at h
    ·exact up (aiF hnt h0t hn h)
    ·split at h
     ·rename_i hlt
      exact ⟨l.2.1, l.2.2, by rw [← hln]; simp, hlt⟩
     ·have hyn : gv (x.set l.2.1.toNat (gv x n + l.2.2)) n = gv x n := by
       unfold gv
       rw [List.getElem?_set]
       have h1 := hnl l (by simp)
       have h2 := h0 l (by simp)
       have : ¬ l.2.1.toNat = n.toNat := by omega
       simp [this]
      split at h
      ·have := aiF hnt h0t hn h
       rw [hyn] at this
       exact up this
      ·have := aiF hnt h0t hn h
       rw [hyn] at this
       exact up this
end Go.Proofs.ZzM
end
noncomputable section
namespace Go.Proofs.ZzM
open Go Go.Am
theorem aMN {ρ : Type} {L : List Lk} {N : Nat} {M : Int} (hL : afB L N M) {n least : Int} (hn : 0 ≤ n ∧ n < N) {x : List Int} {w : List Bool} {t rest : List Int} (hx : x.length = N) (hw : w.length = N) (ht : t.length = N) (hq : rest.length ≤ 1000000)
 (hb : -2305843009213693952 ≤ gv x n ∧ gv x n ≤ 2305843009213693952) (htn : 0 ≤ gv t n ∧ gv t n ≤ 1000000) (kn : List Int → List Bool → List Int → List Int → Option ρ) (k0 : (Val (.pair .bool (.pair (.slice tI) (.pair (.slice .bool) (.pair (.slice tI) (.slice tI)))))) → Option ρ) :
 adq [] least (N : Int) L x w t (n :: rest) kn k0 =
  if (N : Int) + 1 < gv t n + 1 then k0 (false, x, w.set n.toNat false, t.set n.toNat (gv t n + 1), rest) else
  match ajX n least L x (w.set n.toNat false) rest with
  | (true, x', w', q') => kn x' w' (t.set n.toNat (gv t n + 1)) q'
  | (false, x', w', q') => k0 (false, x', w', t.set n.toNat (gv t n + 1), q') := by
 have hN := hL.nodes
 have tn : n.toNat < x.length := by omega
 have tw : n.toNat < w.length := by omega
 have tt : n.toNat < t.length := by omega
 unfold adq
 have e0 : ieq (aco (n :: rest)) 0 = false := by
  rw [acB]
  simp only [ieq, List.length_cons, beq_eq_false_iff_ne, ne_eq]
  omega
 have e1 : ilt (0 : Int) (adE (n :: rest)) = true := by simp [ilt, adE]
 have e2 : ile (1 : Int) (adE (n :: rest)) = true := by simp [ile, adE]; omega
 have e3 : decide (1 + (List.length (n :: rest) - 1) = List.length (n :: rest)) = true := by simp; omega
 rw [aci e0, adG e1]
 rw [show afn (n :: rest) 0 = fun (f : Int → Option ρ) => f n from rfl]
 try dsimp only
 rw [adG e2, adG e3, af0 hn.1 (by omega), aFi tw, af0 hn.1 (by omega), agM tt, acm (by omega) (by omega), af0 hn.1 (by omega), agM tt]
 rw [show (adE (List.set t n.toNat (gv t n + 1))) = ((t.length : Nat) : Int) by simp [adE]]
 rw [af0 hn.1 (by omega), agM (by simpa using tt), aph hn.1 hn.1 tt, if_pos rfl, acm (by omega) (by omega), adA]
 rw [show List.drop 1 (n :: rest) = rest from rfl]
 by_cases hlt : (N : Int) + 1 < gv t n + 1
 ·rw [if_pos (by simpa [igt] using hlt), if_pos hlt]
 ·rw [if_neg (by simpa [igt] using hlt), if_neg hlt]
  rw [aR5 hL hn hx (w := w.set n.toNat false) (by simpa using hw) hq hb]
  generalize ajX n least L x (w.set n.toNat false) rest = r
  obtain ⟨b, x', w', q'⟩ := r
  cases b <;> rfl
theorem aPn {ρ : Type} {L : List Lk} {N : Int} {least : Int} {x : List Int} {w : List Bool} {t : List Int} (kn : List Int → List Bool → List Int → List Int → Option ρ) (k0 : (Val (.pair .bool (.pair (.slice tI) (.pair (.slice .bool) (.pair (.slice tI) (.slice tI)))))) → Option ρ) :
 adq [] least N L x w t [] kn k0 = k0 (true, x, w, t, []) := by
 unfold adq
 have e0 : ieq (aco ([] : List Int)) 0 = true := by rw [acB]; rfl
 rw [acp e0]
def aGU (N : Nat) (t : List Int) : Nat := (t.map fun a => ((N : Int) + 2 - a).toNat).sum
theorem aMV (N : Nat) : ∀ (t : List Int) (i : Nat) (a b : Int), t[i]? = some a → a < b → a < (N : Int) + 2 → aGU N (t.set i b) < aGU N t
 | a0 :: t, 0, a, b, h, h1, h2 => by
   simp at h; subst h
   simp only [aGU, List.set_cons_zero, List.map_cons, List.sum_cons]
   omega
 | a0 :: t, i + 1, a, b, h, h1, h2 => by
   have := aMV N t i a b (by simpa using h) h1 h2
   simp only [aGU] at this
   simp only [aGU, List.set_cons_succ, List.map_cons, List.sum_cons]
   omega
theorem aJB {N : Nat} {t : List Int} {n : Int} (hn : n.toNat < t.length) (h : gv t n ≤ (N : Int) + 1) : aGU N (t.set n.toNat (gv t n + 1)) < aGU N t :=
 aMV N t n.toNat (gv t n) _ (aJM hn) (by omega) (by omega)
structure aOL (L : List Lk) (S : Int → Prop) (N : Nat) (M : Int) (k : Nat) (A B : List Int) (x : List Int) (w : List Bool) (t q : List Int) : Prop where
 q_eq : q = A ++ B
 lx : x.length = N
 lw : w.length = N
 lt : t.length = N
 nodup : q.Nodup
 rng : ∀ v ∈ q, 0 ≤ v ∧ v < N
 waits : ∀ v : Int, 0 ≤ v → v < N → (wv w v = true ↔ v ∈ q)
 t0 : ∀ v : Int, 0 ≤ v → v < N → 0 ≤ gv t v ∧ gv t v ≤ (k : Int) + 1
 tA : ∀ v ∈ A, gv t v ≤ k
 low : ∀ vs v d, Wl L S vs v d → vs.length ≤ k → gv x v ≤ d
 nxt : ∀ vs u d, Wl L S vs u d → vs.length ≤ k → u ∉ A → ∀ v m, (u, v, m) ∈ L → gv x v ≤ d + m
 rel : ∀ u : Int, 0 ≤ u → u < N → u ∉ q → gv x u ≠ ae7 → ∀ v m, (u, v, m) ∈ L → gv x v ≤ gv x u + m
 att : ∀ v : Int, 0 ≤ v → v < N → gv x v ≠ ae7 → ∃ vs, Wl L S vs v (gv x v)
 bd : ∀ v : Int, 0 ≤ v → v < N → gv x v = ae7 ∨ gv x v ≤ ((k : Int) + 1) * M
 bA : ∀ v ∈ A, gv x v ≤ (k : Int) * M
 fin : ∀ v ∈ q, gv x v < ae7
 kN : k + 1 ≤ N
 last : k + 1 = N → B = []
section
variable {L : List Lk} {S : Int → Prop} {N : Nat} {M : Int} {p : Int → Int} {k : Nat} {A B x : List Int} {w : List Bool} {t q : List Int}
theorem ayJ {a b : Nat} {M : Int} (h : a ≤ b) (hM : 0 ≤ M) : (a : Int) * M ≤ (b : Int) * M := Int.mul_le_mul_of_nonneg_right (by omega) hM
theorem Wl.lt_free (hL : afB L N M) (hNM : N * M < ae7) {vs : List Int} {v d : Int} (hw : Wl L S vs v d) (h : vs.length ≤ N) : d < ae7 := by
 have h1 := hw.high fun l hl => (hL.most l hl).2
 have h2 := ayJ h hL.m0
 omega
theorem aOL.next (hL : afB L N M) (hNM : N * M < ae7) (hS : ∀ v, S v → 0 ≤ v ∧ v < N) (h : aOL L S N M k [] B x w t q) (hB : B ≠ []) : aOL L S N M (k + 1) B [] x w t q := by
 have hM := hL.m0
 have hq : q = B := by simpa using h.q_eq
 have hk : k + 1 ≠ N := fun e => hB (h.last e)
 have hkN := h.kN
 have low' : ∀ vs v d, Wl L S vs v d → vs.length ≤ k + 1 → gv x v ≤ d := by
  intro vs v d hw hl
  cases hw with
  | nil hs => exact h.low [] v 0 (.nil hs) (by simp)
  | @step vs u _ m d hw hlk => exact h.nxt vs u d hw (by simpa using hl) (by simp) v m hlk
 refine ⟨by simp [hq], h.lx, h.lw, h.lt, h.nodup, h.rng, h.waits, fun v h0 h1 => ⟨(h.t0 v h0 h1).1, by have := (h.t0 v h0 h1).2; push_cast; omega⟩, fun v hv => ?_, low', fun vs u d hw hl hu v m hlk => ?_, h.rel, h.att, fun v h0 h1 => ?_, fun v hv => ?_, h.fin, by omega, fun _ => rfl⟩
 ·have := h.rng v (by rw [hq]; exact hv)
  have := (h.t0 v this.1 this.2).2
  push_cast; omega
 ·have h1 := low' vs u d hw hl
  have h2 := hw.lt_free hL hNM (by omega)
  have h3 := (hw.range hL.inr hS).1
  have := h.rel u h3.1 h3.2 (by rw [hq]; exact hu) (by omega) v m hlk
  omega
 ·rcases h.bd v h0 h1 with h2 | h2
  ·exact .inl h2
  ·refine .inr ?_
   have := ayJ (show k + 1 ≤ k + 1 + 1 by omega) hM
   push_cast at this ⊢
   omega
 ·have h1 := h.rng v (by rw [hq]; exact hv)
  have h2 := h.fin v (by rw [hq]; exact hv)
  rcases h.bd v h1.1 h1.2 with h3 | h3
  ·omega
  ·push_cast; exact h3
theorem aOL.step {n : Int} {A' : List Int} {least : Int} {x' : List Int} {w' : List Bool} {q' : List Int} (hL : afB L N M) (hNM : N * M < ae7) (hp : Pot L p) (hS : ∀ v, S v → 0 ≤ v ∧ v < N) (h : aOL L S N M k (n :: A') B x w t q)
 (ha : aST N n least L x (A' ++ B) x' w' q') : ∃ B', aOL L S N M k A' B' x' w' (t.set n.toNat (gv t n + 1)) q' := by
 have hM := hL.m0
 have hq : q = n :: (A' ++ B) := by simpa using h.q_eq
 have hkN := h.kN
 have hnr := h.rng n (by rw [hq]; simp)
 have hnf := h.fin n (by rw [hq]; simp)
 have hnd : n ∉ A' ++ B := by have := h.nodup; rw [hq, List.nodup_cons] at this; exact this.1
 have htn : n.toNat < t.length := by have := h.lt; omega
 have tset : ∀ v, 0 ≤ v → gv (t.set n.toNat (gv t n + 1)) v = if v = n then gv t n + 1 else gv t v := fun v h0 => aph hnr.1 h0 htn _
 have hkM : ((k : Int) + 1) * M < ae7 := by
  have := ayJ hkN hM
  push_cast at this
  omega
 have xle : ∀ v : Int, 0 ≤ v → v < N → gv x v ≤ ae7 := fun v h0 h1 => by rcases h.bd v h0 h1 with h2 | h2 <;> omega
 obtain ⟨l, hl, hlv⟩ := ha.new
 have att' : ∀ v : Int, 0 ≤ v → v < N → gv x' v ≠ ae7 → ∃ vs, Wl L S vs v (gv x' v) := by
  intro v h0 h1 hne
  rcases ha.chg v h0 h1 with g | ⟨_, _, m, g3, g4, _⟩
  ·rw [g] at hne ⊢; exact h.att v h0 h1 hne
  ·obtain ⟨vs, hw⟩ := h.att n hnr.1 hnr.2 (by omega)
   rw [g4]; exact ⟨_, hw.step g3⟩
 refine ⟨B ++ l, by rw [hl, List.append_assoc], ha.lx, ha.lw, by rw [List.length_set]; exact h.lt, ha.nodup, fun v hv => ?_, ha.waits, fun v h0 h1 => ?_, fun v hv => ?_, fun vs v d hw hlen => ?_, fun vs u d hw hlen hu v m hlk => ?_,
  fun u h0 h1 hu hf v m hlk => ?_, att', fun v h0 h1 => ?_, fun v hv => ?_, fun v hv => ?_, hkN, fun hk => ?_⟩
 ·rw [hl] at hv
  rcases List.mem_append.1 hv with hv | hv
  ·exact h.rng v (by rw [hq]; simp only [List.mem_cons]; exact .inr hv)
  ·exact (hlv v hv).1
 ·rw [tset v h0]
  have h2 := h.t0 v h0 h1
  split
  ·have h3 := h.tA n (by simp)
   have h4 := h.t0 n hnr.1 hnr.2
   omega
  ·exact h2
 ·have h1 := h.rng v (by rw [hq]; simp [hv])
  rw [tset v h1.1, if_neg (fun e => hnd (by rw [← e]; simp [hv]))]
  exact h.tA v (by simp [hv])
 ·have h1 := h.low vs v d hw hlen
  have h2 := (hw.range hL.inr hS).1
  have := ha.le v h2.1 h2.2
  omega
 ·have hvr := (hL.inr _ hlk).2
  by_cases hun : u = n
  ·subst hun
   have h1 := ha.link v m hlk
   have h2 := h.low vs u d hw hlen
   omega
  ·have h1 := h.nxt vs u d hw hlen (by simp [hun, hu]) v m hlk
   have := ha.le v hvr.1 hvr.2
   omega
 ·have hvr := (hL.inr _ hlk).2
  have heq : gv x' u = gv x u := by
   rcases ha.chg u h0 h1 with g | ⟨g, _⟩
   ·exact g
   ·exact (hu g).elim
  by_cases hun : u = n
  ·subst hun
   have h1 := ha.link v m hlk
   omega
  ·have hur : u ∉ q := by
    rw [hq]
    intro hc
    rcases List.mem_cons.1 hc with e | hc
    ·exact hun e
    ·exact hu (by rw [hl]; exact List.mem_append_left _ hc)
   have h2 := h.rel u h0 h1 hur (by rw [← heq]; exact hf) v m hlk
   have := ha.le v hvr.1 hvr.2
   omega
 ·rcases ha.chg v h0 h1 with g | ⟨_, _, m, g3, g4, _⟩
  ·rw [g]; exact h.bd v h0 h1
  ·have h2 := h.bA n (by simp)
   have h3 := (hL.most _ g3).2
   simp only at h3
   refine .inr ?_
   rw [g4, Int.add_mul, Int.one_mul]
   omega
 ·have h1 := h.rng v (by rw [hq]; simp [hv])
  have h2 := h.bA v (by simp [hv])
  have := ha.le v h1.1 h1.2
  omega
 ·rw [hl] at hv
  rcases List.mem_append.1 hv with hv | hv
  ·have h1 := h.rng v (by rw [hq]; simp only [List.mem_cons]; exact .inr hv)
   have h2 := h.fin v (by rw [hq]; simp only [List.mem_cons]; exact .inr hv)
   have := ha.le v h1.1 h1.2
   omega
  ·obtain ⟨g1, g2⟩ := hlv v hv
   have := xle v g1.1 g1.2
   omega
 ·rw [h.last hk]
  cases l with
  | nil => rfl
  | cons v l =>
    exfalso
    obtain ⟨g1, g2⟩ := hlv v (by simp)
    have := xle v g1.1 g1.2
    obtain ⟨vs, hw⟩ := att' v g1.1 g1.2 (by omega)
    obtain ⟨vs', d', k1, k2, k3⟩ := hw.simple hp
    have k4 := k1.short hL.inr hS k3
    have := h.low vs' v d' k1 (by omega)
    omega
theorem aOL.done (hL : afB L N M) (hNM : N * M < ae7) (hp : Pot L p) (hS : ∀ v, S v → 0 ≤ v ∧ v < N) (h : aOL L S N M k A B x w t []) : aOM L S N (gv x) := by
 have hkN := h.kN
 have hM := hL.m0
 have hkM : ((k : Int) + 1) * M < ae7 := by
  have := ayJ hkN hM
  push_cast at this
  omega
 have key : ∀ vs v d, Wl L S vs v d → vs.length + 1 ≤ N → gv x v ≤ d := by
  intro vs v d hw
  induction hw with
  | nil hs => intro _; exact h.low [] _ 0 (.nil hs) (by simp)
  | @step vs u v m d hw hlk ih =>
    intro hlen
    simp only [List.length_cons] at hlen
    have h1 := ih (by omega)
    have h2 := hw.lt_free hL hNM (by omega)
    have h3 := (hw.range hL.inr hS).1
    have := h.rel u h3.1 h3.2 (by simp) (by omega) v m hlk
    omega
 refine ⟨h.att, fun v vs d hw => ?_, fun v h0 h1 => ?_⟩
 ·obtain ⟨vs', d', k1, k2, k3⟩ := hw.simple hp
  have := key vs' v d' k1 (k1.short hL.inr hS k3)
  omega
 ·rcases h.bd v h0 h1 with h2 | h2 <;> omega
theorem aHO {ρ : Type} {r : Option ρ} (hL : afB L N M) (hNM : N * M < ae7) (hp : Pot L p) (hS : ∀ v, S v → 0 ≤ v ∧ v < N) (k0 : (Val (.pair .bool (.pair (.slice tI) (.pair (.slice .bool) (.pair (.slice tI) (.slice tI)))))) → Option ρ)
 (hK : ∀ x w t q, x.length = N → aOM L S N (gv x) → k0 (true, x, w, t, q) = r) (h : aOL L S N M k A B x w t q) :
 ach (fun (v64 : (Val (.pair (.slice tI) (.pair (.slice .bool) (.pair (.slice tI) (.slice tI)))))) kk69 => adq [] (ayI L) (N : Int) L v64.1 v64.2.1 v64.2.2.1 v64.2.2.2 (fun u65 u66 u67 u68 => kk69 (u65, u66, u67, u68)) k0) (x, w, t, q) = r := by
 refine afS (fun s : List Int × List Bool × List Int × List Int => ∃ k A B, aOL L S N M k A B s.1 s.2.1 s.2.2.1 s.2.2.2) (fun s => aGU N s.2.2.1) ?_ ⟨k, A, B, h⟩
 rintro ⟨x, w, t, q⟩ ⟨k, A, B, h⟩
 dsimp only at h ⊢
 have hN := hL.nodes
 cases q with
 | nil => exact .inl fun kn => by rw [aPn]; exact hK x w t [] h.lx (h.done hL hNM hp hS)
 | cons n rest =>
   -- the phase in which the first one is
   have hph : ∃ k A' B, aOL L S N M k (n :: A') B x w t (n :: rest) := by
    cases A with
    | nil =>
      have hB : B = n :: rest := by simpa using h.q_eq.symm
      subst hB
      exact ⟨k + 1, rest, [], h.next hL hNM hS (by simp)⟩
    | cons a A' =>
      have := h.q_eq
      simp only [List.cons_append, List.cons.injEq] at this
      obtain ⟨rfl, _⟩ := this
      exact ⟨k, A', B, h⟩
   clear h k A B
   obtain ⟨k, A', B, h⟩ := hph
   have hrest : rest = A' ++ B := by have := h.q_eq; simpa using this
   have hnr := h.rng n (by simp)
   have hnf := h.fin n (by simp)
   have hkN := h.kN
   have h1 := h.tA n (by simp)
   have h2 := h.t0 n hnr.1 hnr.2
   obtain ⟨vs, hw⟩ := h.att n hnr.1 hnr.2 (by omega)
   have hlow := hw.low' hp
   have hneg : -(400 * 4503599627370496) ≤ ayI L := by
    have : ∀ L' : List Lk, (∀ l ∈ L', -M ≤ l.2.2) → -((L'.length : Int) * M) ≤ ayI L' := by
     intro L'
     induction L' with
     | nil => intro _; simp [ayI, axY]
     | cons l t ih =>
       intro hh
       have i1 := ih fun l hl => hh l (by simp [hl])
       have i2 := hh l (by simp)
       have i3 := hL.m0
       unfold ayI at i1 ⊢
       simp only [axY, if_true, List.length_cons, Int.natCast_succ, Int.add_mul, Int.one_mul]
       omega
    have h3 := this L fun l hl => (hL.most l hl).1
    have h4 : (L.length : Int) * M ≤ 400 * 4503599627370496 := Int.mul_le_mul (by have := hL.len; omega) hL.m1 hL.m0 (by omega)
    omega
   have hrl : rest.length ≤ 1000000 := by
    have := aMC N (n :: rest) h.nodup h.rng
    simp only [List.length_cons] at this
    omega
   refine .inr ?_
   have hw' : (w.set n.toNat false).length = N := by rw [List.length_set]; exact h.lw
   cases hr : ajX n (ayI L) L x (w.set n.toNat false) rest with
   | mk b r' =>
   obtain ⟨x', w', q'⟩ := r'
   cases b with
   | false =>
     exfalso
     obtain ⟨v, m, g1, g2⟩ := aiF hL.noloop (fun l hl => (hL.inr l hl).2.1) hnr.1 hr
     have := (hw.step g1).low' hp
     omega
   | true =>
     have hnd := h.nodup
     rw [List.nodup_cons] at hnd
     have ha := ag1 hnr hL.inr hL.noloop h.lx hw' hnd.2 (fun v h0 h1 => by
      rw [aMe hnr.1 h0 (by have := h.lw; omega)]
      by_cases hv : v = n
      ·subst hv; simp [hnd.1]
      ·rw [if_neg hv, h.waits v h0 h1]
       simp [hv]) hr
     rw [hrest] at ha
     obtain ⟨B', hB'⟩ := h.step hL hNM hp hS ha
     refine ⟨(x', w', t.set n.toNat (gv t n + 1), q'), ⟨k, A', B', hB'⟩, aJB (by have := h.lt; omega) (by omega), fun kn => ?_⟩
     have hF : ae7 = 1152921504606846976 := rfl
     rw [aMN hL hnr h.lx h.lw h.lt hrl (by constructor <;> omega) (by constructor <;> omega), if_neg (by omega), hr]
end
end Go.Proofs.ZzM
end
noncomputable section
namespace Go.Proofs.ZzM
open Go Go.Am
theorem azC (f : Lk → Bool) : ∀ (L L' : List Lk), axY f (L ++ L') = axY f L + axY f L'
 | [], L' => by simp [axY]
 | l :: t, L' => by
   simp only [List.cons_append, axY, azC f t L']
   omega
theorem aIq {L : List Lk} {i : Nat} {l : Lk} (h : L[i]? = some l) : ayI (L.take (i + 1)) = ayI (L.take i) + min l.2.2 0 := by
 rw [take_succ h, ayI, ayI, azC]
 simp [axY]
theorem imin0 (e : Int) : aKw e 0 = min e 0 := by
 unfold aKw
 split <;> omega
theorem aFj {L : List Lk} {M : Int} (h : ∀ l ∈ L, -M ≤ l.2.2) (hM : 0 ≤ M) : -((L.length : Int) * M) ≤ ayI L := by
 induction L with
 | nil => simp [ayI, axY]
 | cons l t ih =>
   have i1 := ih fun l hl => h l (by simp [hl])
   have i2 := h l (by simp)
   unfold ayI at i1 ⊢
   simp only [axY, if_true, List.length_cons, Int.natCast_succ, Int.add_mul, Int.one_mul]
   omega
theorem aTG (L : List Lk) : ayI L ≤ 0 := amv _ L
section
variable {ρ : Type} {L : List Lk} {N : Nat} {M : Int}
theorem aMW (hL : afB L N M) (k0 : Int → Option ρ) : ach (fun (v75 : Val ab1) kk78 => afh L (aco L) v75.1 v75.2 (fun u76 u77 => kk78 (u76, u77)) k0) ((0 : Int), (0 : Int)) = k0 (ayI L) := by
 refine afS (fun x : Int × Int => ∃ i : Nat, i ≤ L.length ∧ x = (ayI (L.take i), (i : Int))) (fun x => L.length - x.2.toNat) ?_ ⟨0, by omega, rfl⟩
 rintro x ⟨i, hi, rfl⟩
 have hlen := hL.len
 rcases Nat.lt_or_ge i L.length with h | h
 ·have hl : L[i]? = some L[i] := List.getElem?_eq_getElem h
  refine .inr ⟨(ayI (L.take (i + 1)), (i : Int) + 1), ⟨i + 1, h, by simp⟩, by simp; omega, fun kn => ?_⟩
  try dsimp only
  unfold afh
  have hb : ∀ j, j ≤ L.length → -(400 * 4503599627370496) ≤ ayI (L.take j) := by
   intro j hj
   have h1 := aFj (L := L.take j) (fun l hl => (hL.most l (List.mem_of_mem_take hl)).1) hL.m0
   have h2 : ((L.take j).length : Int) * M ≤ 400 * 4503599627370496 := Int.mul_le_mul (by rw [List.length_take]; omega) hL.m1 hL.m0 (by omega)
   omega
  have h1 := hb i hi
  have h2 := hb (i + 1) h
  have h3 := aTG (L.take i)
  rw [aIq hl] at h2
  rw [acj h, ace hl, imin0, acm (by omega) (by omega), acg h (by omega), aIq hl]
 ·refine .inl fun kn => ?_
  have : i = L.length := by omega
  subst this
  try dsimp only
  unfold afh
  rw [acH, List.take_length]
theorem aO4 {x : List Int} (hx : x.length = N) (hN : N ≤ 1000) {r : Option ρ} (k0 : (Val (.pair (.slice .bool) (.slice tI))) → Option ρ)
 (hK : ∀ (w : List Bool) (q : List Int), w.length = N → q.Nodup → (∀ v ∈ q, 0 ≤ v ∧ v < N) → (∀ v : Int, 0 ≤ v → v < N → (wv w v = true ↔ v ∈ q)) → (∀ v : Int, 0 ≤ v → v < N → (v ∈ q ↔ gv x v ≠ ae7)) → k0 (w, q) = r) :
 ach (fun (v70 : (Val (.pair tI (.pair (.slice .bool) (.slice tI))))) kk74 => ad0 (N : Int) x v70.1 v70.2.1 v70.2.2 (fun u71 u72 u73 => kk74 (u71, u72, u73)) k0) ((0 : Int), (List.replicate N false), ([] : List Int)) = r := by
 refine afS (fun s : Int × List Bool × List Int => ∃ i : Nat, i ≤ N ∧ s.1 = i ∧ s.2.1.length = N ∧ s.2.2.Nodup ∧ s.2.2.length ≤ i ∧ (∀ v ∈ s.2.2, 0 ≤ v ∧ v < i) ∧ (∀ v : Int, 0 ≤ v → v < N → (wv s.2.1 v = true ↔ v ∈ s.2.2)) ∧ (∀ v : Int, 0 ≤ v → v < i → (v ∈ s.2.2 ↔ gv x v ≠ ae7))) (fun s => N - s.1.toNat) ?_
  ⟨0, by omega, rfl, by simp, by simp, by simp, by simp, fun v h0 h1 => ?_, fun v h0 h1 => by omega⟩
 ·rintro ⟨s, w, q⟩ ⟨i, hi, h1, h2, h3, h4, h5, h6, h7⟩
  simp only at h1 h2 h3 h4 h5 h6 h7
  subst h1
  rcases Nat.lt_or_ge i N with h | h
  ·refine .inr ?_
   have hix : i < x.length := by omega
   have hiw : i < w.length := by omega
   have hnq : ((i : Int)) ∉ q := fun hc => by have := (h5 _ hc).2; omega
   by_cases hf : gv x i = ae7
   ·refine ⟨((i : Int) + 1, w, q), ⟨i + 1, h, by simp, h2, h3, by simp only; omega, fun v hv => ⟨(h5 v hv).1, by have := (h5 v hv).2; push_cast; omega⟩, h6, fun v h0 h1 => ?_⟩, by simp; omega, fun kn => ?_⟩
    ·by_cases hv : v = i
     ·subst hv; simp [hf, hnq]
     ·exact h7 v h0 (by push_cast at h1; omega)
    ·try dsimp only
     unfold ad0
     have e : ilt (i : Int) (N : Int) = true := by simp [ilt, h]
     rw [acp e, afK hix, agM (by simpa using hix)]
     have e2 : ine (gv x i) 1152921504606846976 = false := by simp [ine, hf]
     rw [aci e2, acg h (by omega)]
   ·refine ⟨((i : Int) + 1, w.set i true, q ++ [(i : Int)]), ⟨i + 1, h, by simp, by simpa using h2, ?_, by simp; omega, fun v hv => ?_, fun v h0 h1 => ?_, fun v h0 h1 => ?_⟩, by simp; omega, fun kn => ?_⟩
    ·rw [List.nodup_append]
     exact ⟨h3, by simp, fun a ha b hb => by simp at hb; subst hb; exact fun e => hnq (e ▸ ha)⟩
    ·rcases List.mem_append.1 hv with hv | hv
     ·exact ⟨(h5 v hv).1, by have := (h5 v hv).2; push_cast; omega⟩
     ·simp at hv; subst hv; push_cast; omega
    ·have := aMe (w := w) (u := (i : Int)) (by omega) h0 (by simpa using hiw) true
     rw [Int.toNat_natCast] at this
     show wv (w.set i true) v = true ↔ v ∈ q ++ [(i : Int)]
     rw [this]
     by_cases hv : v = i
     ·simp [hv]
     ·simp only [hv, if_false, List.mem_append, List.mem_singleton, or_false]
      exact h6 v h0 h1
    ·show v ∈ q ++ [(i : Int)] ↔ _
     by_cases hv : v = i
     ·subst hv; simp [hf]
     ·simp only [List.mem_append, List.mem_singleton, hv, or_false]
      exact h7 v h0 (by push_cast at h1; omega)
    ·try dsimp only
     unfold ad0
     have e : ilt (i : Int) (N : Int) = true := by simp [ilt, h]
     rw [acp e, afK hix, agM (by simpa using hix)]
     have e2 : ine (gv x i) 1152921504606846976 = true := by simp [ine, hf]
     rw [acp e2, acl (by simp only [List.length_singleton]; omega), Am.iff_true, afK hiw, aFi (by simpa using hiw), acg h (by omega), Int.toNat_natCast]
  ·refine .inl fun kn => ?_
   have : i = N := by omega
   subst this
   try dsimp only
   unfold ad0
   have e : ilt (i : Int) (i : Int) = false := by simp [ilt]
   rw [aci e]
   exact hK w q h2 h3 h5 h6 h7
 ·have : wv (List.replicate N false) v = false := by
   unfold wv
   rw [List.getElem?_replicate]
   split <;> rfl
  simp [this]
theorem aDE (hL : afB L N M) (hN : 1 ≤ N) {S : Int → Bool} (hS : ∀ v, S v = true → 0 ≤ v ∧ v < N) {w : List Bool} {q : List Int} (hw : w.length = N) (hq : q.Nodup) (hr : ∀ v ∈ q, 0 ≤ v ∧ v < N) (hwq : ∀ v : Int, 0 ≤ v → v < N → (wv w v = true ↔ v ∈ q)) (hqs : ∀ v : Int, 0 ≤ v → v < N → (v ∈ q ↔ gv (amr S N) v ≠ ae7)) :
 aOL L (fun v => S v = true) N M 0 q [] (amr S N) w (List.replicate N 0) q := by
 have ht : ∀ v : Int, 0 ≤ v → v < N → gv (List.replicate N (0 : Int)) v = 0 := by
  intro v h0 h1
  unfold gv
  rw [List.getElem?_replicate]
  split <;> rfl
 have hg : ∀ v : Int, 0 ≤ v → v < N → (v ∈ q ↔ S v = true) := by
  intro v h0 h1
  rw [hqs v h0 h1, afL S h0 h1]
  cases S v <;> simp [ae7]
 have hM := hL.m0
 refine ⟨by simp, acW S N, hw, by simp, hq, hr, hwq, fun v h0 h1 => ?_, fun v hv => ?_, fun vs v d hw hl => ?_, fun vs u d hw hl hu v m hlk => ?_, fun u h0 h1 hu hf v m hlk => ?_, fun v h0 h1 hf => ?_, fun v h0 h1 => ?_, fun v hv => ?_, fun v hv => ?_, by omega, fun _ => rfl⟩
 ·rw [ht v h0 h1]; omega
 ·have := hr v hv
  rw [ht v this.1 this.2]; omega
 ·cases hw with
  | nil hs =>
    have := hS v hs
    rw [afL S this.1 this.2, if_pos hs]; omega
  | step => simp at hl
 ·cases hw with
  | nil hs =>
    have := hS u hs
    exact (hu ((hg u this.1 this.2).2 hs)).elim
  | step => simp at hl
 ·rw [afL S h0 h1] at hf
  have := mt (hg u h0 h1).2 hu
  rw [if_neg this] at hf
  exact (hf rfl).elim
 ·rw [afL S h0 h1] at hf ⊢
  split at hf
  ·rename_i hs
   rw [if_pos hs]; exact ⟨[], .nil hs⟩
  ·exact (hf rfl).elim
 ·rw [afL S h0 h1]
  split
  ·exact .inr (by simp [hM])
  ·exact .inl rfl
 ·have h1 := hr v hv
  rw [afL S h1.1 h1.2, if_pos ((hg v h1.1 h1.2).1 hv)]; simp
 ·have h1 := hr v hv
  rw [afL S h1.1 h1.2, if_pos ((hg v h1.1 h1.2).1 hv)]; simp [ae7]
structure Bad (L : List Lk) (N : Nat) (x : List Int) (w : List Bool) (t q : List Int) : Prop where
 lx : x.length = N
 lw : w.length = N
 lt : t.length = N
 nodup : q.Nodup
 rng : ∀ v ∈ q, 0 ≤ v ∧ v < N
 waits : ∀ v : Int, 0 ≤ v → v < N → (wv w v = true ↔ v ∈ q)
 t0 : ∀ v : Int, 0 ≤ v → v < N → 0 ≤ gv t v ∧ gv t v ≤ (N : Int) + 1
 bd : ∀ v : Int, 0 ≤ v → v < N → -2305843009213693952 ≤ gv x v ∧ gv x v ≤ 0
 rel : ∀ u : Int, 0 ≤ u → u < N → u ∉ q → ∀ v m, (u, v, m) ∈ L → gv x v ≤ gv x u + m
theorem aRA {r : Option ρ} {x : List Int} {w : List Bool} {t q : List Int} (hL : afB L N M) (hp : ¬ ∃ p, Pot L p) (k0 : (Val (.pair .bool (.pair (.slice tI) (.pair (.slice .bool) (.pair (.slice tI) (.slice tI)))))) → Option ρ)
 (hK : ∀ x w t q, k0 (false, x, w, t, q) = r) (h : Bad L N x w t q) :
 ach (fun (v64 : (Val (.pair (.slice tI) (.pair (.slice .bool) (.pair (.slice tI) (.slice tI)))))) kk69 => adq [] (ayI L) (N : Int) L v64.1 v64.2.1 v64.2.2.1 v64.2.2.2 (fun u65 u66 u67 u68 => kk69 (u65, u66, u67, u68)) k0) (x, w, t, q) = r := by
 refine afS (fun s : List Int × List Bool × List Int × List Int => Bad L N s.1 s.2.1 s.2.2.1 s.2.2.2) (fun s => aGU N s.2.2.1) ?_ h
 rintro ⟨x, w, t, q⟩ h
 dsimp only at h ⊢
 have hN := hL.nodes
 cases q with
 | nil =>
   exfalso
   exact hp ⟨gv x, fun u v m hl => h.rel u (hL.inr _ hl).1.1 (hL.inr _ hl).1.2 (by simp) v m hl⟩
 | cons n rest =>
   have hnr := h.rng n (by simp)
   have hb := h.bd n hnr.1 hnr.2
   have ht := h.t0 n hnr.1 hnr.2
   have hrl : rest.length ≤ 1000000 := by
    have := aMC N (n :: rest) h.nodup h.rng
    simp only [List.length_cons] at this
    omega
   have hout := fun (kn : List Int → List Bool → List Int → List Int → Option ρ) => aMN (ρ := ρ) hL (least := ayI L) hnr h.lx h.lw h.lt hrl ⟨hb.1, by omega⟩ ⟨ht.1, by omega⟩ kn k0
   by_cases hlt : (N : Int) + 1 < gv t n + 1
   ·exact .inl fun kn => by rw [hout, if_pos hlt]; exact hK _ _ _ _
   ·have hw' : (w.set n.toNat false).length = N := by rw [List.length_set]; exact h.lw
    cases hr : ajX n (ayI L) L x (w.set n.toNat false) rest with
    | mk b r' =>
    obtain ⟨x', w', q'⟩ := r'
    cases b with
    | false => exact .inl fun kn => by rw [hout, if_neg hlt, hr]; exact hK _ _ _ _
    | true =>
      have hnd := h.nodup
      rw [List.nodup_cons] at hnd
      have htl : n.toNat < t.length := by have := h.lt; omega
      have ha := ag1 hnr hL.inr hL.noloop h.lx hw' hnd.2 (fun v h0 h1 => by
       rw [aMe hnr.1 h0 (by have := h.lw; omega)]
       by_cases hv : v = n
       ·subst hv; simp [hnd.1]
       ·rw [if_neg hv, h.waits v h0 h1]
        simp [hv]) hr
      obtain ⟨l, hl, hlv⟩ := ha.new
      refine .inr ⟨(x', w', t.set n.toNat (gv t n + 1), q'), ⟨ha.lx, ha.lw, by rw [List.length_set]; exact h.lt, ha.nodup, fun v hv => ?_, ha.waits, fun v h0 h1 => ?_, fun v h0 h1 => ?_, fun u h0 h1 hu v m hlk => ?_⟩, aJB htl (by omega), fun kn => by rw [hout, if_neg hlt, hr]⟩
      ·dsimp only at hv
       rw [hl] at hv
       rcases List.mem_append.1 hv with hv | hv
       ·exact h.rng v (by simp [hv])
       ·exact (hlv v hv).1
      ·try dsimp only
       rw [aph hnr.1 h0 htl]
       have := h.t0 v h0 h1
       split <;> omega
      ·try dsimp only
       have h2 := h.bd v h0 h1
       rcases ha.chg v h0 h1 with g | ⟨_, g2, m, g3, g4, g5⟩
       ·rw [g]; exact h2
       ·have h3 := aFj (L := L) (fun l hl => (hL.most l hl).1) hL.m0
        have h4 : (L.length : Int) * M ≤ 400 * 4503599627370496 := Int.mul_le_mul (by have := hL.len; omega) hL.m1 hL.m0 (by omega)
        omega
      ·dsimp only at hu ⊢
       have hvr := (hL.inr _ hlk).2
       have heq : gv x' u = gv x u := by
        rcases ha.chg u h0 h1 with g | ⟨g, _⟩
        ·exact g
        ·exact (hu g).elim
       by_cases hun : u = n
       ·subst hun
        have h1 := ha.link v m hlk
        omega
       ·have hur : u ∉ n :: rest := by
         intro hc
         rcases List.mem_cons.1 hc with e | hc
         ·exact hun e
         ·exact hu (by rw [hl]; exact List.mem_append_left _ hc)
        have h2 := h.rel u h0 h1 hur v m hlk
        have := ha.le v hvr.1 hvr.2
        omega
end
def aOK (N : Nat) (v : Int) : Bool := decide (0 ≤ v) && decide (v < (N : Int))
def aPw (s : Int) (v : Int) : Bool := v == s
theorem aHN (N : Nat) : amr (aOK N) N = List.replicate N 0 := by
 refine aMZ (by simp [acW]) fun v h0 h1 => ?_
 rw [acW] at h1
 rw [afL _ h0 h1]
 have : aOK N v = true := by simp [aOK, h0, h1]
 rw [if_pos this]
 unfold gv
 rw [List.getElem?_replicate]
 split <;> rfl
def afM (L : List Lk) (N : Nat) : List Int := ahe L N (amr (aOK N) N)
def adV (L : List Lk) (N : Nat) : Bool := decide (axW L (afM L N) = afM L N)
def alx (L : List Lk) (N : Nat) (s : Int) : List Int := ahe L N (amr (aPw s) N)
section
variable {L : List Lk} {N : Nat} {M : Int}
theorem aRS (hL : afB L N M) (hN : N ≤ 200) : N * M < ae7 := by
 have : (N : Int) * M ≤ 200 * 4503599627370496 := Int.mul_le_mul (by omega) hL.m1 hL.m0 (by omega)
 unfold ae7
 omega
theorem au9 {p : Int → Int} (hL : afB L N M) (hN : N ≤ 200) (hp : Pot L p) : aOM L (fun v => aOK N v = true) N (gv (afM L N)) :=
 azp hp hL.inr (fun v h => by simpa [aOK] using h) (fun l hl => (hL.most l hl).2) hL.m0 (aRS hL hN) N (by omega)
theorem aid {p : Int → Int} (hL : afB L N M) (hN : N ≤ 200) (hp : Pot L p) {s : Int} (hs : 0 ≤ s ∧ s < N) : aOM L (fun v => aPw s v = true) N (gv (alx L N s)) :=
 azp hp hL.inr (fun v h => by simp [aPw] at h; subst h; exact hs) (fun l hl => (hL.most l hl).2) hL.m0 (aRS hL hN) N (by omega)
theorem aH6 : ∀ {L : List Lk} {x : List Int}, (∀ u v m, (u, v, m) ∈ L → gv x u < ae7 → gv x v ≤ gv x u + m) → axW L x = x
 | [], x, _ => rfl
 | l :: t, x, h => by
   have h1 : ahG x l = x := by
    unfold ahG
    split
    ·rename_i hc
     have := h l.1 l.2.1 l.2.2 (by simp) hc.1
     omega
    ·rfl
   show axW t (ahG x l) = x
   rw [h1]
   exact aH6 fun u v m hm => h u v m (by simp [hm])
theorem afd (hL : afB L N M) (hN : N ≤ 200) : adV L N = true ↔ ∃ p, Pot L p := by
 unfold adV
 rw [decide_eq_true_eq]
 have hle : ∀ v : Int, 0 ≤ v → v < N → gv (afM L N) v ≤ 0 := by
  intro v h0 h1
  have := asE hL.inr N (acW (aOK N) N) v h0
  rw [afL _ h0 h1, if_pos (by simp [aOK, h0, h1])] at this
  exact this
 constructor
 ·intro h
  refine ⟨gv (afM L N), fun u v m hl => ?_⟩
  have hr := (hL.inr _ hl).1
  have := avh hL.inr (x := afM L N) (by unfold afM; rw [aee, acW]) u v m hl (by have := hle u hr.1 hr.2; unfold ae7; omega)
  rwa [h] at this
 ·rintro ⟨p, hp⟩
  have hd := au9 hL hN hp
  exact aH6 fun u v m hl hf => hd.pot hL.inr hl (by omega)
end
end Go.Proofs.ZzM
end
noncomputable section
namespace Go.Proofs.ZzM
open Go Go.Am
section
variable {ρ : Type} {L : List Lk} {N : Nat} {M : Int}
theorem auE (hN : N ≤ 1000) (x : Option ρ) : acO ((ile (0 : Int) (N : Int)) && (acK (Int.toNat (N : Int)))) x = x := by
 rw [Int.toNat_natCast, acl (by omega)]
 have : ((ile (0 : Int) (N : Int)) && true) = true := by simp [ile]
 rw [this, Am.iff_true]
theorem aKP (hL : afB L N M) (h1 : 1 ≤ N) (hN : N ≤ 200) (k0 : (Val (.pair .bool (.pair (.slice tI) (.pair (.slice .bool) (.pair (.slice tI) (.slice tI)))))) → Option ρ) {rT rF : Option ρ}
 (hT : adV L N = true → ∀ w t q, k0 (true, afM L N, w, t, q) = rT) (hF : ∀ x w t q, k0 (false, x, w, t, q) = rF) :
 (ach (fun (v70 : (Val (.pair tI (.pair (.slice .bool) (.slice tI))))) kk74 => ad0 (N : Int) (List.replicate N (0 : Int)) v70.1 v70.2.1 v70.2.2 (fun u71 u72 u73 => kk74 (u71, u72, u73)) (fun z9 => ach (fun (v64 : (Val (.pair (.slice tI) (.pair (.slice .bool) (.pair (.slice tI) (.slice tI)))))) kk69 => adq [] (ayI L) (N : Int) L v64.1 v64.2.1 v64.2.2.1 v64.2.2.2 (fun u65 u66 u67 u68 => kk69 (u65, u66, u67, u68)) k0) ((List.replicate N (0 : Int)), z9.1, (List.replicate N (0 : Int)), z9.2))) ((0 : Int), (List.replicate N false), ([] : List Int))) = if adV L N then rT else rF := by
 refine aO4 (by simp) (by omega) _ fun w q hw hq hr hwq hqs => ?_
 try dsimp only
 have hS : ∀ v, aOK N v = true → 0 ≤ v ∧ v < N := fun v h => by simpa [aOK] using h
 by_cases ho : adV L N = true
 ·rw [if_pos ho]
  obtain ⟨p, hp⟩ := (afd hL hN).1 ho
  have hs := aDE hL h1 hS hw hq hr hwq (fun v a b => by rw [aHN]; exact hqs v a b)
  rw [aHN] at hs
  refine aHO hL (aRS hL hN) hp hS k0 (fun x w t q hx hd => ?_) hs
  have : x = afM L N := by
   refine aMZ (by rw [hx]; unfold afM; rw [aee, acW]) fun v a b => ?_
   exact hd.uniq (au9 hL hN hp) a (by omega)
  rw [this]; exact hT ho w t q
 ·rw [if_neg ho]
  refine aRA hL (fun hp => ho ((afd hL hN).2 hp)) k0 hF ?_
  have hg : ∀ v, gv (List.replicate N (0 : Int)) v = 0 := by
   intro v
   unfold gv
   rw [List.getElem?_replicate]
   split <;> rfl
  refine ⟨by simp, hw, by simp, hq, hr, hwq, fun v a b => ?_, fun v a b => ?_, fun u a b hu v m hl => ?_⟩
  ·rw [hg]; omega
  ·rw [hg]; omega
  ·exact (hu ((hqs u a b).2 (by rw [hg]; unfold ae7; omega))).elim
end
theorem shift_ok {ρ : Type} {x : List Int} (f : Int) (hx : x.length ≤ 1000) (hf : -2305843009213693952 ≤ f ∧ f ≤ 2305843009213693952) (hb : ∀ a ∈ x, -2305843009213693952 ≤ a ∧ a ≤ 2305843009213693952) (k0 : List Int → Option ρ) :
 ach (fun (v60 : (Val (.pair tI (.slice tI)))) kk63 => afW f (aco x) v60.1 v60.2 (fun u61 u62 => kk63 (u61, u62)) k0) ((0 : Int), x) = k0 (x.map fun a => a - f) := by
 refine ac9 x (fun i => (x.take i).map (fun a => a - f) ++ x.drop i) _ (by simp) (fun i a hi ha kn => ?_) (fun kn => ?_)
 ·try dsimp only
  unfold afW
  have hlen : ((x.take i).map (fun a => a - f) ++ x.drop i).length = x.length := by simp; omega
  have hget : ((x.take i).map (fun a => a - f) ++ x.drop i)[i]? = some a := by
   rw [List.getElem?_append_right (by simp; omega)]
   simp only [List.length_map, List.length_take, List.getElem?_drop]
   rw [← ha]; congr 1; omega
  have hi' : i < ((x.take i).map (fun a => a - f) ++ x.drop i).length := by omega
  have ha' := hb a (List.mem_of_getElem? ha)
  rw [acj hi, afK hi', aem hget, acm (by omega) (by omega), afK hi', aem hget, acg hi (by omega), Int.toNat_natCast, take_succ ha]
  congr 2
  rw [List.drop_eq_getElem_cons hi, List.map_append, List.append_assoc, List.set_append_right _ _ (by simp; omega)]
  have : i - (List.map (fun a => a - f) (List.take i x)).length = 0 := by simp; omega
  rw [this]
  have h1 : x[i] = a := by rw [List.getElem?_eq_getElem hi] at ha; simpa using ha
  simp [h1]
 ·try dsimp only
  unfold afW
  rw [acH]
  simp
section
variable {L : List Lk} {N : Nat} {M : Int}
theorem aRC (hL : afB L N M) (hN : N ≤ 200) (ho : adV L N = true) : ∀ a ∈ afM L N, -2305843009213693952 ≤ a ∧ a ≤ 0 := by
 obtain ⟨p, hp⟩ := (afd hL hN).1 ho
 have hd := au9 hL hN hp
 intro a ha
 obtain ⟨i, hi, rfl⟩ := List.mem_iff_getElem.1 ha
 have hlen : (afM L N).length = N := by unfold afM; rw [aee, acW]
 have h0 : gv (afM L N) i = (afM L N)[i] := by unfold gv; simp [hi]
 have hle := asE hL.inr N (acW (aOK N) N) (i : Int) (by omega)
 rw [afL _ (by omega) (by omega), if_pos (by simp [aOK]; omega)] at hle
 have hle' : gv (afM L N) i ≤ 0 := hle
 obtain ⟨vs, hw⟩ := hd.att i (by omega) (by omega) (by unfold ae7; omega)
 have h1 := hw.low' hp
 have h3 := aFj (L := L) (fun l hl => (hL.most l hl).1) hL.m0
 have h4 : (L.length : Int) * M ≤ 400 * 4503599627370496 := Int.mul_le_mul (by have := hL.len; omega) hL.m1 hL.m0 (by omega)
 omega
def solP (L : List Lk) (N : Nat) : List Int := (afM L N).map fun a => a - gv (afM L N) 0
theorem ars (hL : afB L N M) (h1 : 1 ≤ N) (hN : N ≤ 200) : ag4 ((N : Int), L) [] = some (if adV L N then (solP L N, true) else ([], false)) := by
 unfold ag4 aoQ
 try dsimp only
 rw [auE (by omega), auE (by omega), auE (by omega), Int.toNat_natCast]
 refine Eq.trans (aMW hL _) ?_
 refine Eq.trans (aKP hL h1 hN _ (rT := some (solP L N, true)) (rF := some ([], false)) (fun ho w t q => ?_) (fun x w t q => ?_)) ?_
 ·try dsimp only
  have hlen : (afM L N).length = N := by unfold afM; rw [aee, acW]
  have hb := aRC hL hN ho
  have h0 : ilt (0 : Int) (adE (afM L N)) = true := decide_eq_true (show (0 : Int) < ((afM L N).length : Int) by omega)
  have hg : (afM L N)[0]? = some (gv (afM L N) 0) := aJM (v := 0) (show 0 < _ by omega)
  have hm := hb _ (List.mem_of_getElem? hg)
  rw [show (!true) = false from rfl, acF, adG h0, amu hg]
  exact shift_ok _ (by omega) ⟨hm.1, by omega⟩ (fun a ha => ⟨(hb a ha).1, by have := (hb a ha).2; omega⟩) _
 ·rfl
 ·cases adV L N <;> rfl
structure afH (L : List Lk) (N : Nat) : Prop where
 n1 : 1 ≤ N
 n60 : N ≤ 60
 len : L.length ≤ 300
 inr : InR L N
 noloop : ∀ l ∈ L, l.1 ≠ l.2.1
 most : ∀ l ∈ L, -4503599627370496 ≤ l.2.2 ∧ l.2.2 ≤ 4503599627370496
theorem afH.links (h : afH L N) : afB L N 4503599627370496 :=
 ⟨h.inr, h.noloop, h.most, by have := h.len; omega, by have := h.n60; omega, by omega, by omega⟩
theorem afH.sub {L' : List Lk} (h : afH L N) (hs : ∀ l ∈ L', l ∈ L) (hl : L'.length ≤ L.length) : afH L' N :=
 ⟨h.n1, h.n60, by have := h.len; omega, fun l hm => h.inr l (hs l hm), fun l hm => h.noloop l (hs l hm), fun l hm => h.most l (hs l hm)⟩
theorem azB (n : Int) (L : List Lk) (v : Int) : akX (n, L) v = some (decide (0 ≤ v) && decide (v < n)) := by
 unfold akX aFZ ige
 by_cases h : 0 ≤ v
 ·have : decide (v ≥ 0) = true := by simpa using h
  rw [acp this]; simp [h]
 ·have : decide (v ≥ 0) = false := by simpa using h
  rw [aci this]; simp [h]
theorem agl (h : afH L N) : ahx ((N : Int), L) = some (0, -1) := by
 have h1 := h.n1
 have h2 := h.n60
 have h3 := h.len
 unfold ahx aAn
 try dsimp only
 rw [aci (by simp [ilt]; omega), aci (by simp [igt]; omega), aci (by rw [acB]; simp [igt]; omega)]
 refine Eq.trans (afZ L (fun _ => false) (fun i => some (1, i)) (some (0, -1)) (fun i l hi hl kn => ?_) (fun kn => ?_)) ?_
 ·try dsimp only
  unfold akG
  have hm := List.mem_of_getElem? hl
  have a := h.inr l hm
  have b := h.noloop l hm
  have c := h.most l hm
  have e1 : (decide (0 ≤ l.1) && decide (l.1 < (N : Int))) = true := by simp [a.1.1, a.1.2]
  have e2 : (decide (0 ≤ l.2.1) && decide (l.2.1 < (N : Int))) = true := by simp [a.2.1, a.2.2]
  rw [acj hi, ace hl, azB, abZ, e1, azB, abZ, e2]
  simp only [Bool.not_true, acF, Bool.false_eq_true, if_false]
  rw [aci (by simp [ieq, b]), aci (by simp [ilt]; omega), aci (by simp [igt]; omega), acg hi (by omega)]
 ·try dsimp only
  unfold akG
  rw [acH]
 ·rw [List.findIdx?_eq_none_iff.2 (by simp)]
theorem aiX {ρ : Type} {x : List Int} {v : Int} (h0 : 0 ≤ v) (h : v.toNat < x.length) (f : Int → Option ρ) : adu x v f = f (gv x v) := by
 obtain ⟨i, rfl⟩ := Int.eq_ofNat_of_zero_le h0
 exact ace (aJM h) f
def aG4 (L : List Lk) (x : List Int) : Bool := L.all fun l => decide (gv x l.2.1 ≤ gv x l.1 + l.2.2)
theorem aKs (h : afH L N) {x : List Int} (hx : x.length = N) (hb : ∀ a ∈ x, -ae7 ≤ a ∧ a ≤ ae7) : ayX ((N : Int), L) x = some (aG4 L x && gv x 0 == 0, 0) := by
 have h1 := h.n1
 have h2 := h.n60
 have h3 := h.len
 unfold ayX aF5
 rw [agl h, abZ]
 try dsimp only
 rw [aci (by rfl), aci (by rw [acB, hx]; simp [ine])]
 have second : ach (fun (v20 : Int) kk22 => ah1 x L (aco L) v20 (fun u21 => kk22 u21) (fun z17 => some (z17.1, z17.2)) (fun _ => adu x (0 : Int) fun e19 => some (ieq e19 (0 : Int), (0 : Int)))) (0 : Int) = some (aG4 L x && gv x 0 == 0, 0) := by
  refine Eq.trans (afy L (fun l => !decide (gv x l.2.1 ≤ gv x l.1 + l.2.2)) (fun _ => some (false, 0)) (some (false, 0)) (some (gv x 0 == 0, 0)) (fun _ => rfl) (fun i l hi hl kn => ?_) (fun kn => ?_)) ?_
  ·try dsimp only
   unfold ah1
   have hm := List.mem_of_getElem? hl
   have a := h.inr l hm
   have c := h.most l hm
   have g1 : l.1.toNat < x.length := by omega
   have hg := hb _ (List.mem_of_getElem? (aJM g1))
   unfold ae7 at hg
   rw [acj hi, ace hl, aiX a.2.1 (by omega), aiX a.1.1 g1, acm (by omega) (by omega), acg hi (by omega), adA]
   by_cases hle : gv x l.2.1 ≤ gv x l.1 + l.2.2
   ·rw [if_neg (by simp [igt]; omega), if_neg (by simp [hle])]
   ·rw [if_pos (by simp [igt]; omega), if_pos (by simp [hle])]
  ·try dsimp only
   unfold ah1
   rw [acH, aiX (by omega) (by rw [Int.toNat_zero]; omega)]
  ·unfold aG4
   rw [show (L.any fun l => !decide (gv x l.2.1 ≤ gv x l.1 + l.2.2)) = !(L.all fun l => decide (gv x l.2.1 ≤ gv x l.1 + l.2.2)) from by rw [List.all_eq_not_any_not]; simp]
   cases (L.all fun l => decide (gv x l.2.1 ≤ gv x l.1 + l.2.2)) <;> rfl
 refine Eq.trans (afy x (fun _ => false) (fun z4 => ifb (ige z4 (0 : Int)) (some (false, (1 : Int))) (some (aG4 L x && gv x 0 == 0, 0))) (some (false, 1)) (some (aG4 L x && gv x 0 == 0, 0)) (fun j => ?_) (fun i a hi ha kn => ?_) (fun kn => ?_)) ?_
 ·rw [acp (by simp [ige])]
 ·try dsimp only
  unfold amU
  have hg := hb a (List.mem_of_getElem? ha)
  unfold ae7 at hg
  rw [acj hi, ace ha, aci (by simp [ilt]; omega), aci (by simp [igt]; omega), acg hi (by omega)]
  simp
 ·try dsimp only
  unfold amU
  rw [acH]
  exact second
 ·simp
end
end Go.Proofs.ZzM
end
noncomputable section
namespace Go.Proofs.ZzM
open Go Go.Am
section
variable {b : acs}
theorem asr (b : acs) (g : acP) : (acv b g).Pairwise (· < ·) := aze _
theorem aJ1 (h : adi b) {g : acP} (hg : g ∈ b.2.1) : ∃ t, acv b g = g.2.1 :: t := by
 have h1 := asr b g
 have h2 := ain (b := b) g
 have h3 : ∀ d ∈ acv b g, g.2.1 ≤ d := fun d hd => (h.day hg hd).1
 cases hd : acv b g with
 | nil => rw [hd] at h2; cases h2
 | cons a t =>
   rw [hd] at h1 h2 h3
   rw [List.pairwise_cons] at h1
   rcases List.mem_cons.1 h2 with e | e
   ·exact ⟨t, by rw [e]⟩
   ·have := h1.1 _ e
    have := h3 a (by simp)
    omega
def off (b : acs) (i : Nat) : Nat := ((b.2.1.take i).flatMap fun g => (acv b g).map fun d => ((g.1, d) : Int × Int)).length
theorem arE {i : Nat} {g : acP} (hg : b.2.1[i]? = some g) : aca b = ((b.2.1.take i).flatMap fun g => (acv b g).map fun d => ((g.1, d) : Int × Int)) ++ (((acv b g).map fun d => ((g.1, d) : Int × Int)) ++ ((b.2.1.drop (i + 1)).flatMap fun g => (acv b g).map fun d => ((g.1, d) : Int × Int))) := by
 obtain ⟨hi, rfl⟩ := List.getElem?_eq_some_iff.1 hg
 have h1 : b.2.1 = b.2.1.take i ++ (b.2.1[i] :: b.2.1.drop (i + 1)) := by
  rw [← List.drop_eq_getElem_cons hi, List.take_append_drop]
 unfold aca
 conv => lhs; rw [h1]
 rw [List.flatMap_append, List.flatMap_cons]
theorem aFh (h : adi b) {i : Nat} {g : acP} (hg : b.2.1[i]? = some g) {k : Nat} {d : Int} (hk : (acv b g)[k]? = some d) : agq (aca b) g.1 d = some (off b i + k) := by
 obtain ⟨hi, hgi⟩ := List.getElem?_eq_some_iff.1 hg
 obtain ⟨hkl, hkd⟩ := List.getElem?_eq_some_iff.1 hk
 unfold agq
 rw [arE hg, List.findIdx?_append, List.findIdx?_append]
 have h1 : List.findIdx? (fun n : Int × Int => decide (g.1 = n.1) && decide (d = n.2)) ((b.2.1.take i).flatMap fun g => (acv b g).map fun d => ((g.1, d) : Int × Int)) = none := by
  rw [List.findIdx?_eq_none_iff]
  intro x hx
  obtain ⟨g', hg', hx⟩ := List.mem_flatMap.1 hx
  obtain ⟨d', _, rfl⟩ := List.mem_map.1 hx
  obtain ⟨j, hj, rfl⟩ := List.mem_iff_getElem.1 hg'
  rw [List.length_take] at hj
  rw [List.getElem_take]
  have := (List.pairwise_iff_getElem.1 h.ids) j i (by omega) hi (by omega)
  rw [hgi] at this
  simp only [Bool.and_eq_false_iff, decide_eq_false_iff_not]
  exact .inl (by omega)
 have h2 : List.findIdx? (fun n : Int × Int => decide (g.1 = n.1) && decide (d = n.2)) ((acv b g).map fun d => ((g.1, d) : Int × Int)) = some k := by
  rw [List.findIdx?_eq_some_iff_getElem]
  refine ⟨by simpa using hkl, by simp [hkd], fun j hj => ?_⟩
  have := (List.pairwise_iff_getElem.1 (asr b g)) j k (by omega) hkl hj
  rw [hkd] at this
  simp only [List.getElem_map, Bool.and_eq_true, decide_eq_true_eq, not_and]
  intro _
  omega
 rw [h1, h2]
 simp only [Option.map_some, Option.some_or, Option.none_or]
 unfold off
 congr 1
 omega
theorem aRQ {i : Nat} {g : acP} (hg : b.2.1[i]? = some g) {k : Nat} {d : Int} (hk : (acv b g)[k]? = some d) : (aca b)[off b i + k]? = some (g.1, d) := by
 obtain ⟨hkl, hkd⟩ := List.getElem?_eq_some_iff.1 hk
 rw [arE hg, List.getElem?_append_right (by unfold off; omega), List.getElem?_append_left (by unfold off; simp; omega)]
 unfold off
 simp [hk]
theorem aSJ (h : adi b) {i : Nat} {g : acP} (hg : b.2.1[i]? = some g) : atP (aca b) [g.1] g.2.1 = (off b i : Int) + 1 := by
 obtain ⟨t, ht⟩ := aJ1 h (List.mem_of_getElem? hg)
 have := aFh h hg (k := 0) (d := g.2.1) (by rw [ht]; rfl)
 unfold atP
 simp only [this]
 rfl
theorem aTD (h : adi b) {i : Nat} {g : acP} (hg : b.2.1[i]? = some g) : off b i + (acv b g).length ≤ (aca b).length := by
 rw [arE hg]
 unfold off
 simp only [List.length_append, List.length_map]
 omega
theorem aRN {i : Nat} {g : acP} (hg : b.2.1[i]? = some g) : off b (i + 1) = off b i + (acv b g).length := by
 unfold off
 rw [take_succ hg, List.flatMap_append]
 simp
theorem aIp (h : adi b) {c : Cmp} (hc : c ∈ b.2.2.2.2.1) {x : Int} (hx : (x ∈ c.2.2.1 ∧ x ∉ c.2.2.2.1) ∨ (x ∈ c.2.2.2.1 ∧ x ∉ c.2.2.1)) : ∃ j, agq (aca b) x c.2.1 = some j := by
 have hm : x ∈ c.2.2.1 ++ c.2.2.2.1 := by rw [List.mem_append]; exact hx.imp (·.1) (·.1)
 obtain ⟨⟨g, hg, _⟩, _⟩ := h.pile hc hm
 obtain ⟨hgm, hgx⟩ := akW hg
 obtain ⟨i, hi, hgi⟩ := List.mem_iff_getElem.1 hgm
 have hd : c.2.1 ∈ acv b g := aiK.2 (.inr (.inl ⟨c, hc, by
  rw [hgx]
  rcases hx with ⟨h1, h2⟩ | ⟨h1, h2⟩
  ·have e1 : c.2.2.1.contains x = true := by simpa using h1
   have e2 : c.2.2.2.1.contains x = false := by simpa using h2
   rw [e1, e2]; simp
  ·have e1 : c.2.2.2.1.contains x = true := by simpa using h1
   have e2 : c.2.2.1.contains x = false := by simpa using h2
   rw [e1, e2]; simp, rfl⟩))
 obtain ⟨k, hk, hkd⟩ := List.mem_iff_getElem.1 hd
 have := aFh h (g := g) (i := i) (by rw [List.getElem?_eq_getElem hi, hgi]) (k := k) (d := c.2.1) (by rw [List.getElem?_eq_getElem hk, hkd])
 rw [hgx] at this
 exact ⟨_, this⟩
inductive aOF (b : acs) (p : List Int) (d : Int) (n : Int) : Prop
 | none : p = [] → n = 0 → aOF b p d n
 | one (x : Int) (j : Nat) : p = [x] → agq (aca b) x d = some j → n = (j : Int) + 1 → aOF b p d n
theorem aG9 (h : adi b) {c : Cmp} (hc : c ∈ b.2.2.2.2.1) : aOF b (ac4 c.2.2.1 c.2.2.2.1) c.2.1 (cx b c) := by
 have hl := (h.lefts hc).1
 cases hp : ac4 c.2.2.1 c.2.2.2.1 with
 | nil => exact .none rfl (by unfold cx atP; rw [hp])
 | cons x t =>
   rw [hp] at hl
   have : t = [] := by cases t with | nil => rfl | cons => simp at hl
   subst this
   obtain ⟨j, hj⟩ := aIp h hc (x := x) (.inl (agz.1 (by rw [hp]; simp)))
   exact .one x j rfl hj (by unfold cx atP; rw [hp]; simp only [hj])
theorem aBC (h : adi b) {c : Cmp} (hc : c ∈ b.2.2.2.2.1) : aOF b (ac4 c.2.2.2.1 c.2.2.1) c.2.1 (cy b c) := by
 have hl := (h.lefts hc).2.1
 cases hp : ac4 c.2.2.2.1 c.2.2.1 with
 | nil => exact .none rfl (by unfold cy atP; rw [hp])
 | cons x t =>
   rw [hp] at hl
   have : t = [] := by cases t with | nil => rfl | cons => simp at hl
   subst this
   obtain ⟨j, hj⟩ := aIp h hc (x := x) (.inr (agz.1 (by rw [hp]; simp)))
   exact .one x j rfl hj (by unfold cy atP; rw [hp]; simp only [hj])
theorem aOF.rng {p : List Int} {d n : Int} (h : aOF b p d n) : 0 ≤ n ∧ n < ((aca b).length + 1 : Nat) := by
 rcases h with ⟨_, h⟩ | ⟨x, j, _, h1, h2⟩
 ·omega
 ·have := (agX h1).1
  omega
theorem aSl (h : adi b) {c : Cmp} (hc : c ∈ b.2.2.2.2.1) : cx b c ≠ cy b c := by
 have hl := (h.lefts hc).2.2
 rcases aG9 h hc with ⟨h1, h2⟩ | ⟨x, j, h1, h2, h3⟩
 ·rcases aBC h hc with ⟨g1, g2⟩ | ⟨y, k, g1, g2, g3⟩
  ·rw [h1, g1] at hl; simp at hl
  ·omega
 ·rcases aBC h hc with ⟨g1, g2⟩ | ⟨y, k, g1, g2, g3⟩
  ·omega
  ·intro e
   have : j = k := by omega
   subst this
   have e1 := (agX h2).2
   have e2 := (agX g2).2
   rw [e1] at e2
   simp only [Option.some.injEq, Prod.mk.injEq] at e2
   have m1 : x ∈ ac4 c.2.2.1 c.2.2.2.1 := by rw [h1]; simp
   have m2 : y ∈ ac4 c.2.2.2.1 c.2.2.1 := by rw [g1]; simp
   rw [e2.1] at m1
   exact (agz.1 m1).2 (agz.1 m2).1
theorem aJz (h : adi b) : (ack b).length = 2 * (aca b).length + 2 * b.2.2.2.2.1.length := by
 have h1 : ∀ l : List acP, (∀ g ∈ l, g ∈ b.2.1) → (l.flatMap (adm b)).length = 2 * (l.flatMap fun g => (acv b g).map fun d => ((g.1, d) : Int × Int)).length := by
  intro l
  induction l with
  | nil => intro _; rfl
  | cons g t ih =>
    intro hm
    have := ih fun g hg => hm g (by simp [hg])
    have hp := List.length_pos_of_mem (ain (b := b) g)
    simp only [List.flatMap_cons, List.length_append, List.length_map, this]
    unfold adm
    rw [List.length_append, agJ _ _ (fun _ => rfl)]
    simp only [List.length_cons, List.length_nil]
    omega
 have h2 : ∀ l : List Cmp, (l.flatMap (acZ b)).length = 2 * l.length := by
  intro l
  induction l with
  | nil => rfl
  | cons c t ih =>
    simp only [List.flatMap_cons, List.length_append, ih, acZ, List.length_cons, List.length_nil]
    omega
 unfold ack
 rw [List.length_append, h1 _ fun _ h => h, h2]
 rfl
theorem adC (h : adi b) {i : Nat} {g : acP} (hg : b.2.1[i]? = some g) {l : Lk} : l ∈ adm b g ↔
 l = (0, (off b i : Int) + 1, g.2.2.1 + g.2.2.2.1.2) ∨ l = ((off b i : Int) + 1, 0, -(g.2.2.1 + g.2.2.2.1.1)) ∨
 ∃ (k : Nat) (d e : Int), (acv b g)[k]? = some d ∧ (acv b g)[k + 1]? = some e ∧ (l = ((off b i : Int) + k + 1, (off b i : Int) + k + 2, 0) ∨ l = ((off b i : Int) + k + 2, (off b i : Int) + k + 1, agc b g d e)) := by
 unfold adm
 rw [aSJ h hg]
 simp only [List.mem_append, List.mem_cons, List.not_mem_nil, or_false, List.mem_flatMap, List.mem_range]
 constructor
 ·rintro ((h1 | h1) | ⟨k, hk, h1⟩)
  ·exact .inl h1
  ·exact .inr (.inl h1)
  ·refine .inr (.inr ⟨k, (acv b g)[k], (acv b g)[k + 1], List.getElem?_eq_getElem (by omega), List.getElem?_eq_getElem (by omega), ?_⟩)
   rw [List.getElem?_eq_getElem (show k < (acv b g).length by omega), List.getElem?_eq_getElem (show k + 1 < (acv b g).length by omega)] at h1
   simp only [Option.getD_some] at h1
   have e1 : (off b i : Int) + 1 + k = (off b i : Int) + k + 1 := by omega
   have e2 : (off b i : Int) + k + 1 + 1 = (off b i : Int) + k + 2 := by omega
   rw [e1, e2] at h1
   exact h1
 ·rintro (h1 | h1 | ⟨k, d, e, hd, he, h1⟩)
  ·exact .inl (.inl h1)
  ·exact .inl (.inr h1)
  ·obtain ⟨h2, rfl⟩ := List.getElem?_eq_some_iff.1 hd
   obtain ⟨h3, rfl⟩ := List.getElem?_eq_some_iff.1 he
   refine .inr ⟨k, by omega, ?_⟩
   rw [hd, he]
   simp only [Option.getD_some]
   have e1 : (off b i : Int) + 1 + k = (off b i : Int) + k + 1 := by omega
   have e2 : (off b i : Int) + k + 1 + 1 = (off b i : Int) + k + 2 := by omega
   rw [e1, e2]
   exact h1
theorem ajw {l : Lk} : l ∈ ack b ↔ (∃ (i : Nat) (g : acP), b.2.1[i]? = some g ∧ l ∈ adm b g) ∨ ∃ c ∈ b.2.2.2.2.1, l = (cy b c, cx b c, (aeG b c).2) ∨ l = (cx b c, cy b c, -(aeG b c).1) := by
 unfold ack
 simp only [List.mem_append, List.mem_flatMap, acZ, List.mem_cons, List.not_mem_nil, or_false]
 constructor
 ·rintro (⟨g, hg, h⟩ | h)
  ·obtain ⟨i, hi, rfl⟩ := List.mem_iff_getElem.1 hg
   exact .inl ⟨i, _, List.getElem?_eq_getElem hi, h⟩
  ·exact .inr h
 ·rintro (⟨i, g, hg, h⟩ | h)
  ·exact .inl ⟨g, List.mem_of_getElem? hg, h⟩
  ·exact .inr h
theorem adi.sys (h : adi b) : afH (ack b) ((aca b).length + 1) := by
 have hN := h.nodes
 have hL := h.links
 have key : ∀ l ∈ ack b, ((0 ≤ l.1 ∧ l.1 < ((aca b).length + 1 : Nat)) ∧ (0 ≤ l.2.1 ∧ l.2.1 < ((aca b).length + 1 : Nat))) ∧ l.1 ≠ l.2.1 ∧ (-4503599627370496 ≤ l.2.2 ∧ l.2.2 ≤ 4503599627370496) := by
  intro l hl
  rcases ajw.1 hl with ⟨i, g, hg, hl⟩ | ⟨c, hc, hl⟩
  ·have hgm := List.mem_of_getElem? hg
   have hr := h.gaugeR hgm
   have ho := aTD h hg
   have hp := List.length_pos_of_mem (ain (b := b) g)
   have r1 := hr.2.2.2.2.2.1
   have r2 := hr.2.2.2.2.2.2.1
   rcases (adC h hg).1 hl with rfl | rfl | ⟨k, d, e, hd, he, h1⟩
   ·dsimp only; omega
   ·dsimp only; omega
   ·obtain ⟨h2, _⟩ := List.getElem?_eq_some_iff.1 he
    have d1 := h.day hgm (List.mem_of_getElem? hd)
    have lb := ane h hgm (t := e) d1.2.1
    rcases h1 with rfl | rfl
    ·dsimp only; omega
    ·dsimp only; omega
  ·have a := (aG9 h hc).rng
   have b' := (aBC h hc).rng
   have ne := aSl h hc
   have sb := azg h hc
   rcases hl with rfl | rfl
   ·dsimp only; omega
   ·dsimp only; omega
 exact ⟨by omega, by omega, by rw [aJz h]; omega, fun l hl => (key l hl).1, fun l hl => (key l hl).2.1, fun l hl => (key l hl).2.2⟩
end
def akU (b : acs) (x : List Int) : Bool := decide (x.length = (aca b).length) && x.all fun n => inP n (-4503599627370496) 4503599627370496
theorem aN9 {m : Maker} {x : List Int} (hn : m.2.1.length ≤ 1000000) : agj m x = some (if decide (x.length = m.2.1.length) && x.all fun n => inP n (-4503599627370496) 4503599627370496 then 0 else 1) := by
 unfold agj ah2
 by_cases hl : x.length = m.2.1.length
 ·rw [aci (by rw [acB, acB, hl]; simp [ine])]
  refine Eq.trans (afy x (fun n => !inP n (-4503599627370496) 4503599627370496) (fun z => ifb (ige z 0) (some 1) (some 0)) (some 1) (some 0) (fun j => ?_) (fun i a hi ha kn => ?_) (fun kn => ?_)) ?_
  ·rw [acp (by simp [ige])]
  ·try dsimp only
   unfold afb
   rw [acj hi, ace ha, aeN, abZ, acg hi (by omega), adA]
  ·try dsimp only
   unfold afb
   rw [acH]
  ·rw [show (x.any fun n => !inP n (-4503599627370496) 4503599627370496) = !(x.all fun n => inP n (-4503599627370496) 4503599627370496) from by rw [List.all_eq_not_any_not]; simp]
   cases (x.all fun n => inP n (-4503599627370496) 4503599627370496) <;> simp [hl]
 ·rw [acp (by rw [acB, acB]; simp [ine]; omega)]
  simp [hl]
def aQm (b : acs) (x : List Int) : Bool := aG4 (ack b) (0 :: x)
def ayx (b : acs) (x : List Int) : Bool × Int := if acw b ≠ 0 then (false, acw b) else if akU b x then (aQm b x, 0) else (false, 1)
theorem aIA {b : acs} (h : adi b) {x : List Int} (hx : akU b x = true) (src : List (Int × Int)) : aim (b, aca b, (((aca b).length : Int) + 1, ack b), src) x = some (aQm b x) := by
 simp only [akU, Bool.and_eq_true, decide_eq_true_eq, List.all_eq_true, inP] at hx
 have hN := h.nodes
 unfold aim aln
 rw [adG (acl (by simp only [List.length_singleton]; omega))]
 have := aKs h.sys (x := [0] ++ x) (by simp; omega) (fun a ha => by
  unfold ae7
  rcases List.mem_append.1 ha with ha | ha
  ·simp at ha; omega
  ·have := hx.2 a ha; omega)
 rw [show (((aca b).length : Int) + 1) = (((aca b).length + 1 : Nat) : Int) by push_cast; rfl]
 try dsimp only
 rw [this, abZ]
 unfold aQm
 have e : gv ([0] ++ x) 0 = 0 := rfl
 rw [e]
 simp
theorem aRk {b : acs} (hs : ag7 b) (hr : ∀ g ∈ b.2.1, I64 g.2.2.2.2.1.1) (x : List Int) : akZ b x = some (ayx b x) := by
 unfold akZ aGO ayx
 rw [afC hs hr, abZ]
 by_cases hc : acw b = 0
 ·have h := (acu b).1 hc
  have hN := h.nodes
  rw [aci (by simp [ine, hc]), aFo h, abZ, aN9 (by dsimp only; omega), abZ, if_neg (show ¬ (acw b ≠ 0) from fun h => h hc)]
  rw [show (decide (x.length = (b, aca b, (((aca b).length : Int) + 1, ack b), aed b).2.1.length) && x.all fun n => inP n (-4503599627370496) 4503599627370496) = akU b x from rfl]
  cases hl : akU b x with
  | false => rfl
  | true =>
    rw [if_pos rfl, aci (by rfl), aIA h hl, abZ, if_pos rfl]
 ·rw [acp (by simp [ine, hc]), if_pos hc]
end Go.Proofs.ZzM
end
noncomputable section
namespace Go.Proofs.ZzM
open Go Go.Am
theorem aQ3 {ρ : Type} : @amT ρ = @afh ρ := rfl
theorem aQ2 {ρ : Type} : @amS ρ = @ad0 ρ := rfl
theorem aQ1 {ρ : Type} : @amR ρ = @adq ρ := rfl
theorem aJK {ρ : Type} {N : Nat} (hN : N ≤ 1000) (x : Option ρ) : acO ((ile (0 : Int) (N : Int)) && (acK N)) x = x := by
 have := auE hN x
 rwa [Int.toNat_natCast] at this
section
variable {L : List Lk} {N : Nat} {M : Int}
theorem aO3 {s : Int} (hs : 0 ≤ s ∧ s < N) : (List.replicate N ae7).set s.toNat 0 = amr (aPw s) N := by
 refine aMZ (by simp [acW]) fun v h0 h1 => ?_
 have hv : v < N := by simpa using h1
 rw [afL _ h0 hv, aph hs.1 h0 (by simp; omega)]
 unfold aPw
 by_cases h : v = s
 ·simp [h]
 ·simp only [h, if_false, beq_iff_eq]
  unfold gv
  rw [List.getElem?_replicate]
  have : v.toNat < N := by omega
  simp [this]
theorem aQ0 (hL : afB L N M) (h1 : 1 ≤ N) (hN : N ≤ 200) (ho : adV L N = true) {s : Int} (hs : 0 ≤ s ∧ s < N) : ap6 ((N : Int), L) [] s = some (alx L N s) := by
 obtain ⟨p, hp⟩ := (afd hL hN).1 ho
 unfold ap6 avW
 rw [aQ3, aQ2, aQ1]
 dsimp only
 rw [auE (by omega), Int.toNat_natCast]
 refine ac9 (List.replicate N (0 : Int)) (fun i => List.replicate i ae7 ++ List.replicate (N - i) 0) _ (by simp) (fun i a hi ha kn => ?_) (fun kn => ?_)
 ·dsimp only
  unfold ajd
  have hiN : i < N := by simpa using hi
  have hl : i < (List.replicate i ae7 ++ List.replicate (N - i) (0 : Int)).length := by simp; omega
  rw [acj hi, afK hl, aem (List.getElem?_eq_getElem hl), acg hiN (by omega), Int.toNat_natCast]
  congr 2
  rw [List.set_append_right _ _ (by simp)]
  have : N - i = (N - (i + 1)) + 1 := by omega
  rw [this, List.length_replicate, Nat.sub_self, List.replicate_succ, List.set_cons_zero, List.replicate_succ']
  simp
 ·try dsimp only
  unfold ajd
  rw [acH]
  dsimp only
  have e0 : List.replicate (List.replicate N (0 : Int)).length ae7 ++ List.replicate (N - (List.replicate N (0 : Int)).length) 0 = List.replicate N ae7 := by simp
  rw [e0]
  have hlen : s.toNat < (List.replicate N ae7).length := by simp; omega
  rw [show adE (List.replicate N ae7) = ((N : Nat) : Int) by simp [adE], af0 hs.1 hs.2, agM hlen, aJK (by omega), aJK (by omega), aO3 hs]
  refine Eq.trans (aMW hL _) ?_
  have hS : ∀ v, aPw s v = true → 0 ≤ v ∧ v < N := fun v h => by simp [aPw] at h; subst h; exact hs
  refine aO4 (acW _ _) (by omega) _ fun w q hw hq hr hwq hqs => ?_
  have hs0 := aDE hL h1 hS hw hq hr hwq hqs
  refine aHO hL (aRS hL hN) hp hS _ (fun x w t q hx hd => ?_) hs0
  have : x = alx L N s := by
   refine aMZ (by rw [hx]; unfold alx; rw [aee, acW]) fun v a b => ?_
   exact hd.uniq (aid hL hN hp hs) a (by omega)
  dsimp only
  rw [this]
def afk (L : List Lk) (N : Nat) (s t : Int) : Int × Int :=
 if !adV L N then (0, 9) else if gv (alx L N s) t = ae7 then (0, 5) else (gv (alx L N s) t, 0)
theorem aSK (h : afH L N) {ns : List Int} (hn : ∀ n ∈ ns, 0 ≤ n ∧ n < N) (hl : ns.length ≤ 1000) : auS ((N : Int), L) ns = some (if adV L N then 0 else 9) := by
 have h2 := h.n60
 unfold auS aAf
 rw [agl h, abZ]
 dsimp only
 rw [aci (by rfl)]
 refine Eq.trans (afZ ns (fun _ => false) (fun _ => some 1) (some (if adV L N then 0 else 9)) (fun i n hi hm kn => ?_) (fun kn => ?_)) ?_
 ·try dsimp only
  unfold akE
  have a := hn n (List.mem_of_getElem? hm)
  have e : (decide (0 ≤ n) && decide (n < (N : Int))) = true := by simp [a.1, a.2]
  rw [acj hi, ace hm, azB, abZ, e, acg hi (by omega)]
  simp
 ·try dsimp only
  unfold akE
  rw [acH, ars h.links h.n1 (by omega), abZ]
  cases adV L N <;> rfl
 ·rw [List.findIdx?_eq_none_iff.2 (by simp)]
theorem ay2 (h : afH L N) {s t : Int} (hs : 0 ≤ s ∧ s < N) (ht : 0 ≤ t ∧ t < N) : aj8 ((N : Int), L) s t = some (afk L N s t) := by
 have h2 := h.n60
 unfold aj8 aAt afk
 rw [aSK h (fun n hn => by simp at hn; rcases hn with rfl | rfl <;> assumption) (by simp), abZ]
 by_cases ho : adV L N = true
 ·rw [if_pos ho, aci (by rfl), aQ0 h.links h.n1 (by omega) ho hs, abZ, aiX ht.1 (by unfold alx; rw [aee, acW]; omega), adA, if_neg (show ¬ (!adV L N) = true by simp [ho])]
  by_cases hf : gv (alx L N s) t = ae7
  ·rw [if_pos (by simpa [ieq] using hf), if_pos hf]
  ·rw [if_neg (by simpa [ieq] using hf), if_neg hf]
 ·rw [if_neg ho, acp (by rfl), if_pos (show (!adV L N) = true by simpa using ho)]
end
end Go.Proofs.ZzM
end
noncomputable section
namespace Go.Proofs.ZzM
open Go Go.Am
def acx (b : acs) (c : Cmp) : acs := (b.1, b.2.1, b.2.2.1, b.2.2.2.1, b.2.2.2.2.1 ++ [c], b.2.2.2.2.2)
def akj : acs := ((0, 0), [], [], [], [], [])
def apD (b : acs) (c : Cmp) : acs × Int := if acw b ≠ 0 then (akj, acw b) else if acw (acx b c) ≠ 0 then (akj, acw (acx b c)) else (acx b c, 0)
theorem aPH {b : acs} (h : adi b) {c : Cmp} (hA : c.2.2.1.length ≤ 1000) (hB : c.2.2.2.1.length ≤ 1000) : ag7 (acx b c) := by
 have hs := h.size
 have := h.nC
 refine ⟨hs.gauges, hs.uses, hs.loans, by simp [acx]; omega, hs.looks, fun d hd => ?_⟩
 rcases List.mem_append.1 (show d ∈ b.2.2.2.2.1 ++ [c] from hd) with hd | hd
 ·exact hs.piles d hd
 ·simp at hd; subst hd; exact ⟨hA, hB⟩
theorem aRc {b : acs} (hs : ag7 b) (hr : ∀ g ∈ b.2.1, I64 g.2.2.2.2.1.1) {c : Cmp} (hA : c.2.2.1.length ≤ 1000) (hB : c.2.2.2.1.length ≤ 1000) : ajl b c = some (apD b c) := by
 unfold ajl aGI apD
 have h1 := hs.gauges; have h2 := hs.uses; have h3 := hs.loans; have h4 := hs.compares; have h5 := hs.looks
 rw [acl (by omega), Am.iff_true, acl (by omega), Am.iff_true, afC hs hr, abZ]
 by_cases hc : acw b = 0
 ·have h := (acu b).1 hc
  rw [aci (by simp [ine, hc]), acl (by omega), Am.iff_true, acl (by omega), Am.iff_true, acl (by omega), Am.iff_true, acl (by omega), Am.iff_true, acl (by omega), Am.iff_true, if_neg (show ¬ (acw b ≠ 0) from fun h => h hc)]
  refine ac9 b.2.2.2.2.1 (fun _ => b.2.2.2.2.1) _ rfl (fun i d hi hd kn => ?_) (fun kn => ?_)
  ·dsimp only
   unfold anb
   obtain ⟨p1, p2⟩ := hs.piles d (List.mem_of_getElem? hd)
   have e1 : b.2.2.2.2.1.set i d = b.2.2.2.2.1 := by
    obtain ⟨h, rfl⟩ := List.getElem?_eq_some_iff.1 hd
    exact List.set_getElem_self h
   rw [acj hi, afK hi, aem hd, acl (by omega), Am.iff_true, acl (by omega), Am.iff_true, afK hi, aem hd, Int.toNat_natCast]
   rw [show (d.1, d.2.1, d.2.2.1, d.2.2.2) = d from rfl, e1, afK hi, amu hd, acg hi (by omega)]
   rw [show (d.1, d.2.1, d.2.2.1, d.2.2.2.1, d.2.2.2.2) = d from rfl, e1]
  ·try dsimp only
   unfold anb
   rw [acH]
   dsimp only
   rw [acl (by simp only [List.length_singleton]; omega), Am.iff_true]
   rw [show acM (b.1, b.2.1, b.2.2.1, b.2.2.2.1, b.2.2.2.2.1 ++ [c], b.2.2.2.2.2) = acM (acx b c) from rfl, afC (aPH h hA hB) hr, abZ]
   by_cases hc2 : acw (acx b c) = 0
   ·rw [aci (by simp [ine, hc2]), if_neg (show ¬ (acw (acx b c) ≠ 0) from fun h => h hc2)]
    rfl
   ·rw [acp (by simp [ine, hc2]), if_pos hc2]
    rfl
 ·rw [acp (by simp [ine, hc]), if_pos hc]
  rfl
def ab6 (c : Cmp) : Cmp := (c.1, c.2.1, c.2.2.1, c.2.2.2.1, 0, c.2.2.2.2.2)
def aLB (b : acs) (c : Cmp) : Int := aBK (ads b c).1 + (af1 b c).1 - c.2.2.2.2.2.1
def asi (b : acs) (c : Cmp) : Int := (ads b c).2.1 / (ads b c).2.2 + (af1 b c).2 + c.2.2.2.2.2.1
def azc (b : acs) (c : Cmp) (s : Int × Int) : (Int × Int) × Int := if asi b c < aLB b c then ((0, 0), 5) else ((s.1 + aLB b c, s.2 + asi b c), 0)
structure aSS (b : acs) (c : Cmp) : Prop where
 nums : aNS c = true
 r1 : amq (arx (aiO b) (ac4 c.2.2.1 c.2.2.2.1)) 1000 100
 r2 : amq (arx (aiO b) (ac4 c.2.2.2.1 c.2.2.1)) 1000 100
theorem adi.cmp {b : acs} (h : adi b) {c : Cmp} (hc : c ∈ b.2.2.2.2.1) : aSS b c := ⟨h.nums hc, (h.rates hc).1, (h.rates hc).2⟩
theorem awS {b : acs} (hf : 0 ≤ b.1.1 ∧ b.1.1 ≤ b.1.2 ∧ b.1.2 ≤ 1000000) {c : Cmp} (h : aSS b c) : amq (ads b c).1 2000000000 10000 ∧ amq (ads b c).2 2000000000 10000 ∧ (-3000000000 ≤ aBK (ads b c).1 + (af1 b c).1 ∧ aBK (ads b c).1 + (af1 b c).1 ≤ 3000000000) ∧
 (-3000000000 ≤ (ads b c).2.1 / (ads b c).2.2 + (af1 b c).2 ∧ (ads b c).2.1 / (ads b c).2.2 + (af1 b c).2 ≤ 3000000000) ∧ (0 ≤ c.2.2.2.2.2.1 ∧ c.2.2.2.2.2.1 ≤ 1073741824) := by
 have hn := (ahf c).1 h.nums
 have ha := aeO hn.2.2.2.2.2.1
 have hb := aeO hn.2.2.2.2.2.2
 obtain ⟨g1, g2⟩ := aFe (aER h.r1 h.r2) hn.2.2.2.2.1
 have fb := asp (b := b) (c := c) (by omega) (by omega) (by omega) (by omega) (by omega) (by omega)
 have q1 : amq (ads b c).1 2000000000 10000 := g1
 have q2 : amq (ads b c).2 2000000000 10000 := g2
 have c1 := awC q1
 have c2 := asm q2
 exact ⟨q1, q2, by omega, by omega, hn.2.2.2.1⟩
theorem aRE {b : acs} (hs : ag7 b) (hf : 0 ≤ b.1.1 ∧ b.1.1 ≤ b.1.2 ∧ b.1.2 ≤ 1000000) {c : Cmp} (h : aSS b c) {s : Int × Int} (h1 : -2305843009213693952 ≤ s.1 ∧ s.1 ≤ 2305843009213693952) (h2 : -2305843009213693952 ≤ s.2 ∧ s.2 ≤ 2305843009213693952) : ami b c s = some (azc b c s) := by
 have hn := (ahf c).1 h.nums
 have ha := aeO hn.2.2.2.2.2.1
 have hb := aeO hn.2.2.2.2.2.2
 obtain ⟨q1, q2, b1, b2, b3⟩ := awS hf h
 unfold ami aAM azc aLB asi
 rw [aJO hs (by omega) (by omega) h.r1 h.r2 hn.2.2.2.2.1, abZ, aM7 (by omega) (by omega) (by omega) (by omega) (by omega) (by omega), abZ, aRm q1.rat, abZ, aNx q2.rat, abZ]
 dsimp only
 rw [acm (by omega) (by omega), acm (by omega) (by omega), acm (by omega) (by omega), acm (by omega) (by omega), adA]
 by_cases hlt : (ads b c).2.1 / (ads b c).2.2 + (af1 b c).2 + c.2.2.2.2.2.1 < aBK (ads b c).1 + (af1 b c).1 - c.2.2.2.2.2.1
 ·rw [if_pos (by simpa [igt] using hlt), if_pos hlt]
 ·rw [if_neg (by simpa [igt] using hlt), if_neg hlt, acm (by omega) (by omega), acm (by omega) (by omega)]
def acJ (b : acs) : List Lk := (ack b).take ((ack b).length - 2)
def adx (b : acs) (c : Cmp) : (Int × Int) × Int :=
 if (apD b (ab6 c)).2 ≠ 0 then ((0, 0), (apD b (ab6 c)).2) else
 if (afk (acJ (acx b (ab6 c))) ((aca (acx b (ab6 c))).length + 1) (cy (acx b (ab6 c)) (ab6 c)) (cx (acx b (ab6 c)) (ab6 c))).2 ≠ 0 then
  ((0, 0), (afk (acJ (acx b (ab6 c))) ((aca (acx b (ab6 c))).length + 1) (cy (acx b (ab6 c)) (ab6 c)) (cx (acx b (ab6 c)) (ab6 c))).2) else
 if (afk (acJ (acx b (ab6 c))) ((aca (acx b (ab6 c))).length + 1) (cx (acx b (ab6 c)) (ab6 c)) (cy (acx b (ab6 c)) (ab6 c))).2 ≠ 0 then
  ((0, 0), (afk (acJ (acx b (ab6 c))) ((aca (acx b (ab6 c))).length + 1) (cx (acx b (ab6 c)) (ab6 c)) (cy (acx b (ab6 c)) (ab6 c))).2) else
 azc b (ab6 c) (-(afk (acJ (acx b (ab6 c))) ((aca (acx b (ab6 c))).length + 1) (cx (acx b (ab6 c)) (ab6 c)) (cy (acx b (ab6 c)) (ab6 c))).1,
  (afk (acJ (acx b (ab6 c))) ((aca (acx b (ab6 c))).length + 1) (cy (acx b (ab6 c)) (ab6 c)) (cx (acx b (ab6 c)) (ab6 c))).1)
theorem aKv {L : List Lk} {N : Nat} (h : afH L N) {s t : Int} (hs : 0 ≤ s ∧ s < N) (ht : 0 ≤ t ∧ t < N) : -2305843009213693952 ≤ (afk L N s t).1 ∧ (afk L N s t).1 ≤ 2305843009213693952 := by
 unfold afk
 have h2 := h.n60
 split
 ·simp
 ·rename_i ho
  have ho' : adV L N = true := by simpa using ho
  obtain ⟨p, hp⟩ := (afd h.links (by omega)).1 ho'
  have hd := aid h.links (by omega) hp hs
  split
  ·simp
  ·rename_i hne
   dsimp only
   have hb := hd.bd t ht.1 ht.2
   obtain ⟨vs, hw⟩ := hd.att t ht.1 ht.2 hne
   have h3 := hw.low' hp
   have h4 := aFj (L := L) (fun l hl => (h.most l hl).1) (M := 4503599627370496) (by omega)
   have h5 := h.len
   unfold ae7 at hb
   constructor <;> omega
theorem aOD {b : acs} (hs : ag7 b) (hr : ∀ g ∈ b.2.1, I64 g.2.2.2.2.1.1) {c : Cmp} (hA : c.2.2.1.length ≤ 1000) (hB : c.2.2.2.1.length ≤ 1000) : anp b c = some (adx b c) := by
 unfold anp ase adx
 rw [show ajl b (c.1, c.2.1, c.2.2.1, c.2.2.2.1, 0, c.2.2.2.2.2) = ajl b (ab6 c) from rfl, aRc hs hr (c := ab6 c) hA hB, abZ]
 by_cases hw : (apD b (ab6 c)).2 = 0
 ·rw [aci (by simp [ine, hw]), if_neg (show ¬ ((apD b (ab6 c)).2 ≠ 0) from fun h => h hw)]
  -- the book is valid, and so is the greater one
  have hb : acw b = 0 := by
   unfold apD at hw
   split at hw
   ·rename_i h; exact (h hw).elim
   ·rename_i h; simpa using h
  have hm : acw (acx b (ab6 c)) = 0 := by
   unfold apD at hw
   rw [if_neg (by simp [hb])] at hw
   split at hw
   ·rename_i h; exact (h hw).elim
   ·rename_i h; simpa using h
  have he : apD b (ab6 c) = (acx b (ab6 c), 0) := by
   unfold apD
   rw [if_neg (by simp [hb]), if_neg (by simp [hm])]
  have g := (acu b).1 hb
  have gm := (acu _).1 hm
  have hmem : ab6 c ∈ (acx b (ab6 c)).2.2.2.2.1 := by simp [acx]
  have hN := gm.nodes
  have hll := aJz gm
  have hcl : (acx b (ab6 c)).2.2.2.2.1.length = b.2.2.2.2.1.length + 1 := by simp [acx]
  have hlk := gm.links
  have hsys : afH (acJ (acx b (ab6 c))) ((aca (acx b (ab6 c))).length + 1) := gm.sys.sub (fun l hl => List.mem_of_mem_take hl) (by unfold acJ; rw [List.length_take]; omega)
  have hx := (aG9 gm hmem).rng
  have hy := (aBC gm hmem).rng
  have lA : c.2.2.1.length ≤ 1000 := hA
  rw [he]
  dsimp only
  rw [aFo gm, abZ]
  dsimp only
  rw [acB, acm (by omega) (by omega)]
  have e1 : ((ile (0 : Int) (((ack (acx b (ab6 c))).length : Int) - 2)) && (ile (((ack (acx b (ab6 c))).length : Int) - 2) (adE (ack (acx b (ab6 c)))))) = true := by
   simp [ile, adE]; omega
  have e2 : (((ack (acx b (ab6 c))).length : Int) - 2).toNat = (ack (acx b (ab6 c))).length - 2 := by omega
  rw [adG e1, alp (by omega) (by omega), abZ, aQ6 _ _ _ (by dsimp only; omega), abZ, alp (by omega) (by omega), abZ, aQ6 _ _ _ (by dsimp only; omega), abZ, e2]
  have e3 : (((aca (acx b (ab6 c))).length : Int) + 1) = (((aca (acx b (ab6 c))).length + 1 : Nat) : Int) := by push_cast; rfl
  rw [e3]
  rw [show List.take ((ack (acx b (ab6 c))).length - 2) (ack (acx b (ab6 c))) = acJ (acx b (ab6 c)) from rfl]
  dsimp only
  rw [show atP (aca (acx b (ab6 c))) (ac4 c.2.2.1 c.2.2.2.1) c.2.1 = cx (acx b (ab6 c)) (ab6 c) from rfl, show atP (aca (acx b (ab6 c))) (ac4 c.2.2.2.1 c.2.2.1) c.2.1 = cy (acx b (ab6 c)) (ab6 c) from rfl]
  rw [ay2 hsys hy hx, abZ, ay2 hsys hx hy]
  have b1 := aKv hsys hy hx
  have b2 := aKv hsys hx hy
  generalize hB1 : afk (acJ (acx b (ab6 c))) ((aca (acx b (ab6 c))).length + 1) (cy (acx b (ab6 c)) (ab6 c)) (cx (acx b (ab6 c)) (ab6 c)) = B1 at b1 ⊢
  generalize hB2 : afk (acJ (acx b (ab6 c))) ((aca (acx b (ab6 c))).length + 1) (cx (acx b (ab6 c)) (ab6 c)) (cy (acx b (ab6 c)) (ab6 c)) = B2 at b2 ⊢
  by_cases h1 : B1.2 = 0
  ·rw [aci (by simp [ine, h1]), if_neg (show ¬ (B1.2 ≠ 0) from fun h => h h1), abZ]
   by_cases h2 : B2.2 = 0
   ·rw [aci (by simp [ine, h2]), if_neg (show ¬ (B2.2 ≠ 0) from fun h => h h2), acm (by omega) (by omega)]
    have hck : aSS b (ab6 c) := ⟨(gm.cmp hmem).nums, (gm.cmp hmem).r1, (gm.cmp hmem).r2⟩
    rw [show ami b (c.1, c.2.1, c.2.2.1, c.2.2.2.1, 0, c.2.2.2.2.2) (0 - B2.1, B1.1) = ami b (ab6 c) (0 - B2.1, B1.1) from rfl, aRE g.size g.film hck (by dsimp only; omega) (by dsimp only; omega), abZ, Int.zero_sub]
   ·rw [acp (by simp [ine, h2]), if_pos h2]
  ·rw [acp (by simp [ine, h1]), if_pos h1]
 ·rw [acp (by simp [ine, hw]), if_pos hw]
end Go.Proofs.ZzM
end
noncomputable section
namespace Go.Proofs.ZzM
open Go Go.Am
structure In (b : acs) : Prop where
 size : ag7 b
 num : ∀ g ∈ b.2.1, I64 g.2.2.2.2.1.1
def aHs (b : acs) : Sys × List (Int × Int) × Int := if acw b ≠ 0 then ((0, []), [], acw b) else ((((aca b).length : Int) + 1, ack b), aed b, 0)
theorem ake {b : acs} (h : In b) : adp b = some (aHs b) := by
 unfold adp awd aHs
 rw [afC h.size h.num, abZ]
 by_cases hc : acw b = 0
 ·rw [aci (by simp [ine, hc]), aFo ((acu b).1 hc), abZ, if_neg (show ¬ (acw b ≠ 0) from fun h => h hc)]
 ·rw [acp (by simp [ine, hc]), if_pos hc]
def cmp0 : Cmp := (0, 0, [], [], 0, 0, 0, 0)
def aly (b : acs) (i : Int) : Cmp × Int := if acw b ≠ 0 then (cmp0, acw b) else if i < 0 ∨ (b.2.2.2.2.1.length : Int) ≤ i then (cmp0, 1) else (b.2.2.2.2.1[i.toNat]?.getD cmp0, 0)
theorem aRu {b : acs} (h : In b) (i : Int) : auU b i = some (aly b i) := by
 unfold auU aAK aly
 rw [afC h.size h.num, abZ]
 by_cases hc : acw b = 0
 ·rw [aci (by simp [ine, hc]), if_neg (show ¬ (acw b ≠ 0) from fun h => h hc), acB]
  by_cases h1 : i < 0
  ·rw [acp (by simp [ilt, h1]), if_pos (.inl h1)]; rfl
  ·rw [aci (by simp [ilt]; omega)]
   by_cases h2 : (b.2.2.2.2.1.length : Int) ≤ i
   ·rw [acp (by simp [ige, h2]), if_pos (.inr h2)]; rfl
   ·rw [aci (by simp [ige]; omega), if_neg (by omega)]
    obtain ⟨j, rfl⟩ := Int.eq_ofNat_of_zero_le (show 0 ≤ i by omega)
    have hj : j < b.2.2.2.2.1.length := by omega
    rw [ace (List.getElem?_eq_getElem hj), Int.toNat_natCast, List.getElem?_eq_getElem hj]
    rfl
 ·rw [acp (by simp [ine, hc]), if_pos hc]; rfl
theorem aKA {b : acs} {i : Int} (h : (aly b i).2 = 0) : adi b ∧ (aly b i).1 ∈ b.2.2.2.2.1 ∧ b.2.2.2.2.1[i.toNat]? = some (aly b i).1 ∧ 0 ≤ i := by
 unfold aly at h ⊢
 split at h
 ·rename_i hc; exact (hc h).elim
 ·rename_i hc
  have hc0 : acw b = 0 := by simpa using hc
  split at h
  ·simp at h
  ·rename_i hi
   have hj : i.toNat < b.2.2.2.2.1.length := by omega
   rw [if_neg hc, if_neg hi, List.getElem?_eq_getElem hj]
   exact ⟨(acu b).1 hc0, List.getElem_mem hj, rfl, by omega⟩
def aSO (b : acs) (i : Int) : (Int × Int) × Int := if (aly b i).2 ≠ 0 then ((0, 0), (aly b i).2) else (aeG b (aly b i).1, 0)
theorem aUa {b : acs} (h : In b) (i : Int) : ayY b i = some (aSO b i) := by
 unfold ayY aGK aSO
 rw [aRu h, abZ]
 by_cases hw : (aly b i).2 = 0
 ·obtain ⟨g, hm, _, _⟩ := aKA hw
  rw [aci (by simp [ine, hw]), g.says hm, abZ, if_neg (show ¬ ((aly b i).2 ≠ 0) from fun h => h hw)]
 ·rw [acp (by simp [ine, hw]), if_pos hw]
def exB : acs := ((0, 2), [(1, 0, 1000, (-5, 5), (1, 10), 1), (2, 0, 1000, (-50, 50), (1, 4), 0)], [(1, 10)], [(1, (20, 29), 3)], [(7, 10, [1], [2], -20, 1, 100, 200)], [])
theorem apu : In exB := ⟨⟨by decide, by decide, by decide, by decide, by decide, by decide⟩, by
 intro g hg
 simp [exB] at hg
 rcases hg with rfl | rfl <;> exact ⟨by decide, by decide⟩⟩
def exC : Cmp := (8, 10, [1], [2], 0, 0, 0, 0)
end Go.Proofs.ZzM
end
noncomputable section
namespace Go.Proofs.ZzM
open Go Go.Am
def aki (b : acs) (x d : Int) : Int := match agq (aca b) x d with | some j => (j : Int) + 1 | none => 0
def arn (b : acs) (n : Int × Int) : Int × Int := if acw b ≠ 0 then (0, acw b) else if aki b n.1 n.2 = 0 then (0, 5) else (aki b n.1 n.2, 0)
theorem au3 {b : acs} (h : In b) (n : Int × Int) : ad1 b n = some (arn b n) := by
 have hl := avo h.size
 unfold ad1 aA1 arn
 rw [afC h.size h.num, abZ]
 by_cases hc : acw b = 0
 ·rw [aci (by simp [ine, hc]), if_neg (show ¬ (acw b ≠ 0) from fun h => h hc), aFg h.size, abZ, show acL (aca b) n = acL (aca b) (n.1, n.2) from rfl, aKp (by omega), abZ]
  unfold aki
  cases hx : agq (aca b) n.1 n.2 with
  | none => rfl
  | some j =>
    have := (agX hx).1
    simp only
    rw [aci (by simp [ilt]), acm (by omega) (by omega), if_neg (by omega)]
 ·rw [acp (by simp [ine, hc]), if_pos hc]
end Go.Proofs.ZzM
end
noncomputable section
namespace Go.Proofs.ZzM
open Go Go.Am
def aqu (b : acs) (n : Int × Int) : acs := (b.1, b.2.1, b.2.2.1, b.2.2.2.1, b.2.2.2.2.1, b.2.2.2.2.2 ++ [n])
theorem aPU {b : acs} (h : adi b) (n : Int × Int) : ag7 (aqu b n) := by
 have hs := h.size
 have := h.nK
 exact ⟨hs.gauges, hs.uses, hs.loans, hs.compares, by simp [aqu]; omega, hs.piles⟩
def aOE (b : acs) (n : Int × Int) : acs × Int := if acw b ≠ 0 then (akj, acw b) else if acw (aqu b n) ≠ 0 then (akj, acw (aqu b n)) else (aqu b n, 0)
theorem aUd {b : acs} (h : In b) (n : Int × Int) : agI b n = some (aOE b n) := by
 have hs := h.size
 have h1 := hs.gauges; have h2 := hs.uses; have h3 := hs.loans; have h4 := hs.compares; have h5 := hs.looks
 unfold agI aGM aOE
 rw [afC hs h.num, abZ]
 by_cases hc : acw b = 0
 ·have hg := (acu b).1 hc
  rw [aci (by simp [ine, hc]), acl (by omega), Am.iff_true, acl (by omega), Am.iff_true, acl (by omega), Am.iff_true, acl (by omega), Am.iff_true, acl (by omega), Am.iff_true, if_neg (show ¬ (acw b ≠ 0) from fun h => h hc)]
  refine ac9 b.2.2.2.2.1 (fun _ => b.2.2.2.2.1) _ rfl (fun i d hi hd kn => ?_) (fun kn => ?_)
  ·dsimp only
   unfold anc
   obtain ⟨p1, p2⟩ := hs.piles d (List.mem_of_getElem? hd)
   have e1 : b.2.2.2.2.1.set i d = b.2.2.2.2.1 := by
    obtain ⟨h, rfl⟩ := List.getElem?_eq_some_iff.1 hd
    exact List.set_getElem_self h
   rw [acj hi, afK hi, aem hd, acl (by omega), Am.iff_true, acl (by omega), Am.iff_true, afK hi, aem hd, Int.toNat_natCast]
   rw [show (d.1, d.2.1, d.2.2.1, d.2.2.2) = d from rfl, e1, afK hi, amu hd, acg hi (by omega)]
   rw [show (d.1, d.2.1, d.2.2.1, d.2.2.2.1, d.2.2.2.2) = d from rfl, e1]
  ·try dsimp only
   unfold anc
   rw [acH]
   dsimp only
   rw [acl (by simp only [List.length_singleton]; omega), Am.iff_true]
   rw [show acM (b.1, b.2.1, b.2.2.1, b.2.2.2.1, b.2.2.2.2.1, b.2.2.2.2.2 ++ [n]) = acM (aqu b n) from rfl, afC (aPU hg n) h.num, abZ]
   by_cases hc2 : acw (aqu b n) = 0
   ·rw [aci (by simp [ine, hc2]), if_neg (show ¬ (acw (aqu b n) ≠ 0) from fun h => h hc2)]
    rfl
   ·rw [acp (by simp [ine, hc2]), if_pos hc2]
    rfl
 ·rw [acp (by simp [ine, hc]), if_pos hc]
  rfl
end Go.Proofs.ZzM
end
noncomputable section
namespace Go.Proofs.ZzM
open Go Go.Am
theorem au4 {b : acs} {x : List Int} : ayx b x = (true, 0) ↔ adi b ∧ akU b x = true ∧ aQm b x = true := by
 unfold ayx
 constructor
 ·intro h
  split at h
  ·cases h
  ·rename_i hc
   have hc0 : acw b = 0 := by simpa using hc
   split at h
   ·rename_i hl
    simp only [Prod.mk.injEq, and_true] at h
    exact ⟨(acu b).1 hc0, hl, h⟩
   ·cases h
 ·rintro ⟨h1, h2, h3⟩
  rw [if_neg (by simp [(acu b).2 h1]), if_pos h2, h3]
theorem aJA {b : acs} {x : List Int} : akU b x = true ↔ x.length = (aca b).length ∧ ∀ n ∈ x, -4503599627370496 ≤ n ∧ n ≤ 4503599627370496 := by
 simp [akU, inP]
theorem aJV {L : List Lk} {x : List Int} : aG4 L x = true ↔ Pot L (gv x) := by
 simp only [aG4, List.all_eq_true, decide_eq_true_eq, Pot]
 exact ⟨fun h u v m hl => h (u, v, m) hl, fun h l hl => h l.1 l.2.1 l.2.2 hl⟩
theorem aTN (a : Int) (x : List Int) {v : Int} (hv : 0 ≤ v) : gv (a :: x) v = if v = 0 then a else gv x (v - 1) := by
 unfold gv
 by_cases h : v = 0
 ·subst h; rfl
 ·obtain ⟨n, rfl⟩ := Int.eq_ofNat_of_zero_le hv
  cases n with
  | zero => simp at h
  | succ n =>
    have e : (((n + 1 : Nat) : Int) - 1).toNat = n := by omega
    rw [if_neg h, e]
    simp
end Go.Proofs.ZzM
end
noncomputable section
namespace Go.Proofs.ZzM
open Go Go.Am
section
variable {b : acs}
theorem aTE : off b b.2.1.length = (aca b).length := by unfold off aca; rw [List.take_length]
theorem aRO : ∀ n, n ≤ b.2.1.length → ∀ j, j < off b n → ∃ (i : Nat) (g : acP) (k : Nat), b.2.1[i]? = some g ∧ k < (acv b g).length ∧ j = off b i + k := by
 intro n
 induction n with
 | zero => intro _ j hj; simp [off] at hj
 | succ n ih =>
   intro hn j hj
   have hg : b.2.1[n]? = some b.2.1[n] := List.getElem?_eq_getElem (by omega)
   rw [aRN hg] at hj
   by_cases h : j < off b n
   ·exact ih (by omega) j h
   ·exact ⟨n, _, j - off b n, hg, by omega, by omega⟩
theorem aDT {v : Int} (h0 : 1 ≤ v) (h1 : v < ((aca b).length + 1 : Nat)) : ∃ (i : Nat) (g : acP) (k : Nat), b.2.1[i]? = some g ∧ k < (acv b g).length ∧ v = (off b i : Int) + k + 1 := by
 obtain ⟨i, g, k, h2, h3, h4⟩ := aRO (b := b) b.2.1.length (Nat.le_refl _) (v - 1).toNat (by rw [aTE]; omega)
 exact ⟨i, g, k, h2, h3, by omega⟩
def GL (b : acs) (L : List Lk) : Prop := ∀ (i : Nat) (g : acP), b.2.1[i]? = some g → ∀ l ∈ adm b g, l ∈ L
theorem aM0 : GL b (ack b) := fun i g hg l hl => ajw.2 (.inl ⟨i, g, hg, hl⟩)
theorem aO0 {L : List Lk} (h : adi b) (hL : GL b L) {v : Int} (h0 : 0 ≤ v) (h1 : v < ((aca b).length + 1 : Nat)) : ∃ vs d, Wl L (fun u => u = 0) vs v d ∧ d ≤ 4503599627370496 := by
 by_cases hv : v = 0
 ·exact ⟨[], 0, .nil hv, by omega⟩
 obtain ⟨i, g, k, hg, hk, rfl⟩ := aDT (by omega) h1
 have hr := h.gaugeR (List.mem_of_getElem? hg)
 have r1 := hr.2.2.2.2.2.1
 have r2 := hr.2.2.2.2.2.2.1
 have key : ∀ k : Nat, k < (acv b g).length → ∃ vs, Wl L (fun u => u = 0) vs ((off b i : Int) + k + 1) (g.2.2.1 + g.2.2.2.1.2) := by
  intro k
  induction k with
  | zero =>
    intro _
    have hw : Wl L (fun u => u = 0) [0] ((off b i : Int) + 1) (0 + (g.2.2.1 + g.2.2.2.1.2)) := Wl.step (.nil rfl) (hL i g hg _ ((adC h hg).2 (.inl rfl)))
    rw [Int.zero_add] at hw
    exact ⟨[0], by simpa using hw⟩
  | succ k ih =>
    intro hk
    obtain ⟨vs, hw⟩ := ih (by omega)
    have hw' := Wl.step hw (hL i g hg _ ((adC h hg).2 (.inr (.inr ⟨k, _, _, List.getElem?_eq_getElem (show k < _ by omega), List.getElem?_eq_getElem hk, .inl rfl⟩))))
    rw [Int.add_zero] at hw'
    have e : (off b i : Int) + ((k + 1 : Nat) : Int) + 1 = (off b i : Int) + k + 2 := by push_cast; omega
    exact ⟨_, by rw [e]; exact hw'⟩
 obtain ⟨vs, hw⟩ := key k hk
 exact ⟨vs, _, hw, by omega⟩
theorem aHI {L : List Lk} (h : adi b) (hL : GL b L) {v : Int} (h0 : 0 ≤ v) (h1 : v < ((aca b).length + 1 : Nat)) : ∃ vs d, Wl L (fun u => u = v) vs 0 d ∧ d ≤ 4503599627370496 := by
 by_cases hv : v = 0
 ·exact ⟨[], 0, .nil hv.symm, by omega⟩
 obtain ⟨i, g, k, hg, hk, rfl⟩ := aDT (by omega) h1
 have hgm := List.mem_of_getElem? hg
 have hr := h.gaugeR hgm
 have r1 := hr.2.2.2.2.2.1
 have r2 := hr.2.2.2.2.2.2.1
 have hd := aG8 h hgm
 have key : ∀ m : Nat, m ≤ k → ∃ vs d, Wl L (fun u => u = (off b i : Int) + k + 1) vs ((off b i : Int) + (k - m : Nat) + 1) d ∧ d ≤ m * (12 * (20001 * 1048576) + 40 * 1048576) := by
  intro m
  induction m with
  | zero => intro _; exact ⟨[], 0, .nil (by simp), by simp⟩
  | succ m ih =>
    intro hm
    obtain ⟨vs, d, hw, hd⟩ := ih (by omega)
    have e1 : ((k - m : Nat) : Int) = ((k - (m + 1) : Nat) : Int) + 1 := by omega
    have hl : (((off b i : Int) + (k - (m + 1) : Nat) + 2, (off b i : Int) + (k - (m + 1) : Nat) + 1, agc b g ((acv b g)[k - (m + 1)]'(by omega)) ((acv b g)[k - (m + 1) + 1]'(by omega))) : Lk) ∈ L :=
     hL i g hg _ ((adC h hg).2 (.inr (.inr ⟨k - (m + 1), _, _, List.getElem?_eq_getElem (by omega), List.getElem?_eq_getElem (by omega), .inr rfl⟩)))
    have hb := ane h hgm (f := (acv b g)[k - (m + 1)]'(by omega)) (t := (acv b g)[k - (m + 1) + 1]'(by omega)) (h.day hgm (List.getElem_mem _)).2.1
    have e2 : (off b i : Int) + (k - m : Nat) + 1 = (off b i : Int) + (k - (m + 1) : Nat) + 2 := by omega
    rw [e2] at hw
    exact ⟨_, _, .step hw hl, by push_cast; omega⟩
 obtain ⟨vs, d, hw, hdb⟩ := key k (Nat.le_refl _)
 have e : (off b i : Int) + (k - k : Nat) + 1 = (off b i : Int) + 1 := by omega
 rw [e] at hw
 have hw' := Wl.step hw (hL i g hg _ ((adC h hg).2 (.inr (.inl rfl))))
 exact ⟨_, _, hw', by omega⟩
end
structure aB2 (L : List Lk) (N : Nat) : Prop where
 to : ∀ v : Int, 0 ≤ v → v < N → ∃ vs d, Wl L (fun u => u = 0) vs v d ∧ d ≤ 4503599627370496
 from' : ∀ v : Int, 0 ≤ v → v < N → ∃ vs d, Wl L (fun u => u = v) vs 0 d ∧ d ≤ 4503599627370496
theorem adi.tied {b : acs} (h : adi b) : aB2 (ack b) ((aca b).length + 1) := ⟨fun v h0 h1 => aO0 h aM0 h0 h1, fun v h0 h1 => aHI h aM0 h0 h1⟩
theorem adi.tiedL {b : acs} {L : List Lk} (h : adi b) (hL : GL b L) : aB2 L ((aca b).length + 1) := ⟨fun v h0 h1 => aO0 h hL h0 h1, fun v h0 h1 => aHI h hL h0 h1⟩
section
variable {L : List Lk} {N : Nat}
theorem aPv {L : List Lk} {s : Int} {vs : List Int} {v d : Int} : Wl L (fun v => aPw s v = true) vs v d ↔ Wl L (fun u => u = s) vs v d :=
 ⟨fun h => h.mono fun u hu => by simpa [aPw] using hu, fun h => h.mono fun u hu => by simpa [aPw] using hu⟩
theorem aL6 (h : afH L N) (ho : adV L N = true) {v : Int} (h0 : 0 ≤ v) (h1 : v < N) : gv (alx L N v) v = 0 := by
 have h2 := h.n60
 obtain ⟨p, hp⟩ := (afd h.links (by omega)).1 ho
 have hd := aid h.links (by omega) hp (s := v) ⟨h0, h1⟩
 have h3 := hd.low v [] 0 (.nil (by simp [aPw]))
 obtain ⟨vs, hw⟩ := hd.att v h0 h1 (by unfold ae7; omega)
 obtain ⟨s, hs, hx⟩ := (aPv.1 hw).pot hp
 subst hs
 omega
end
theorem aOz {b : acs} : ∀ i, i ≤ b.2.2.2.2.1.length → ((b.2.2.2.2.1.take i).flatMap (acZ b)).length = 2 * i ∧ (((b.2.2.2.2.1.take i).mapIdx fun i _ => [((3 : Int), (i : Int)), ((3 : Int), (i : Int))]).flatten).length = 2 * i := by
 intro i
 induction i with
 | zero => intro _; simp
 | succ i ih =>
   intro hi
   have ih := ih (by omega)
   have hg : b.2.2.2.2.1[i]? = some b.2.2.2.2.1[i] := List.getElem?_eq_getElem hi
   rw [ahP _ hg, take_succ hg, List.flatMap_append, List.flatten_append, List.length_append, List.length_append]
   simp only [List.flatMap_cons, List.flatMap_nil, List.append_nil, List.flatten_cons, List.flatten_nil, acZ, List.length_cons, List.length_nil]
   omega
end Go.Proofs.ZzM
end
noncomputable section
namespace Go.Proofs.ZzM
open Go Go.Am
section
variable {L : List Lk} {N : Nat}
theorem au5 (h : afH L N) : adl ((N : Int), L) = some (adV L N, 0) := by
 have h2 := h.n60
 unfold adl alh
 rw [agl h, abZ]
 dsimp only
 rw [aci (by rfl), ars h.links h.n1 (by omega), abZ]
 cases adV L N <;> rfl
end
end Go.Proofs.ZzM
end
noncomputable section
namespace Go.Proofs.ZzM
open Go Go.Am
def alA (b : acs) (n : Int × Int) : acs × Int := if aki b n.1 n.2 ≠ 0 then (b, 0) else if acw (aqu b n) ≠ 0 then (akj, acw (aqu b n)) else (aqu b n, 0)
def agt : acs → List (Int × Int) → acs × Int
 | b, [] => (b, 0)
 | b, n :: t => if (alA b n).2 ≠ 0 then (akj, (alA b n).2) else agt (alA b n).1 t
def ady (b : acs) (ns : List (Int × Int)) : acs × Int :=
 if acw b ≠ 0 then (akj, acw b) else if (agt b ns).2 ≠ 0 then (akj, (agt b ns).2) else
 if adV (ack (agt b ns).1) ((aca (agt b ns).1).length + 1) then ((agt b ns).1, 0) else (akj, 9)
theorem aO2 {b : acs} (h : adi b) {n : Int × Int} (e : (alA b n).2 = 0) : adi (alA b n).1 := by
 unfold alA at e ⊢
 split
 ·exact h
 ·rename_i h1
  rw [if_neg h1] at e
  split
  ·rename_i h2
   rw [if_pos h2] at e
   exact absurd e h2
  ·rename_i h2
   exact (acu _).1 (by simpa using h2)
theorem aKE {b : acs} {n : Int × Int} (e : (alA b n).2 = 0) : (alA b n).1.2.1 = b.2.1 := by
 unfold alA at e ⊢
 split
 ·rfl
 ·rename_i h1
  rw [if_neg h1] at e
  split
  ·rename_i h2
   rw [if_pos h2] at e
   exact absurd e h2
  ·rfl
theorem azi : ∀ {ns : List (Int × Int)} {b : acs}, adi b → (agt b ns).2 = 0 → adi (agt b ns).1
 | [], b, h, _ => h
 | n :: t, b, h, e => by
   unfold agt at e ⊢
   split
   ·rename_i h1; rw [if_pos h1] at e; exact absurd e h1
   ·rename_i h1
    rw [if_neg h1] at e
    exact azi (aO2 h (by simpa using h1)) e
theorem arw : ∀ {ns : List (Int × Int)} {b : acs}, (agt b ns).2 = 0 → (agt b ns).1.2.1 = b.2.1
 | [], b, _ => rfl
 | n :: t, b, e => by
   unfold agt at e ⊢
   split
   ·rename_i h1; rw [if_pos h1] at e; exact absurd e h1
   ·rename_i h1
    rw [if_neg h1] at e
    rw [arw e, aKE (by simpa using h1)]
theorem adi.inn {b : acs} (h : adi b) (hn : ∀ g ∈ b.2.1, I64 g.2.2.2.2.1.1) : In b := ⟨h.size, hn⟩
theorem af5 {b : acs} (h : adi b) : aHs b = ((((aca b).length : Int) + 1, ack b), aed b, 0) := by
 unfold aHs
 rw [if_neg (by simp [(acu b).2 h])]
theorem anz {b : acs} (h : adi b) (n : Int × Int) : arn b n = if aki b n.1 n.2 = 0 then (0, 5) else (aki b n.1 n.2, 0) := by
 unfold arn
 rw [if_neg (by simp [(acu b).2 h])]
abbrev Flat : Type := Int × Int × List acP × List (Int × Int) × List ayv × List Cmp × List (Int × Int)
def flat (b : acs) : Flat := (b.1.1, b.1.2, b.2.1, b.2.2.1, b.2.2.2.1, b.2.2.2.2.1, b.2.2.2.2.2)
theorem apk (b : acs) : (((flat b).1, (flat b).2.1), (flat b).2.2) = b := rfl
section
variable {ρ : Type}
def aTq (ns : List (Int × Int)) (E1 : Int × Flat → Option ρ) (K1 : Flat → Option ρ) (b : acs) : Option ρ :=
 ach (fun (v : Int × Flat) kk => ac2 (aco ns) ns v.1 v.2.1 v.2.2.1 v.2.2.2.1 v.2.2.2.2.1 v.2.2.2.2.2.1 v.2.2.2.2.2.2.1 v.2.2.2.2.2.2.2 (fun u1 u2 u3 u4 u5 u6 u7 u8 => kk (u1, u2, u3, u4, u5, u6, u7, u8)) (fun z => E1 z) (fun z => K1 z)) ((0 : Int), b.1.1, b.1.2, b.2.1, b.2.2.1, b.2.2.2.1, b.2.2.2.2.1, b.2.2.2.2.2)
theorem aPf {ns : List (Int × Int)} (hl : ns.length ≤ 1000) {E1 : Int × Flat → Option ρ} {K1 : Flat → Option ρ} (R : Int → Option ρ) (h1 : ∀ z, z.1 ≠ 0 → E1 z = R z.1) {b : acs} (hg : adi b) (hn : ∀ g ∈ b.2.1, I64 g.2.2.2.2.1.1) :
 aTq ns E1 K1 b = if (agt b ns).2 ≠ 0 then R (agt b ns).2 else K1 (flat (agt b ns).1) := by
 unfold aTq
 refine aGQ ns (fun (i : Nat) (s : Flat) (t : List (Int × Int)) => if (agt ((s.1, s.2.1), s.2.2) t).2 ≠ 0 then R (agt ((s.1, s.2.1), s.2.2) t).2 else K1 (flat (agt ((s.1, s.2.1), s.2.2) t).1))
  (fun i s => adi ((s.1, s.2.1), s.2.2) ∧ ∀ g ∈ s.2.2.1, I64 g.2.2.2.2.1.1) (fun s hs kn => ?_) (fun i n t s hd hi ha hs kn hk => ?_) (s := flat b) ⟨hg, hn⟩
 ·dsimp only
  unfold ac2
  rw [acH]
  rfl
 ·dsimp only
  unfold ac2
  obtain ⟨hs1, hs2⟩ := hs
  have hin : In ((s.1, s.2.1), s.2.2) := hs1.inn hs2
  rw [acj hi, afK hi, aem ha]
  rw [show ad1 ((s.1, s.2.1), s.2.2.1, s.2.2.2.1, s.2.2.2.2.1, s.2.2.2.2.2.1, s.2.2.2.2.2.2) n = ad1 ((s.1, s.2.1), s.2.2) n from rfl, au3 hin, abZ]
  rw [show agI ((s.1, s.2.1), s.2.2.1, s.2.2.2.1, s.2.2.2.2.1, s.2.2.2.2.2.1, s.2.2.2.2.2.2) n = agI ((s.1, s.2.1), s.2.2) n from rfl, aUd hin, abZ]
  rw [anz hs1]
  generalize hB : (((s.1, s.2.1), s.2.2) : acs) = B at hs1 hin ⊢
  have hu : agt B (n :: t) = if (alA B n).2 ≠ 0 then (akj, (alA B n).2) else agt (alA B n).1 t := rfl
  rw [hu]
  by_cases h0 : aki B n.1 n.2 = 0
  ·rw [if_pos h0, aci (by rfl)]
   by_cases h2 : acw (aqu B n) = 0
   ·have e : alA B n = (aqu B n, 0) := by unfold alA; rw [if_neg (by simp [h0]), if_neg (by simp [h2])]
    have e2 : aOE B n = (aqu B n, 0) := by unfold aOE; rw [if_neg (by simp [(acu B).2 hs1]), if_neg (by simp [h2])]
    rw [e2, e, aci (by rfl), acg hi (by omega), if_neg (show ¬ ((0 : Int) ≠ 0) by simp)]
    subst hB
    exact hk (s.1, s.2.1, s.2.2.1, s.2.2.2.1, s.2.2.2.2.1, s.2.2.2.2.2.1, s.2.2.2.2.2.2 ++ [n]) ⟨(acu _).1 h2, hs2⟩
   ·have e : alA B n = (akj, acw (aqu B n)) := by unfold alA; rw [if_neg (by simp [h0]), if_pos h2]
    have e2 : aOE B n = (akj, acw (aqu B n)) := by unfold aOE; rw [if_neg (by simp [(acu B).2 hs1]), if_pos h2]
    rw [e2, e, acp (by simp [ine, h2]), if_pos h2, if_pos h2]
    exact h1 _ h2
  ·have e : alA B n = (B, 0) := by unfold alA; rw [if_pos h0]
   rw [if_neg h0, acp (by rfl), acg hi (by omega), e, if_neg (show ¬ ((0 : Int) ≠ 0) by simp)]
   subst hB
   exact hk s ⟨hs1, hs2⟩
theorem amt {b : acs} (hI : In b) {ns : List (Int × Int)} (hl : ns.length ≤ 1000) {E0 : Int → Option ρ} {E1 : Int × Flat → Option ρ} {E2 : Flat → Sys × List (Int × Int) × Int → Option ρ} {E3 : Flat → Sys × List (Int × Int) × Int → Bool × Int → Option ρ}
 {K : Flat → Sys × List (Int × Int) × Int → Bool × Int → Option ρ} (R : Int → Option ρ) (h0 : ∀ e, e ≠ 0 → E0 e = R e) (h1 : ∀ z, z.1 ≠ 0 → E1 z = R z.1) (h3 : ∀ z s r, E3 z s r = R 9) :
 ab2 (acM b) (fun r1 => ifb (ine r1 (0 : Int)) (E0 r1) (aTq ns E1 (fun z8 => ab2 (adp ((z8.1, z8.2.1), z8.2.2)) fun r9 => ifb (ine r9.2.2 (0 : Int)) (E2 z8 r9) (ab2 (adl r9.1) fun r10 => ifb (!r10.1) (E3 z8 r9 r10) (K z8 r9 r10))) b)) =
 if (ady b ns).2 ≠ 0 then R (ady b ns).2 else K (flat (ady b ns).1) ((((aca (ady b ns).1).length : Int) + 1, ack (ady b ns).1), aed (ady b ns).1, 0) (true, 0) := by
 rw [afC hI.size hI.num, abZ]
 unfold ady
 by_cases hc : acw b = 0
 ·have hg := (acu b).1 hc
  rw [aci (by simp [ine, hc]), if_neg (show ¬ (acw b ≠ 0) from fun h => h hc), aPf hl R h1 hg hI.num]
  by_cases hr : (agt b ns).2 = 0
  ·rw [if_neg (show ¬ ((agt b ns).2 ≠ 0) from fun h => h hr), if_neg (show ¬ ((agt b ns).2 ≠ 0) from fun h => h hr)]
   have hB := azi hg hr
   have hBn : ∀ g ∈ (agt b ns).1.2.1, I64 g.2.2.2.2.1.1 := by rw [arw hr]; exact hI.num
   generalize (agt b ns).1 = B at hB hBn ⊢
   rw [apk, ake (hB.inn hBn), abZ, af5 hB, aci (by rfl)]
   dsimp only
   rw [show (((aca B).length : Int) + 1) = (((aca B).length + 1 : Nat) : Int) by push_cast; rfl, au5 hB.sys, abZ]
   cases ho : adV (ack B) ((aca B).length + 1) with
   | true =>
     rw [if_neg (by simp)]
     simp only [Bool.not_true, acF]
     push_cast
     rfl
   | false =>
     rw [if_pos (by simp)]
     simp only [Bool.not_false, adH]
     rw [h3]
     rfl
  ·rw [if_pos hr, if_pos hr, if_pos hr]
 ·rw [acp (by simp [ine, hc]), h0 _ hc, if_pos hc, if_pos hc]
end
end Go.Proofs.ZzM
end
noncomputable section
namespace Go.Proofs.ZzM
open Go Go.Am
def aKB (b : acs) (id day : Int) : Bool := b.2.2.1.any fun u => u.1 == id && u.2 == day
def aQz (b : acs) (g : acP) (d : Int) : Int := match ayu b g.1 d with | some l => l.2.2 | none => if aKB b g.1 d then g.2.2.2.2.2 else 0
theorem aPV (l : ayv) (id : Int) {f t : Int} (hft : f ≤ t) : (if l.1 = id ∧ 0 < ada l f (t + 1) then ada l f (t + 1) * l.2.2 else 0) = (if l.1 = id ∧ 0 < ada l f t then ada l f t * l.2.2 else 0) + (if l.1 = id ∧ l.2.1.1 ≤ t ∧ t ≤ l.2.1.2 then l.2.2 else 0) := by
 by_cases hid : l.1 = id
 ·by_cases h1 : l.2.1.1 ≤ t ∧ t ≤ l.2.1.2
  ·have e : ada l f (t + 1) = ada l f t + 1 := by unfold ada; omega
   have p : 0 ≤ ada l f t := by unfold ada; omega
   rw [e, if_pos ⟨hid, by omega⟩, if_pos (show l.1 = id ∧ l.2.1.1 ≤ t ∧ t ≤ l.2.1.2 from ⟨hid, h1⟩), Int.add_mul, Int.one_mul]
   by_cases hp : 0 < ada l f t
   ·rw [if_pos ⟨hid, hp⟩]
   ·rw [if_neg (fun h => hp h.2)]
    have : ada l f t = 0 := by omega
    rw [this]
    omega
  ·rw [if_neg (show ¬ (l.1 = id ∧ l.2.1.1 ≤ t ∧ t ≤ l.2.1.2) from fun h => h1 h.2), Int.add_zero]
   by_cases hlo : l.2.1.1 ≤ t
   ·have e : ada l f (t + 1) = ada l f t := by unfold ada; omega
    rw [e]
   ·have p1 : ¬ 0 < ada l f (t + 1) := by unfold ada; omega
    have p2 : ¬ 0 < ada l f t := by unfold ada; omega
    rw [if_neg (fun h => p1 h.2), if_neg (fun h => p2 h.2)]
 ·rw [if_neg (fun h => hid h.1), if_neg (fun h => hid h.1), if_neg (fun h => hid h.1)]
  rfl
theorem aEe (id : Int) {f t : Int} (hft : f ≤ t) : ∀ {x : List ayv}, x.Pairwise (fun a c => ¬ (a.1 = c.1 ∧ a.2.1.1 ≤ c.2.1.2 ∧ c.2.1.1 ≤ a.2.1.2)) →
 acS id f (t + 1) x = acS id f t x + (match x.find? (fun l => l.1 == id && inP t l.2.1.1 l.2.1.2) with | some l => l.2.2 | none => 0)
 | [], _ => rfl
 | l :: r, hp => by
   rw [List.pairwise_cons] at hp
   have ih := aEe id hft hp.2
   simp only [acS]
   rw [ih, aPV l id hft, List.find?_cons]
   by_cases hm : l.1 = id ∧ l.2.1.1 ≤ t ∧ t ≤ l.2.1.2
   ·have e : (l.1 == id && inP t l.2.1.1 l.2.1.2) = true := by simp [inP, hm.1, hm.2.1, hm.2.2]
    have hn : r.find? (fun l => l.1 == id && inP t l.2.1.1 l.2.1.2) = none := by
     rw [List.find?_eq_none]
     intro c hc hcm
     simp only [inP, Bool.and_eq_true, beq_iff_eq, decide_eq_true_eq] at hcm
     exact hp.1 c hc ⟨by rw [hm.1, hcm.1], by omega, by omega⟩
    rw [if_pos hm, e, hn]
    simp only
    omega
   ·have e : (l.1 == id && inP t l.2.1.1 l.2.1.2) = false := by
     rw [Bool.eq_false_iff]
     intro h
     simp only [inP, Bool.and_eq_true, beq_iff_eq, decide_eq_true_eq] at h
     exact hm h
    rw [if_neg hm, e]
    simp only
    omega
section
variable {b : acs}
theorem adi.apart (h : adi b) : b.2.2.2.1.Pairwise (fun a c => ¬ (a.1 = c.1 ∧ a.2.1.1 ≤ c.2.1.2 ∧ c.2.1.1 ≤ a.2.1.2)) := by
 rw [List.pairwise_iff_getElem]
 intro i j hi hj hij ⟨h1, h2, h3⟩
 have hz := h.loans j _ (List.getElem?_eq_getElem hj)
 unfold aJx at hz
 have hany : (b.2.2.2.1.take j).any (fun x => x.1 == b.2.2.2.1[j].1 && (decide (x.2.1.1 ≤ b.2.2.2.1[j].2.1.2) && decide (b.2.2.2.1[j].2.1.1 ≤ x.2.1.2))) = true := by
  rw [List.any_eq_true]
  exact ⟨b.2.2.2.1[i], List.mem_iff_getElem.2 ⟨i, by rw [List.length_take]; omega, by rw [List.getElem_take]⟩, by simp [h1, h2, h3]⟩
 rw [hany] at hz
 (repeat' split at hz) <;> first | omega | simp_all
theorem adi.notUsed (h : adi b) {id d : Int} {l : ayv} (hl : ayu b id d = some l) : aKB b id d = false := by
 have hm := List.mem_of_find?_eq_some hl
 have hp := List.find?_some hl
 simp only [inP, Bool.and_eq_true, beq_iff_eq, decide_eq_true_eq] at hp
 obtain ⟨j, hj, rfl⟩ := List.mem_iff_getElem.1 hm
 have hz := h.loans j _ (List.getElem?_eq_getElem hj)
 rw [Bool.eq_false_iff]
 intro hu
 obtain ⟨u, hu, hue⟩ := List.any_eq_true.1 hu
 simp only [Bool.and_eq_true, beq_iff_eq] at hue
 have hany : b.2.2.1.any (fun u => u.1 == b.2.2.2.1[j].1 && inP u.2 b.2.2.2.1[j].2.1.1 b.2.2.2.1[j].2.1.2) = true := by
  rw [List.any_eq_true]
  exact ⟨u, hu, by simp only [inP, Bool.and_eq_true, beq_iff_eq, decide_eq_true_eq]; exact ⟨by rw [hue.1, hp.1], by omega, by omega⟩⟩
 unfold aJx at hz
 rw [hany] at hz
 (repeat' split at hz) <;> first | omega | simp_all
theorem aHC {id f t : Int} (hft : f ≤ t) : aHx (aeT b id f (t + 1)) = aHx (aeT b id f t) ++ if aKB b id t then [t] else [] := by
 have hm : ∀ t x, x ∈ aeT b id f t ↔ aKB b id x = true ∧ f ≤ x ∧ x < t := by
  intro t x
  unfold aeT aKB
  simp only [List.mem_map, List.mem_filter, List.any_eq_true, inP, Bool.and_eq_true, beq_iff_eq, decide_eq_true_eq]
  constructor
  ·rintro ⟨u, ⟨h1, h2, h3, h4⟩, rfl⟩
   exact ⟨⟨u, h1, h2, rfl⟩, h3, by omega⟩
  ·rintro ⟨⟨u, h1, h2, rfl⟩, h3, h4⟩
   exact ⟨u, ⟨h1, h2, h3, by omega⟩, rfl⟩
 refine aQ9 (aze _) ?_ fun x => ?_
 ·rw [List.pairwise_append]
  refine ⟨aze _, by split <;> simp, fun a ha c hc => ?_⟩
  rw [apL, hm] at ha
  split at hc
  ·rw [List.mem_singleton] at hc; omega
  ·cases hc
 ·rw [apL, hm, List.mem_append, apL, hm]
  by_cases hu : aKB b id t = true
  ·rw [if_pos hu, List.mem_singleton]
   constructor
   ·rintro ⟨h1, h2, h3⟩
    by_cases he : x = t
    ·exact .inr he
    ·exact .inl ⟨h1, h2, by omega⟩
   ·rintro (⟨h1, h2, h3⟩ | rfl)
    ·exact ⟨h1, h2, by omega⟩
    ·exact ⟨hu, hft, by omega⟩
  ·rw [if_neg hu]
   constructor
   ·rintro ⟨h1, h2, h3⟩
    refine .inl ⟨h1, h2, ?_⟩
    by_cases he : x = t
    ·rw [he] at h1; exact absurd h1 hu
    ·omega
   ·rintro (⟨h1, h2, h3⟩ | h)
    ·exact ⟨h1, h2, by omega⟩
    ·cases h
theorem aJs (h : adi b) (g : acP) {f t : Int} (hft : f ≤ t) : agc b g f (t + 1) = agc b g f t + aQz b g t := by
 unfold agc aQz
 rw [aEe g.1 hft h.apart, aHC hft]
 show acS g.1 f t b.2.2.2.1 + (match ayu b g.1 t with | some l => l.2.2 | none => 0) + _ = _
 cases ha : ayu b g.1 t with
 | some l =>
   rw [h.notUsed ha]
   simp only [Bool.false_eq_true, if_false, List.append_nil]
   omega
 | none =>
   simp only
   cases aKB b g.1 t with
   | true => simp only [if_true, List.length_append, List.length_singleton, Int.natCast_add, Int.add_mul]; omega
   | false => simp only [Bool.false_eq_true, if_false, List.append_nil]; omega
theorem aJt (g : acP) {f t : Int} (hft : t ≤ f) : agc b g f t = 0 := by
 unfold agc
 have h1 : ∀ x : List ayv, acS g.1 f t x = 0 := by
  intro x
  induction x with
  | nil => rfl
  | cons l r ih =>
    simp only [acS]
    rw [ih, if_neg (by unfold ada; omega)]
    rfl
 have h2 : aeT b g.1 f t = [] := by
  unfold aeT
  rw [List.filter_eq_nil_iff.2 fun u hu hc => by
   simp only [inP, Bool.and_eq_true, beq_iff_eq, decide_eq_true_eq] at hc
   omega]
  rfl
 rw [h1, h2]
 have h3 : aHx ([] : List Int) = [] := rfl
 rw [h3]
 simp
end
end Go.Proofs.ZzM
end
noncomputable section
namespace Go.Proofs.ZzM
open Go Go.Am
section
variable {b : acs}
theorem ayP (h : adi b) (g : acP) {f t u : Int} (h1 : f ≤ t) (h2 : t ≤ u) : agc b g f u = agc b g f t + agc b g t u := by
 obtain ⟨n, rfl⟩ : ∃ n : Nat, u = t + n := ⟨(u - t).toNat, by omega⟩
 clear h2
 induction n with
 | zero => simp [aJt]
 | succ n ih =>
   have e : t + ((n + 1 : Nat) : Int) = (t + n) + 1 := by omega
   rw [e, aJs h g (show f ≤ t + (n : Int) by omega), aJs h g (show t ≤ t + (n : Int) by omega), ih]
   omega
theorem asf (h : adi b) {g : acP} (hg : g ∈ b.2.1) {f t : Int} (hf : 0 ≤ f) : 0 ≤ agc b g f t := (ane h hg hf).1
def aet (b : acs) (id d : Int) : Int := match agq (aca b) id d with | some j => (j : Int) + 1 | none => 0
theorem akq (h : adi b) {i : Nat} {g : acP} (hg : b.2.1[i]? = some g) {k : Nat} {d : Int} (hk : (acv b g)[k]? = some d) : aet b g.1 d = (off b i : Int) + k + 1 := by
 unfold aet
 rw [aFh h hg hk]
 simp only
 omega
structure akf (b : acs) (p : Int → Int) (g : acP) : Prop where
 hi : p (aet b g.1 g.2.1) ≤ p 0 + (g.2.2.1 + g.2.2.2.1.2)
 lo : p 0 + (g.2.2.1 + g.2.2.2.1.1) ≤ p (aet b g.1 g.2.1)
 down : ∀ d e, d ∈ acv b g → e ∈ acv b g → d ≤ e → p (aet b g.1 e) ≤ p (aet b g.1 d)
 loss : ∀ d e, d ∈ acv b g → e ∈ acv b g → d ≤ e → p (aet b g.1 d) ≤ p (aet b g.1 e) + agc b g d e
theorem ajh (h : adi b) {i : Nat} {g : acP} (hg : b.2.1[i]? = some g) {p : Int → Int} : (∀ l ∈ adm b g, p l.2.1 ≤ p l.1 + l.2.2) ↔ akf b p g := by
 have hgm := List.mem_of_getElem? hg
 obtain ⟨tl, htl⟩ := aJ1 h hgm
 have h0 : aet b g.1 g.2.1 = (off b i : Int) + 1 := by
  have := akq h hg (k := 0) (d := g.2.1) (by rw [htl]; rfl)
  rw [this]
  omega
 constructor
 ·intro hl
  have e1 := hl _ ((adC h hg).2 (.inl rfl))
  have e2 := hl _ ((adC h hg).2 (.inr (.inl rfl)))
  simp only at e1 e2
  have step : ∀ (k : Nat) (d e : Int), (acv b g)[k]? = some d → (acv b g)[k + 1]? = some e → p (aet b g.1 e) ≤ p (aet b g.1 d) ∧ p (aet b g.1 d) ≤ p (aet b g.1 e) + agc b g d e := by
   intro k d e hd he
   have a1 := hl _ ((adC h hg).2 (.inr (.inr ⟨k, d, e, hd, he, .inl rfl⟩)))
   have a2 := hl _ ((adC h hg).2 (.inr (.inr ⟨k, d, e, hd, he, .inr rfl⟩)))
   simp only at a1 a2
   rw [akq h hg hd, akq h hg he]
   have e3 : (off b i : Int) + ((k + 1 : Nat) : Int) + 1 = (off b i : Int) + k + 2 := by omega
   rw [e3]
   exact ⟨by omega, a2⟩
  have pair : ∀ (n k : Nat) (d e : Int), (acv b g)[k]? = some d → (acv b g)[k + n]? = some e → p (aet b g.1 e) ≤ p (aet b g.1 d) ∧ p (aet b g.1 d) ≤ p (aet b g.1 e) + agc b g d e := by
   intro n
   induction n with
   | zero =>
     intro k d e hd he
     rw [Nat.add_zero, hd] at he
     cases he
     rw [aJt g (Int.le_refl _)]
     omega
   | succ n ih =>
     intro k d e hd he
     have hlt := (List.getElem?_eq_some_iff.1 he).1
     have hm : (acv b g)[k + n]? = some ((acv b g)[k + n]'(by omega)) := List.getElem?_eq_getElem (by omega)
     obtain ⟨a1, a2⟩ := ih k d _ hd hm
     obtain ⟨a3, a4⟩ := step (k + n) _ e hm he
     have o1 : d ≤ (acv b g)[k + n]'(by omega) := by
      obtain ⟨hkl, hkd⟩ := List.getElem?_eq_some_iff.1 hd
      rcases Nat.eq_zero_or_pos n with rfl | hn
      ·rw [← hkd]; exact Int.le_of_eq (by congr 1)
      ·have := (List.pairwise_iff_getElem.1 (asr b g)) k (k + n) hkl (by omega) (by omega)
       rw [hkd] at this; omega
     have o2 : (acv b g)[k + n]'(by omega) ≤ e := by
      obtain ⟨hel, hee⟩ := List.getElem?_eq_some_iff.1 he
      have := (List.pairwise_iff_getElem.1 (asr b g)) (k + n) (k + (n + 1)) (by omega) hel (by omega)
      rw [hee] at this; omega
     have := ayP h g o1 o2
     omega
  have any : ∀ d e, d ∈ acv b g → e ∈ acv b g → d ≤ e → p (aet b g.1 e) ≤ p (aet b g.1 d) ∧ p (aet b g.1 d) ≤ p (aet b g.1 e) + agc b g d e := by
   intro d e hd he hde
   obtain ⟨k, hk, rfl⟩ := List.mem_iff_getElem.1 hd
   obtain ⟨m, hm, rfl⟩ := List.mem_iff_getElem.1 he
   have hkm : k ≤ m := by
    rcases Nat.lt_or_ge m k with hlt | hge
    ·have := (List.pairwise_iff_getElem.1 (asr b g)) m k hm hk hlt; omega
    ·exact hge
   exact pair (m - k) k _ _ (List.getElem?_eq_getElem hk) (by rw [show k + (m - k) = m by omega]; exact List.getElem?_eq_getElem hm)
  exact ⟨by rw [h0]; omega, by rw [h0]; omega, fun d e hd he hde => (any d e hd he hde).1, fun d e hd he hde => (any d e hd he hde).2⟩
 ·intro hf l hl
  rcases (adC h hg).1 hl with rfl | rfl | ⟨k, d, e, hd, he, rfl | rfl⟩
  ·have := hf.hi; rw [h0] at this; simp only; omega
  ·have := hf.lo; rw [h0] at this; simp only; omega
  ·have hde : d ≤ e := by
    obtain ⟨a1, a2⟩ := List.getElem?_eq_some_iff.1 hd
    obtain ⟨a3, a4⟩ := List.getElem?_eq_some_iff.1 he
    have := (List.pairwise_iff_getElem.1 (asr b g)) k (k + 1) a1 a3 (by omega)
    rw [a2, a4] at this; omega
   have := hf.down d e (List.mem_of_getElem? hd) (List.mem_of_getElem? he) hde
   rw [akq h hg hd, akq h hg he] at this
   have e3 : (off b i : Int) + ((k + 1 : Nat) : Int) + 1 = (off b i : Int) + k + 2 := by omega
   rw [e3] at this
   simp only
   omega
  ·have hde : d ≤ e := by
    obtain ⟨a1, a2⟩ := List.getElem?_eq_some_iff.1 hd
    obtain ⟨a3, a4⟩ := List.getElem?_eq_some_iff.1 he
    have := (List.pairwise_iff_getElem.1 (asr b g)) k (k + 1) a1 a3 (by omega)
    rw [a2, a4] at this; omega
   have := hf.loss d e (List.mem_of_getElem? hd) (List.mem_of_getElem? he) hde
   rw [akq h hg hd, akq h hg he] at this
   have e3 : (off b i : Int) + ((k + 1 : Nat) : Int) + 1 = (off b i : Int) + k + 2 := by omega
   rw [e3] at this
   simp only
   exact this
theorem aE4 (h : adi b) {p : Int → Int} : Pot (ack b) p ↔ (∀ g ∈ b.2.1, akf b p g) ∧ ∀ c ∈ b.2.2.2.2.1, p (cx b c) ≤ p (cy b c) + (aeG b c).2 ∧ p (cy b c) + (aeG b c).1 ≤ p (cx b c) := by
 constructor
 ·intro hp
  refine ⟨fun g hg => ?_, fun c hc => ?_⟩
  ·obtain ⟨i, hi, rfl⟩ := List.mem_iff_getElem.1 hg
   exact (ajh h (List.getElem?_eq_getElem hi)).1 fun l hl => hp l.1 l.2.1 l.2.2 (ajw.2 (.inl ⟨i, _, List.getElem?_eq_getElem hi, hl⟩))
  ·have a1 := hp _ _ _ (ajw.2 (.inr ⟨c, hc, .inl rfl⟩))
   have a2 := hp _ _ _ (ajw.2 (.inr ⟨c, hc, .inr rfl⟩))
   omega
 ·rintro ⟨hg, hc⟩ u v m hl
  rcases ajw.1 hl with ⟨i, g, hig, hl⟩ | ⟨c, hcm, hl⟩
  ·exact (ajh h hig).2 (hg g (List.mem_of_getElem? hig)) (u, v, m) hl
  ·obtain ⟨a1, a2⟩ := hc c hcm
   rcases hl with hl | hl
   ·obtain ⟨rfl, rfl, rfl⟩ : u = cy b c ∧ v = cx b c ∧ m = (aeG b c).2 := by simpa using hl
    exact a1
   ·obtain ⟨rfl, rfl, rfl⟩ : u = cx b c ∧ v = cy b c ∧ m = -(aeG b c).1 := by simpa using hl
    omega
end
end Go.Proofs.ZzM
end
noncomputable section
namespace Go.Proofs.ZzM
open Go Go.Am
def aS1 : List Int → Int
 | [] => 0
 | [a] => a
 | a :: b :: t => max a (aS1 (b :: t))
theorem aIv : ∀ {l : List Int}, l ≠ [] → (∀ a ∈ l, a ≤ aS1 l) ∧ aS1 l ∈ l
 | [], h => absurd rfl h
 | [a], _ => ⟨fun x hx => by rw [List.mem_singleton] at hx; rw [hx]; exact Int.le_refl _, by simp [aS1]⟩
 | a :: b :: t, _ => by
   obtain ⟨h1, h2⟩ := aIv (l := b :: t) (by simp)
   have e : aS1 (a :: b :: t) = max a (aS1 (b :: t)) := rfl
   rw [e]
   constructor
   ·intro x hx
    rcases List.mem_cons.1 hx with rfl | hx
    ·omega
    ·have := h1 x hx; omega
   ·rcases Int.le_total a (aS1 (b :: t)) with h | h
    ·rw [Int.max_eq_right h]; exact List.mem_cons_of_mem _ h2
    ·rw [Int.max_eq_left h]; exact List.mem_cons_self
section
variable {b : acs}
def ayF (b : acs) (f : Int → Int → Int) (z : Int) (v : Int) : Int := if v = 0 then z else match (aca b)[(v - 1).toNat]? with | some n => f n.1 n.2 | none => 0
theorem agu (f : Int → Int → Int) (z : Int) : ayF b f z 0 = z := by unfold ayF; rw [if_pos rfl]
theorem ajF (h : adi b) (f : Int → Int → Int) (z : Int) {g : acP} (hg : g ∈ b.2.1) {d : Int} (hd : d ∈ acv b g) : ayF b f z (aet b g.1 d) = f g.1 d := by
 obtain ⟨i, hi, rfl⟩ := List.mem_iff_getElem.1 hg
 obtain ⟨k, hk, rfl⟩ := List.mem_iff_getElem.1 hd
 have hgi := List.getElem?_eq_getElem hi
 have hdk := List.getElem?_eq_getElem hk
 rw [akq h hgi hdk]
 unfold ayF
 have e : ((off b i : Int) + k + 1 - 1).toNat = off b i + k := by omega
 rw [if_neg (by omega), e, aRQ hgi hdk]
def ayt (b : acs) (l : List Int) (d : Int) : Int := match l with | [] => 0 | x :: _ => aet b x d
theorem aNp (l : List Int) (d : Int) : atP (aca b) l d = ayt b l d := by
 unfold atP ayt aet
 cases l <;> rfl
theorem awy (c : Cmp) : cx b c = ayt b (ac4 c.2.2.1 c.2.2.2.1) c.2.1 := aNp _ _
theorem awx (c : Cmp) : cy b c = ayt b (ac4 c.2.2.2.1 c.2.2.1) c.2.1 := aNp _ _
theorem ajg (h : adi b) {c : Cmp} (hc : c ∈ b.2.2.2.2.1) {x : Int} (hx : x ∈ ac4 c.2.2.1 c.2.2.2.1 ∨ x ∈ ac4 c.2.2.2.1 c.2.2.1) : ∃ g ∈ b.2.1, g.1 = x ∧ c.2.1 ∈ acv b g := by
 have hx' : (x ∈ c.2.2.1 ∧ x ∉ c.2.2.2.1) ∨ (x ∈ c.2.2.2.1 ∧ x ∉ c.2.2.1) := by
  rcases hx with hx | hx
  ·exact .inl (agz.1 hx)
  ·exact .inr (agz.1 hx)
 have hm : x ∈ c.2.2.1 ++ c.2.2.2.1 := by rw [List.mem_append]; exact hx'.imp (·.1) (·.1)
 obtain ⟨⟨g, hg, _⟩, _⟩ := h.pile hc hm
 obtain ⟨hgm, hid⟩ := akW hg
 refine ⟨g, hgm, hid, aiK.2 (.inr (.inl ⟨c, hc, ?_, rfl⟩))⟩
 rw [hid]
 intro he
 rw [Bool.eq_iff_iff, List.contains_iff_mem, List.contains_iff_mem] at he
 rcases hx' with ⟨a, e⟩ | ⟨a, e⟩
 ·exact e (he.1 a)
 ·exact e (he.2 a)
def fill (b : acs) (p : Int → Int) (g : acP) (d : Int) : Int := aS1 ((acv b g).map fun e => if d ≤ e then p (aet b g.1 e) else p (aet b g.1 e) - agc b g e d)
theorem aBo {p : Int → Int} {g : acP} (d : Int) : (∀ e ∈ acv b g, (if d ≤ e then p (aet b g.1 e) else p (aet b g.1 e) - agc b g e d) ≤ fill b p g d) ∧ ∃ e ∈ acv b g, fill b p g d = if d ≤ e then p (aet b g.1 e) else p (aet b g.1 e) - agc b g e d := by
 have hne : ((acv b g).map fun e => if d ≤ e then p (aet b g.1 e) else p (aet b g.1 e) - agc b g e d) ≠ [] := by
  intro h
  have := List.map_eq_nil_iff.1 h
  have h2 := ain (b := b) g
  rw [this] at h2
  cases h2
 obtain ⟨h1, h2⟩ := aIv hne
 refine ⟨fun e he => h1 _ (List.mem_map.2 ⟨e, he, rfl⟩), ?_⟩
 obtain ⟨e, he, hx⟩ := List.mem_map.1 h2
 exact ⟨e, he, hx.symm⟩
theorem ayU (h : adi b) {p : Int → Int} {g : acP} (hg : g ∈ b.2.1) (hf : akf b p g) {d : Int} (hd : d ∈ acv b g) : fill b p g d = p (aet b g.1 d) := by
 obtain ⟨h1, e, he, h2⟩ := aBo (b := b) (p := p) (g := g) d
 have h3 := h1 d hd
 rw [if_pos (Int.le_refl _)] at h3
 have h4 : fill b p g d ≤ p (aet b g.1 d) := by
  rw [h2]
  split
  ·rename_i hde
   exact hf.down d e hd he hde
  ·rename_i hde
   have := hf.loss e d he hd (by omega)
   omega
 omega
theorem auJ (h : adi b) {p : Int → Int} {g : acP} (hg : g ∈ b.2.1) (hf : akf b p g) {d e : Int} (h0 : g.2.1 ≤ d) (hde : d ≤ e) : fill b p g e ≤ fill b p g d ∧ fill b p g d ≤ fill b p g e + agc b g d e := by
 obtain ⟨a1, x, hx, a2⟩ := aBo (b := b) (p := p) (g := g) d
 obtain ⟨b1, y, hy, b2⟩ := aBo (b := b) (p := p) (g := g) e
 have hm := (h.gaugeR hg).2.2.2.2.1
 have hl := asf h hg (f := d) (t := e) (by omega)
 have dx := h.day hg hx
 have dy := h.day hg hy
 constructor
 ·have q := a1 y hy
  rw [b2]
  by_cases c1 : e ≤ y
  ·rw [if_pos c1]
   rw [if_pos (by omega)] at q
   exact q
  ·rw [if_neg c1]
   by_cases c2 : d ≤ y
   ·rw [if_pos c2] at q
    have := asf h hg (f := y) (t := e) dy.2.1
    omega
   ·rw [if_neg c2] at q
    have := ayP h g (f := y) (t := d) (u := e) (by omega) hde
    omega
 ·have q := b1 x hx
  rw [a2]
  by_cases c1 : d ≤ x
  ·rw [if_pos c1]
   by_cases c2 : e ≤ x
   ·rw [if_pos c2] at q
    omega
   ·rw [if_neg c2] at q
    have := ayP h g (f := d) (t := x) (u := e) c1 (by omega)
    have := asf h hg (f := d) (t := x) (by omega)
    omega
  ·rw [if_neg c1]
   rw [if_neg (by omega)] at q
   have := ayP h g (f := x) (t := d) (u := e) (by omega) hde
   omega
end
end Go.Proofs.ZzM
end
noncomputable section
namespace Go.Proofs.ZzM
open Go Go.Am
section
variable {b : acs} {c : Cmp}
theorem aLH : acJ (acx b c) = (acx b c).2.1.flatMap (adm (acx b c)) ++ b.2.2.2.2.1.flatMap (acZ (acx b c)) := by
 unfold acJ
 have e : ack (acx b c) = ((acx b c).2.1.flatMap (adm (acx b c)) ++ b.2.2.2.2.1.flatMap (acZ (acx b c))) ++ acZ (acx b c) c := by
  unfold ack
  rw [show (acx b c).2.2.2.2.1 = b.2.2.2.2.1 ++ [c] from rfl, List.flatMap_append, List.append_assoc]
  simp
 rw [e, List.length_append, show (acZ (acx b c) c).length = 2 from rfl, Nat.add_sub_cancel, List.take_left]
theorem ayT (h' : adi (acx b c)) {p : Int → Int} : Pot (acJ (acx b c)) p ↔ (∀ g ∈ b.2.1, akf (acx b c) p g) ∧ ∀ d ∈ b.2.2.2.2.1, p (cx (acx b c) d) ≤ p (cy (acx b c) d) + (aeG b d).2 ∧ p (cy (acx b c) d) + (aeG b d).1 ≤ p (cx (acx b c) d) := by
 rw [aLH]
 constructor
 ·intro hp
  refine ⟨fun g hg => ?_, fun d hd => ?_⟩
  ·obtain ⟨i, hi, rfl⟩ := List.mem_iff_getElem.1 hg
   exact (ajh h' (i := i) (List.getElem?_eq_getElem hi)).1 fun l hl => hp l.1 l.2.1 l.2.2 (List.mem_append.2 (.inl (List.mem_flatMap.2 ⟨_, List.getElem_mem hi, hl⟩)))
  ·have a1 := hp (cy (acx b c) d) (cx (acx b c) d) (aeG (acx b c) d).2 (List.mem_append.2 (.inr (List.mem_flatMap.2 ⟨d, hd, by simp [acZ]⟩)))
   have a2 := hp (cx (acx b c) d) (cy (acx b c) d) (-(aeG (acx b c) d).1) (List.mem_append.2 (.inr (List.mem_flatMap.2 ⟨d, hd, by simp [acZ]⟩)))
   have e : aeG (acx b c) d = aeG b d := rfl
   rw [e] at a1 a2
   omega
 ·rintro ⟨hg, hc⟩ u v m hl
  rcases List.mem_append.1 hl with hl | hl
  ·obtain ⟨g, hgm, hl⟩ := List.mem_flatMap.1 hl
   obtain ⟨i, hi, rfl⟩ := List.mem_iff_getElem.1 hgm
   exact (ajh h' (i := i) (List.getElem?_eq_getElem hi)).2 (hg _ hgm) (u, v, m) hl
  ·obtain ⟨d, hd, hl⟩ := List.mem_flatMap.1 hl
   obtain ⟨a1, a2⟩ := hc d hd
   have e : aeG (acx b c) d = aeG b d := rfl
   simp only [acZ, List.mem_cons, List.not_mem_nil, or_false, e] at hl
   rcases hl with hl | hl
   ·obtain ⟨rfl, rfl, rfl⟩ : u = cy (acx b c) d ∧ v = cx (acx b c) d ∧ m = (aeG b d).2 := by simpa using hl
    exact a1
   ·obtain ⟨rfl, rfl, rfl⟩ : u = cx (acx b c) d ∧ v = cy (acx b c) d ∧ m = -(aeG b d).1 := by simpa using hl
    omega
theorem aml {g : acP} {d : Int} (hd : d ∈ acv b g) : d ∈ acv (acx b c) g := by
 rcases aiK.1 hd with e | ⟨x, hx, h1, h2⟩ | hn
 ·exact aiK.2 (.inl e)
 ·exact aiK.2 (.inr (.inl ⟨x, List.mem_append.2 (.inl hx), h1, h2⟩))
 ·exact aiK.2 (.inr (.inr hn))
theorem aPQ (g : acP) (f t : Int) : agc (acx b c) g f t = agc b g f t := rfl
theorem awG {b' : acs} (h' : adi b') {l : List Int} {day : Int} (f : Int → Int → Int) (z : Int) (hl : ∀ x ∈ l, ∃ g ∈ b'.2.1, g.1 = x ∧ day ∈ acv b' g) : ayF b' f z (ayt b' l day) = match l with | [] => z | x :: _ => f x day := by
 unfold ayt
 cases l with
 | nil => exact agu f z
 | cons x t =>
   obtain ⟨g, hg, rfl, hd⟩ := hl x (by simp)
   exact ajF h' f z hg hd
theorem aPt (h : adi b) (h' : adi (acx b c)) : (∃ p, Pot (ack b) p) ↔ ∃ p, Pot (acJ (acx b c)) p := by
 constructor
 ·rintro ⟨p, hp⟩
  obtain ⟨hg, hc⟩ := (aE4 h).1 hp
  let f : Int → Int → Int := fun id d => match ags b id with | some g => fill b p g d | none => 0
  have hfv : ∀ g ∈ b.2.1, ∀ d, f g.1 d = fill b p g d := fun g hgm d => by
   show (match ags b g.1 with | some g => fill b p g d | none => 0) = _
   rw [aj0 h.ids hgm]
  have hq : ∀ g ∈ b.2.1, ∀ d ∈ acv (acx b c) g, ayF (acx b c) f (p 0) (aet (acx b c) g.1 d) = fill b p g d := fun g hgm d hd => by
   rw [ajF h' f (p 0) hgm hd, hfv g hgm d]
  refine ⟨ayF (acx b c) f (p 0), (ayT h').2 ⟨fun g hgm => ?_, fun d hd => ?_⟩⟩
  ·have gf := hg g hgm
   have hmade : g.2.1 ∈ acv b g := ain g
   have e0 := hq g hgm g.2.1 (ain g)
   rw [ayU h hgm gf hmade] at e0
   refine ⟨?_, ?_, fun x y hx hy hxy => ?_, fun x y hx hy hxy => ?_⟩
   ·rw [e0, agu]; exact gf.hi
   ·rw [e0, agu]; exact gf.lo
   ·rw [hq g hgm x hx, hq g hgm y hy]
    exact (auJ h hgm gf (h'.day hgm hx).1 hxy).1
   ·rw [hq g hgm x hx, hq g hgm y hy, aPQ]
    exact (auJ h hgm gf (h'.day hgm hx).1 hxy).2
  ·have key : ∀ l : List Int, (∀ x ∈ l, ∃ g ∈ b.2.1, g.1 = x ∧ d.2.1 ∈ acv b g) → ayF (acx b c) f (p 0) (ayt (acx b c) l d.2.1) = p (ayt b l d.2.1) := by
    intro l hl
    rw [awG h' f (p 0) (fun x hx => by obtain ⟨g, q1, q2, q3⟩ := hl x hx; exact ⟨g, q1, q2, aml q3⟩)]
    cases l with
    | nil => rfl
    | cons x t =>
      obtain ⟨g, q1, rfl, q3⟩ := hl x (by simp)
      show f g.1 d.2.1 = p (aet b g.1 d.2.1)
      rw [hfv g q1, ayU h q1 (hg g q1) q3]
   rw [awy, awx, key _ (fun x hx => ajg h hd (.inl hx)), key _ (fun x hx => ajg h hd (.inr hx)), ← awy, ← awx]
   exact hc d hd
 ·rintro ⟨p, hp⟩
  obtain ⟨hg, hc⟩ := (ayT h').1 hp
  let f : Int → Int → Int := fun id d => p (aet (acx b c) id d)
  have hq : ∀ g ∈ b.2.1, ∀ d ∈ acv b g, ayF b f (p 0) (aet b g.1 d) = p (aet (acx b c) g.1 d) := fun g hgm d hd => ajF h f (p 0) hgm hd
  refine ⟨ayF b f (p 0), (aE4 h).2 ⟨fun g hgm => ?_, fun d hd => ?_⟩⟩
  ·have gf := hg g hgm
   have e0 := hq g hgm g.2.1 (ain g)
   refine ⟨?_, ?_, fun x y hx hy hxy => ?_, fun x y hx hy hxy => ?_⟩
   ·rw [e0, agu]; exact gf.hi
   ·rw [e0, agu]; exact gf.lo
   ·rw [hq g hgm x hx, hq g hgm y hy]
    exact gf.down x y (aml hx) (aml hy) hxy
   ·rw [hq g hgm x hx, hq g hgm y hy]
    exact gf.loss x y (aml hx) (aml hy) hxy
  ·have key : ∀ l : List Int, (∀ x ∈ l, ∃ g ∈ b.2.1, g.1 = x ∧ d.2.1 ∈ acv b g) → ayF b f (p 0) (ayt b l d.2.1) = p (ayt (acx b c) l d.2.1) := by
    intro l hl
    rw [awG h f (p 0) hl]
    cases l <;> rfl
   rw [awy, awx, key _ (fun x hx => ajg h hd (.inl hx)), key _ (fun x hx => ajg h hd (.inr hx)), ← awy, ← awx]
   exact hc d hd
end
end Go.Proofs.ZzM
end