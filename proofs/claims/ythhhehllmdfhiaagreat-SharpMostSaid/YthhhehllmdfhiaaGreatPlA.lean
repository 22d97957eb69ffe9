/- lemmas -/
import Derived.Test.YthhhehllmdfhiaaGreatAmF
import Derived.Test.YthhhehllmdfhiaaGreatMdTA
set_option linter.all false
set_option linter.unusedSectionVars false
set_option linter.unusedVariables false
set_option linter.unusedSimpArgs false
noncomputable section
namespace Go.Am
section
variable {ρ : Type}
def aeS {α β : Type} (e : Nat → α → Option β) : Nat → List α → Option β
 | _, [] => none
 | i, a :: t => match e i a with
   | some b => some b
   | none => aeS e (i + 1) t
theorem ame {α β : Type} (l : List α) (e : Nat → α → Option β) (k0 : β → Option ρ) (k1 : Option ρ) {f : Int → (Int → Option ρ) → Option ρ}
 (h : ∀ (i : Nat) (a : α), i < l.length → l[i]? = some a → ∀ kn, f i kn = match e i a with | some b => k0 b | none => kn ((i : Int) + 1))
 (hn : ∀ kn, f l.length kn = k1) : acm f 0 = match aeS e 0 l with | some b => k0 b | none => k1 := by
 refine aPI l (fun i t => match aeS e i t with | some b => k0 b | none => k1) hn fun i a t hd hi ha kn hk => ?_
 rw [h i a hi ha kn, hk, aeS]
 cases e i a <;> rfl
theorem adg {α σ : Type} (l : List α) (g : Nat → σ) (r : Option ρ) {f : Int × σ → (Int × σ → Option ρ) → Option ρ} {s0 : σ} (h0 : g 0 = s0)
 (h : ∀ (i : Nat) (a : α), i < l.length → l[i]? = some a → ∀ kn, f (i, g i) kn = kn ((i : Int) + 1, g (i + 1)))
 (hn : ∀ kn, f (l.length, g l.length) kn = r) : acm f (0, s0) = r := by
 subst h0
 have hs : ∀ s, (s = g 0) → acm f (0, s) = r := fun s e => ayM l (fun _ _ _ => r) (fun i s => s = g i) (fun s hs kn => by rw [hs]; exact hn kn) (fun i a t s hd hi ha hI kn hk => by
  rw [hI, h i a hi ha kn]; exact hk _ rfl) e
 exact hs _ rfl
theorem acl {i n : Nat} (h : i < n) (hn : n ≤ 1000000000) (f : Int → Option ρ) : ck ((i : Int) + 1) f = f ((i : Int) + 1) := acu (by omega) (by omega) f
theorem ifb_lt {i n : Nat} (h : i < n) (x y : Option ρ) : ifb (ilt (i : Int) (aQ6 n)) x y = x := by simp [adX, azz, h]
theorem acN (n : Nat) (x y : Option ρ) : ifb (ilt (n : Int) (aQ6 n)) x y = y := by simp [adX, azz]
theorem acp {α : Type} {l : List α} {i : Nat} (h : i < l.length) (x y : Option ρ) : ifb (ilt (i : Int) (acD l)) x y = x := ifb_lt h x y
theorem aBk {α : Type} (p : α → Bool) : ∀ (i : Nat) (l : List α), aeS (fun i a => bif p a then some (i : Int) else none) i l = (l.findIdx? p).map fun j => ((i + j : Nat) : Int)
 | _, [] => rfl
 | i, a :: t => by
   simp only [aeS, List.findIdx?_cons]
   cases hp : p a with
   | true => simp
   | false =>
     simp only [cond_false, Bool.false_eq_true, if_false]
     rw [aBk p (i + 1) t]
     cases t.findIdx? p with
     | none => rfl
     | some j => simp only [Option.map_some]; congr 1; omega
theorem aif {α β : Type} {e : Nat → α → Option β} : ∀ {i : Nat} {l : List α}, aeS e i l = none ↔ ∀ j a, l[j]? = some a → e (i + j) a = none
 | _, [] => by simp [aeS]
 | i, a :: t => by
   simp only [aeS]
   constructor
   ·intro h j b hb
    cases he : e i a with
    | some c => rw [he] at h; cases h
    | none =>
      rw [he] at h
      cases j with
      | zero => simp at hb; subst hb; simpa using he
      | succ j => have := (aif.1 h) j b (by simpa using hb); rw [← this]; congr 1; omega
   ·intro h
    have h0 := h 0 a (by simp)
    simp only [Nat.add_zero] at h0
    rw [h0]
    exact aif.2 fun j b hb => by have := h (j + 1) b (by simpa using hb); rw [← this]; congr 1; omega
theorem take_succ {α : Type} {l : List α} {i : Nat} {a : α} (h : l[i]? = some a) : l.take (i + 1) = l.take i ++ [a] := by rw [List.take_succ, h]; rfl
end
end Go.Am
end
noncomputable section
namespace Go.Proofs.ZzM
open Go Go.Am
section
variable {ρ : Type}
theorem afk {τ : Type} {f : τ → (τ → Option ρ) → Option ρ} {r : Option ρ} (I : τ → Prop) (μ : τ → Nat)
 (h : ∀ x, I x → (∀ kn, f x kn = r) ∨ ∃ y, I y ∧ μ y < μ x ∧ ∀ kn, f x kn = kn y) {x : τ} (hx : I x) : acm f x = r :=
 amf (F := fun _ => r) I μ (fun x hx kn hk => by
  rcases h x hx with h1 | ⟨y, h1, h2, h3⟩
  ·exact h1 kn
  ·rw [h3, hk y h1 h2]) hx
theorem agd {α : Type} (l : List α) (p : α → Bool) (k0 : Int → Option ρ) (k1 : Option ρ) {f : Int → (Int → Option ρ) → Option ρ}
 (h : ∀ (i : Nat) (a : α), i < l.length → l[i]? = some a → ∀ kn, f i kn = if p a then k0 i else kn ((i : Int) + 1))
 (hn : ∀ kn, f l.length kn = k1) : acm f 0 = match l.findIdx? p with | some j => k0 j | none => k1 := by
 rw [ame l (fun i a => bif p a then some (i : Int) else none) k0 k1 (fun i a hi ha kn => by rw [h i a hi ha kn]; cases p a <;> rfl) hn, aBk]
 cases l.findIdx? p with
 | none => rfl
 | some j => simp
theorem agJ {α : Type} (l : List α) (p : α → Bool) (k0 : Int → Option ρ) (K k1 : Option ρ) {f : Int → (Int → Option ρ) → Option ρ} (hK : ∀ j : Nat, k0 j = K)
 (h : ∀ (i : Nat) (a : α), i < l.length → l[i]? = some a → ∀ kn, f i kn = if p a then k0 i else kn ((i : Int) + 1))
 (hn : ∀ kn, f l.length kn = k1) : acm f 0 = if l.any p then K else k1 := by
 rw [agd l p k0 k1 h hn]
 cases hf : l.findIdx? p with
 | none =>
   have : l.any p = false := by
    rw [List.any_eq_false]
    intro x hx
    have := List.findIdx?_eq_none_iff.1 hf x hx
    simp [this]
   simp [this]
 | some j =>
   have : l.any p = true := by
    have := List.findIdx?_eq_some_iff_getElem.1 hf
    obtain ⟨hj, hp, _⟩ := this
    exact List.any_eq_true.2 ⟨_, List.getElem_mem hj, hp⟩
   simp [this, hK]
end
abbrev acS : Type := Int × Int × Int × (Int × Int) × ((Int × Int) × Int)
abbrev ayV : Type := Int × ((Int × Int) × Int)
abbrev Cmp : Type := Int × Int × List Int × List Int × Int × (Int × (Int × Int))
abbrev acv : Type := (Int × Int) × List acS × List (Int × Int) × List ayV × List Cmp × List (Int × Int)
abbrev Sys : Type := Int × List (Int × Int × Int)
abbrev Maker : Type := acv × List (Int × Int) × Sys × List (Int × Int)
section
variable {ρ : Type}
theorem acB {b : Bool} (h : b = true) (x y : Option ρ) : ifb b x y = x := by rw [h]; rfl
theorem aco {b : Bool} (h : b = false) (x y : Option ρ) : ifb b x y = y := by rw [h]; rfl
end
def I64 (n : Int) : Prop := -9223372036854775808 ≤ n ∧ n ≤ 9223372036854775807
def inP (n lo hi : Int) : Bool := decide (lo ≤ n) && decide (n ≤ hi)
def aLz (n : Int) : Bool := inP n 0 20000
def ai1 (s : Int × Int) (lo hi : Int) : Bool := decide (lo ≤ s.1) && (decide (s.1 ≤ s.2) && decide (s.2 ≤ hi))
theorem afm (n lo hi : Int) : adn n lo hi = some (inP n lo hi) := by
 unfold adn av0 inP ile
 cases decide (lo ≤ n) <;> rfl
theorem aGM (n : Int) : aiU n = some (aLz n) := by
 unfold aiU aAT
 rw [afm]; rfl
theorem auF (s : Int × Int) (lo hi : Int) : aeY s lo hi = some (ai1 s lo hi) := by
 unfold aeY av6 ai1 ile
 cases decide (lo ≤ s.1) <;> cases decide (s.1 ≤ s.2) <;> rfl
theorem aEW {n : Int} (h : I64 n) : ak4 n = some (n.natAbs : Int) := by
 obtain ⟨h1, h2⟩ := h
 unfold ak4 aF3
 by_cases hn : n < 0
 ·have : ilt n 0 = true := by simpa using hn
  rw [acB this]
  congr 1
  simp only [IntKind.wrap, IntKind.bits, IntKind.signed]
  simp
  omega
 ·have : ilt n 0 = false := by simpa using hn
  rw [aco this]
  congr 1
  simp only [IntKind.wrap, IntKind.bits, IntKind.signed]
  simp
  omega
theorem aSL (a b : Nat) : aBq a b = some ((Nat.gcd a b : Nat) : Int) := by
 unfold aBq aK5
 refine afk (fun x : Int × Int => ∃ c d : Nat, x = ((c : Int), (d : Int)) ∧ Nat.gcd c d = Nat.gcd a b) (fun x => x.2.toNat) ?_ ⟨a, b, rfl, rfl⟩
 rintro x ⟨c, d, rfl, hg⟩
 cases d with
 | zero =>
   refine .inl fun kn => ?_
   rw [Nat.gcd_zero_right] at hg
   unfold ap3
   simp [hg, ine]
 | succ d =>
   refine .inr ⟨(((d + 1 : Nat) : Int), ((c % (d + 1) : Nat) : Int)), ⟨d + 1, c % (d + 1), rfl, ?_⟩, ?_, fun kn => ?_⟩
   ·rw [← hg, Nat.gcd_comm c (d + 1), Nat.gcd_rec (d + 1) c, Nat.gcd_comm]
   ·have := Nat.mod_lt c (Nat.succ_pos d)
    simp only [Int.toNat_natCast]
    omega
   ·unfold ap3
    have h1 : ine ((d + 1 : Nat) : Int) 0 = true := by simp [ine]; omega
    have h2 : aeN ((d + 1 : Nat) : Int) 0 = false := by simp [aeN]; omega
    simp only [h1, acB aco h2]
    congr 1
def aCa (r : Int × Int) : Bool :=
 decide (1 ≤ r.2) && (decide (r.2 ≤ 2147483647) && (decide ((r.1.natAbs : Int) ≤ 2147483647) && decide (Nat.gcd r.1.natAbs r.2.natAbs = 1)))
theorem aHf {r : Int × Int} (h : I64 r.1) : amq r = some (aCa r) := by
 unfold amq aAA aCa
 by_cases h1 : 1 ≤ r.2
 ·by_cases h2 : r.2 ≤ 2147483647
  ·have h3 : I64 r.2 := ⟨by omega, by omega⟩
   have e1 : ige r.2 1 = true := by simp [ige, h1]
   have e2 : ile r.2 2147483647 = true := by simp [ile, h2]
   rw [acB e1, acB e2, aEW h, ab4]
   by_cases h4 : (r.1.natAbs : Int) ≤ 2147483647
   ·have e4 : ile (r.1.natAbs : Int) 2147483647 = true := by simp [ile, h4]
    rw [acB e4, ab4, aEW h3, ab4, aSL, ab4]
    congr 1
    rw [Bool.eq_iff_iff]
    simp only [ieq, beq_iff_eq, h1, h2, h4, decide_true, Bool.true_and, decide_eq_true_eq]
    omega
   ·have e4 : ile (r.1.natAbs : Int) 2147483647 = false := by simp [ile]; omega
    rw [aco e4]
    simp [h4]
  ·have e1 : ige r.2 1 = true := by simp [ige, h1]
   have e2 : ile r.2 2147483647 = false := by simp [ile]; omega
   rw [acB e1, aco e2]
   simp [h2]
 ·have e1 : ige r.2 1 = false := by simp [ige]; omega
  rw [aco e1]
  simp [h1]
def ari (g : acS) : Bool :=
 aCa g.2.2.2.2.1 && inP g.2.2.2.2.1.1 (-1000) 1000 && decide (g.2.2.2.2.1.2 ≤ 100) && inP g.1 1 1099511627776 && aLz g.2.1 && inP g.2.2.1 1 1125899906842624 && ai1 g.2.2.2.1 (-1073741824) 1073741824 && inP g.2.2.2.2.2 0 1048576
theorem aN1 {g : acS} (h : I64 g.2.2.2.2.1.1) : anx g = some (ari g) := by
 unfold anx asa ari
 rw [aHf h, afm, afm, aGM, afm, auF, afm]
 generalize aCa g.2.2.2.2.1 = x1
 generalize inP g.2.2.2.2.1.1 (-1000) 1000 = x2
 generalize inP g.1 1 1099511627776 = x3
 generalize aLz g.2.1 = x4
 generalize inP g.2.2.1 1 1125899906842624 = x5
 generalize ai1 g.2.2.2.1 (-1073741824) 1073741824 = x6
 generalize inP g.2.2.2.2.2 0 1048576 = x7
 unfold ile
 generalize decide (g.2.2.2.2.1.2 ≤ 100) = x8
 cases x1 <;> cases x2 <;> cases x3 <;> cases x4 <;> cases x5 <;> cases x6 <;> cases x8 <;> rfl
end Go.Proofs.ZzM
end
noncomputable section
namespace Go.Proofs.ZzM
open Go Go.Am
section
variable {ρ : Type}
theorem aJs {α : Type} {l : List α} {i : Nat} {a : α} (h0 : 0 < i) (h : l[i - 1]? = some a) (f : α → Option ρ) : adU l ((i : Int) - 1) f = f a := by
 have : ((i : Int) - 1) = ((i - 1 : Nat) : Int) := by omega
 rw [this, acj h]
theorem aQv {i : Nat} (h : 0 < i) (hn : i ≤ 1000000000) (f : Int → Option ρ) : ck ((i : Int) - 1) f = f ((i : Int) - 1) := acu (by omega) (by omega) f
theorem afX {i n : Nat} (h : i < n) (x : Option ρ) : acX ((ile 0 (i : Int)) && (ilt (i : Int) (n : Int))) x = x := by
 have : ((ile 0 (i : Int)) && (ilt (i : Int) (n : Int))) = true := by simp [ile, ilt, h]
 rw [this, Am.iff_true]
theorem aev {α : Type} {l : List α} {i : Nat} {a : α} (h : l[i]? = some a) (f : α → Option ρ) : afz l (Int.toNat (i : Int)) f = f a := by
 rw [Int.toNat_natCast]; exact amE h f
end
def aBV {α : Type} (key : α → Int) (l : List α) (i : Nat) (a : α) : Bool :=
 decide (0 < i) && (l[i - 1]?).any fun q => decide (key a ≤ key q)
theorem aHO {α : Type} {l : List α} {i : Nat} (hi : i < l.length) (h0 : 0 < i) : ∃ q, l[i - 1]? = some q :=
 ⟨l[i - 1], List.getElem?_eq_getElem (by omega)⟩
theorem aNc {α : Type} (key : α → Int) (l : List α) : (∀ i a, l[i]? = some a → aBV key l i a = false) ↔ l.Pairwise (fun a b => key a < key b) := by
 rw [List.pairwise_iff_getElem]
 constructor
 ·intro h
  have step : ∀ i (h1 : i + 1 < l.length), key l[i] < key l[i + 1] := by
   intro i h1
   have := h (i + 1) l[i + 1] (List.getElem?_eq_getElem h1)
   simp only [aBV, Nat.add_sub_cancel, Nat.succ_pos, decide_true, Bool.true_and, List.getElem?_eq_getElem (show i < l.length by omega), Option.any_some, decide_eq_false_iff_not] at this
   omega
  intro i j hi hj hij
  induction j with
  | zero => omega
  | succ j ih =>
    have := step j hj
    rcases Nat.lt_or_ge i j with hlt | hge
    ·have := ih (by omega) hlt; omega
    ·have : i = j := by omega
     subst this; assumption
 ·intro h i a ha
  obtain ⟨hi, rfl⟩ := List.getElem?_eq_some_iff.1 ha
  unfold aBV
  cases i with
  | zero => rfl
  | succ i =>
    have := h i (i + 1) (by omega) hi (by omega)
    simp only [Nat.add_sub_cancel, Nat.succ_pos, decide_true, Bool.true_and, List.getElem?_eq_getElem (show i < l.length by omega), Option.any_some, decide_eq_false_iff_not]
    omega
def apu (l : List acS) (i : Nat) (g : acS) : Option Int :=
 if !ari g then some 1 else if aBV (fun g => g.1) l i g then some 6 else none
def aie (b : acv) : Int := (aeS (apu b.2.1) 0 b.2.1).getD 0
theorem aDn {b : acv} (hr : ∀ g ∈ b.2.1, I64 g.2.2.2.2.1.1) (hn : b.2.1.length ≤ 1000) : aeK b = some (aie b) := by
 unfold aeK aka
 refine Eq.trans (ame b.2.1 (apu b.2.1) some (some 0) (fun i a hi ha kn => ?_) (fun kn => ?_)) ?_
 ·try dsimp only
  unfold af4
  rw [acp hi, acj ha, aN1 (hr a (List.mem_of_getElem? ha)), ab4]
  unfold apu
  cases hg : ari a with
  | false => simp
  | true =>
    simp only [Bool.not_true, acO, Bool.false_eq_true, if_false]
    rcases Nat.eq_zero_or_pos i with h0 | h0
    ·subst h0
     have : igt ((0 : Nat) : Int) 0 = false := by simp [igt]
     rw [aco this, acl hi (by omega)]
     simp [aBV]
    ·obtain ⟨q, hq⟩ := aHO hi h0
     have h1 : igt (i : Int) 0 = true := by simp [igt]; omega
     rw [acB h1, aQv h0 (by omega), aJs h0 hq]
     simp only [aBV, h0, decide_true, Bool.true_and, hq, Option.any_some]
     unfold ile
     cases h2 : decide (a.1 ≤ q.1) with
     | true => simp
     | false =>
       rw [acO, acl hi (by omega)]
       simp
 ·try dsimp only
  unfold af4
  rw [acN]
 ·unfold aie
  cases aeS (apu b.2.1) 0 b.2.1 <;> rfl
def aHD (l : List acS) : List (Int × acS) := l.foldl (fun m g => ayG (k := tI) (v := ach) g.1 g m) []
def ai2 (b : acv) : List (Int × acS) := aHD b.2.1
theorem aDD {b : acv} (hn : b.2.1.length ≤ 1000) : afb b = some (ai2 b) := by
 unfold afb ar7
 refine adg b.2.1 (fun i => aHD (b.2.1.take i)) _ rfl (fun i a hi ha kn => ?_) (fun kn => ?_)
 ·try dsimp only
  unfold ais
  rw [acp hi, acj ha, acl hi (by omega), take_succ ha]
  simp only [aHD, List.foldl_append, List.foldl_cons, List.foldl_nil]
 ·try dsimp only
  unfold ais
  rw [acN, List.take_length]
  rfl
theorem aIg (x y : Int) (g : acS) : ∀ m : List (Int × acS), alP (k := tI) (v := ach) x (ayG (k := tI) (v := ach) y g m) = if x = y then some g else alP (k := tI) (v := ach) x m
 | [] => by
   unfold ayG alP agW alP
   by_cases h : x = y <;> simp [h]
 | e :: m => by
   unfold ayG
   by_cases h : y = e.1
   ·have : agW tI y e.1 = true := by simp [agW, h]
    rw [this]
    try dsimp only
    unfold alP agW
    by_cases h2 : x = y
    ·simp [h2]
    ·have : ¬ x = e.1 := fun h3 => h2 (h3.trans h.symm)
     simp [h2, this]
   ·have : agW tI y e.1 = false := by simp [agW, h]
    rw [this]
    try dsimp only
    have ih := aIg x y g m
    unfold alP
    by_cases h2 : x = e.1
    ·have : agW tI x e.1 = true := by simp [agW, h2]
     rw [this]
     have : ¬ x = y := fun h3 => h (h3.symm.trans h2)
     simp [this]
    ·have : agW tI x e.1 = false := by simp [agW, h2]
     rw [this]
     exact ih
def ahy (b : acv) (id : Int) : Option acS := b.2.1.find? fun g => g.1 == id
theorem aKM (x : Int) (l : List acS) : alP (k := tI) (v := ach) x (aHD l) = l.reverse.find? fun g => g.1 == x := by
 unfold aHD
 rw [← List.foldr_reverse]
 induction l.reverse with
 | nil => rfl
 | cons g t ih =>
   rw [List.foldr_cons, aIg, ih, List.find?_cons]
   by_cases h : x = g.1
   ·simp [h]
   ·have : (g.1 == x) = false := by simp; exact fun h2 => h h2.symm
    simp [h, this]
theorem aJF {l : List acS} (h : l.Pairwise fun a b => a.1 < b.1) (x : Int) : l.reverse.find? (fun g => g.1 == x) = l.find? fun g => g.1 == x := by
 induction l with
 | nil => rfl
 | cons g t ih =>
   rw [List.pairwise_cons] at h
   rw [List.reverse_cons, List.find?_append, ih h.2, List.find?_cons]
   by_cases hx : g.1 = x
   ·have : t.find? (fun g => g.1 == x) = none := List.find?_eq_none.2 fun y hy => by have : g.1 < y.1 := h.1 y hy; simp; omega
    rw [this]; simp [hx]
   ·have : (g.1 == x) = false := by simp [hx]
    simp [this]
theorem aDW {b : acv} (h : b.2.1.Pairwise fun a b => a.1 < b.1) (x : Int) : alP (k := tI) (v := ach) x (ai2 b) = ahy b x := by
 unfold ai2 ahy
 rw [aKM, aJF h]
def ald (s : List (Int × acS)) (id day : Int) : Int :=
 match alP (k := tI) (v := ach) id s with
 | some g => if day < g.2.1 then 4 else 0
 | none => 5
theorem aKO (s : List (Int × acS)) (id day : Int) : afU s id day = some (ald s id day) := by
 unfold afU alv ald
 cases h : alP (k := tI) (v := ach) id s with
 | none => simp only [aHm, h]
 | some g =>
   simp only [aHm, h]
   rw [adX]
   by_cases h2 : day < g.2.1 <;> simp [h2]
def aRi (s : List (Int × acS)) (id day : Int) : Int := if !aLz day then 1 else ald s id day
theorem aHV (s : List (Int × acS)) (id day : Int) : adO id day s = some (aRi s id day) := by
 unfold adO ar9 aRi
 rw [aGM, ab4, aKO, ab4]
 cases aLz day <;> rfl
def aLm (b : acv) (s : List (Int × acS)) (i : Nat) (l : ayV) : Int :=
 if !ai1 l.2.1 0 20000 then 1 else if !inP l.2.2 0 1048576 then 1 else if ald s l.1 l.2.1.1 != 0 then ald s l.1 l.2.1.1 else
 if (b.2.2.2.1.take i).any (fun x => x.1 == l.1 && (decide (x.2.1.1 ≤ l.2.1.2) && decide (l.2.1.1 ≤ x.2.1.2))) then 9 else
 if b.2.2.1.any (fun u => u.1 == l.1 && inP u.2 l.2.1.1 l.2.1.2) then 9 else 0
theorem aJQ {b : acv} (hn : b.2.2.2.1.length ≤ 1000) (hu : b.2.2.1.length ≤ 1000) (s : List (Int × acS)) {i : Nat} {l : ayV} (hl : b.2.2.2.1[i]? = some l) : ae1 b s i = some (aLm b s i l) := by
 unfold ae1 ani aLm
 have hi : i < b.2.2.2.1.length := (List.getElem?_eq_some_iff.1 hl).1
 rw [acj hl, auF, ab4, afm, ab4, aKO, ab4]
 cases ai1 l.2.1 0 20000 with
 | false => rfl
 | true =>
 cases inP l.2.2 0 1048576 with
 | false => rfl
 | true =>
 cases hm : (ald s l.1 l.2.1.1 != 0) with
 | true =>
   have : ine (ald s l.1 l.2.1.1) 0 = true := hm
   simp [this]
 | false =>
 have hm' : ine (ald s l.1 l.2.1.1) 0 = false := hm
 have hg : ((ile (0 : Int) (i : Int)) && (ile (i : Int) (adK b.2.2.2.1))) = true := by simp [ile, adK]; omega
 simp only [Bool.not_true, acO, hm', Bool.false_eq_true, if_false]
 rw [adP hg, Int.toNat_natCast]
 have inner : ∀ (k : Int → Option Int), acm (fun (v : Int) kk => aeX b.2.2.1 (acD b.2.2.1) l.1 l.2.1.1 l.2.1.2 v (fun u => kk u) (fun z => ifb (ige z 0) (k 9) (k 0)) (fun _ => k 0)) (0 : Int) = if b.2.2.1.any (fun u => u.1 == l.1 && inP u.2 l.2.1.1 l.2.1.2) then k 9 else k 0 := by
  intro k
  refine agJ b.2.2.1 _ (fun z => ifb (ige z 0) (k 9) (k 0)) (k 9) (k 0) (fun j => ?_) (fun j a hj ha kn => ?_) (fun kn => ?_)
  ·have : ige (j : Int) 0 = true := by simp [ige]
   rw [acB this]
  ·try dsimp only
   unfold aeX
   rw [acp hj, acj ha, afm, ab4, acl hj (by omega)]
   cases h1 : (a.1 == l.1) with
   | false =>
     have : ieq a.1 l.1 = false := h1
     simp [this]
   | true =>
     have : ieq a.1 l.1 = true := h1
     rw [this]
     cases inP a.2 l.2.1.1 l.2.1.2 <;> simp
  ·try dsimp only
   unfold aeX
   rw [acN]
 rw [inner]
 refine Eq.trans (agJ (b.2.2.2.1.take i) (fun x => x.1 == l.1 && (decide (x.2.1.1 ≤ l.2.1.2) && decide (l.2.1.1 ≤ x.2.1.2))) (fun z => ifb (ige z 0) (some 9) (if b.2.2.1.any (fun u => u.1 == l.1 && inP u.2 l.2.1.1 l.2.1.2) then some 9 else some 0)) (some 9) (if b.2.2.1.any (fun u => u.1 == l.1 && inP u.2 l.2.1.1 l.2.1.2) then some 9 else some 0) (fun j => ?_) (fun j a hj ha kn => ?_) (fun kn => ?_)) ?_
 ·have : ige (j : Int) 0 = true := by simp [ige]
  rw [acB this]
 ·try dsimp only
  unfold agI
  have hj' : j ≤ 1000 := by rw [List.length_take] at hj; omega
  rw [acp hj, acj ha, acl hj (by rw [List.length_take]; omega)]
  cases h1 : (a.1 == l.1) with
  | false =>
    have : ieq a.1 l.1 = false := h1
    simp [this]
  | true =>
    have : ieq a.1 l.1 = true := h1
    rw [this]
    cases h2 : decide (a.2.1.1 ≤ l.2.1.2) <;> cases h3 : decide (l.2.1.1 ≤ a.2.1.2) <;> simp [ile, h2, h3, adX] <;> simp_all
 ·try dsimp only
  unfold agI
  rw [acN]
 ·cases List.any (b.2.2.2.1.take i) _ <;> cases b.2.2.1.any _ <;> rfl
end Go.Proofs.ZzM
end
noncomputable section
namespace Go.Proofs.ZzM
open Go Go.Am
theorem aQ2 {l : List Int} (hn : l.length ≤ 1000000) (x : Int) : agq l x = some (match l.findIdx? (· == x) with | some j => (j : Int) | none => -1) := by
 unfold agq ahX
 refine Eq.trans (agd l (· == x) some (some (-1)) (fun i a hi ha kn => ?_) (fun kn => ?_)) ?_
 ·try dsimp only
  unfold afi
  rw [acp hi, acj ha, acl hi (by omega), adX]
  by_cases h : x = a
  ·subst h; simp [ieq]
  ·have h2 : ¬ a = x := fun e => h e.symm
   simp [ieq, h, h2]
 ·try dsimp only
  unfold afi
  rw [acN]
 ·cases l.findIdx? (· == x) <;> rfl
theorem ai0 {l : List Int} (hn : l.length ≤ 1000000) (x : Int) : adu l x = some (l.contains x) := by
 unfold adu agx
 rw [aQ2 hn, ab4]
 congr 1
 cases h : l.findIdx? (· == x) with
 | none =>
   have : l.contains x = false := by
    rw [Bool.eq_false_iff]
    intro hc
    have := List.findIdx?_eq_none_iff.1 h x (by simpa using hc)
    simp at this
   rw [this]; rfl
 | some j =>
   obtain ⟨hj, hp, _⟩ := List.findIdx?_eq_some_iff_getElem.1 h
   have : l.contains x = true := by
    have h2 : l[j] = x := by simpa using hp
    rw [← h2]; simp
   rw [this]
   simp [ige]
def adb (a b : List Int) : List Int := a.filter fun x => !b.contains x
theorem alx {a b : List Int} (ha : a.length ≤ 1000000) (hb : b.length ≤ 1000000) : aep a b = some (adb a b) := by
 unfold aep aGo
 rw [acq (by omega), Am.iff_true]
 have second : ∀ z : Nat, z < a.length → adb (a.take z) b = a.take z → b.contains (a[z]?.getD 0) = true →
  acm (fun (v13 : (Val (.pair tI (.pair tI (.slice tI))))) kk17 => agU b v13.1 v13.2.1 v13.2.2 (fun u14 u15 u16 => kk17 (u14, u15, u16)) (fun z12 => acX ((ile (0 : Int) z12.1) && (ile z12.1 (adK z12.2))) (acX ((ile (0 : Int) z12.1) && (ile z12.1 (adK (List.take (Int.toNat z12.1) z12.2 ++ List.replicate (List.length z12.2 - (Int.toNat z12.1)) (0 : Int) ++ List.drop ((Int.toNat z12.1) + (List.length z12.2 - (Int.toNat z12.1))) z12.2)))) (some (List.take (Int.toNat z12.1) (List.drop 0 (List.take (Int.toNat z12.1) z12.2 ++ List.replicate (List.length z12.2 - (Int.toNat z12.1)) (0 : Int) ++ List.drop ((Int.toNat z12.1) + (List.length z12.2 - (Int.toNat z12.1))) z12.2))))))) ((z : Int), ((z : Int) + 1), a) = some (adb a b) := by
  intro z hz hp hc
  refine afk (fun x : Int × Int × List Int => ∃ i j : Nat, x.1 = i ∧ x.2.1 = j ∧ i < j ∧ j ≤ a.length ∧ x.2.2.length = a.length ∧ x.2.2.take i = adb (a.take j) b ∧ x.2.2.drop j = a.drop j) (fun x => a.length - x.2.1.toNat) ?_
   ⟨z, z + 1, rfl, by simp, by omega, by omega, rfl, ?_, rfl⟩
  ·rintro ⟨x1, x2, s⟩ ⟨i, j, h1, h2, hij, hja, hl, ht, hd⟩
   simp only at h1 h2 hl ht hd
   subst h1 h2
   rcases Nat.lt_or_ge j a.length with hj | hj
   ·refine .inr ?_
    have hsj : s[j]? = some a[j] := by
     have h3 : (s.drop j)[0]? = (a.drop j)[0]? := by rw [hd]
     rw [List.getElem?_drop, List.getElem?_drop] at h3
     simpa [List.getElem?_eq_getElem hj] using h3
    have hjs : j < s.length := by omega
    have hta : adb (a.take (j + 1)) b = adb (a.take j) b ++ if b.contains a[j] then [] else [a[j]] := by
     rw [take_succ (List.getElem?_eq_getElem hj), adb, adb, List.filter_append]
     congr 1
     cases h : b.contains a[j] with
     | true => simp only [List.filter_cons, h, Bool.not_true, Bool.false_eq_true, if_false, List.filter_nil, if_true]
     | false => simp only [List.filter_cons, h, Bool.not_false, Bool.false_eq_true, if_false, List.filter_nil, if_true]
    cases h : b.contains a[j] with
    | true =>
      refine ⟨(i, (j : Int) + 1, s), ⟨i, j + 1, rfl, by simp, by omega, by omega, hl, ?_, ?_⟩, by simp; omega, fun kn => ?_⟩
      ·rw [hta, h]; simpa using ht
      ·have := congrArg (List.drop 1) hd
       simpa [List.drop_drop, Nat.add_comm] using this
      ·try dsimp only
       unfold agU
       rw [acp hjs, afX hjs, aev hsj, ai0 hb, ab4, h]
       simp only [Bool.not_true, acO]
       rw [acl hjs (by omega)]
    | false =>
      have his : i < s.length := by omega
      refine ⟨((i : Int) + 1, (j : Int) + 1, s.set i a[j]), ⟨i + 1, j + 1, by simp, by simp, by omega, by omega, by simpa using hl, ?_, ?_⟩, by simp; omega, fun kn => ?_⟩
      ·show List.take (i + 1) (s.set i a[j]) = _
       rw [hta, h, List.take_succ, List.getElem?_set, List.take_set_of_le (Nat.le_refl i), ht]
       simp [his]
      ·show List.drop (j + 1) (s.set i a[j]) = _
       rw [List.drop_set_of_lt (by omega)]
       have := congrArg (List.drop 1) hd
       simpa [List.drop_drop, Nat.add_comm] using this
      ·try dsimp only
       unfold agU
       rw [acp hjs, afX hjs, aev hsj, ai0 hb, ab4, h]
       simp only [Bool.not_false, aee]
       rw [afX his, aev (List.getElem?_eq_getElem his), acl his (by omega), acl hjs (by omega), Int.toNat_natCast]
   ·refine .inl fun kn => ?_
    have hje : j = s.length := by omega
    try dsimp only
    unfold agU
    rw [hje, acN]
    dsimp only
    have g1 : ((ile (0 : Int) (i : Int)) && (ile (i : Int) (adK s))) = true := by simp [ile, adK]; omega
    rw [adP g1]
    have g2 : ((ile (0 : Int) (i : Int)) && (ile (i : Int) (adK (List.take (Int.toNat (i : Int)) s ++ List.replicate (List.length s - (Int.toNat (i : Int))) (0 : Int) ++ List.drop ((Int.toNat (i : Int)) + (List.length s - (Int.toNat (i : Int)))) s)))) = true := by
     simp [ile, adK]; omega
    rw [adP g2, Int.toNat_natCast, List.drop_zero, List.append_assoc, List.take_append_of_le_length (by simp; omega), List.take_take, Nat.min_self, ht]
    rw [List.take_of_length_le (by omega)]
  ·show List.take z a = adb (a.take (z + 1)) b
   have hz' : a[z]? = some a[z] := List.getElem?_eq_getElem hz
   rw [take_succ hz', adb, List.filter_append]
   rw [hz'] at hc
   simp only [Option.getD_some] at hc
   have : List.filter (fun x => !b.contains x) [a[z]] = [] := by simp only [List.filter_cons, hc, Bool.not_true, Bool.false_eq_true, if_false, List.filter_nil]
   rw [this, List.append_nil]
   exact hp.symm
 refine Eq.trans (agd a (fun x => b.contains x) (fun z4 => ifb (ieq z4 (-1 : Int)) (some a) (ck (z4 + (1 : Int)) fun n5 => acm (fun (v13 : (Val (.pair tI (.pair tI (.slice tI))))) kk17 => agU b v13.1 v13.2.1 v13.2.2 (fun u14 u15 u16 => kk17 (u14, u15, u16)) (fun z12 => acX ((ile (0 : Int) z12.1) && (ile z12.1 (adK z12.2))) (acX ((ile (0 : Int) z12.1) && (ile z12.1 (adK (List.take (Int.toNat z12.1) z12.2 ++ List.replicate (List.length z12.2 - (Int.toNat z12.1)) (0 : Int) ++ List.drop ((Int.toNat z12.1) + (List.length z12.2 - (Int.toNat z12.1))) z12.2)))) (some (List.take (Int.toNat z12.1) (List.drop 0 (List.take (Int.toNat z12.1) z12.2 ++ List.replicate (List.length z12.2 - (Int.toNat z12.1)) (0 : Int) ++ List.drop ((Int.toNat z12.1) + (List.length z12.2 - (Int.toNat z12.1))) z12.2))))))) (z4, n5, a))) (some a) (fun i x hi hx kn => ?_) (fun kn => ?_)) ?_
 ·try dsimp only
  unfold anf
  rw [acp hi, afX hi, aev hx, ai0 hb, ab4, acl hi (by omega), adX]
 ·try dsimp only
  unfold anf
  rw [acN]
 ·cases h : a.findIdx? (fun x => b.contains x) with
  | none =>
    have : adb a b = a := by
     rw [adb, List.filter_eq_self]
     intro x hx
     have := List.findIdx?_eq_none_iff.1 h x hx
     simpa using this
    rw [this]
  | some z =>
    obtain ⟨hz, hc, hlt⟩ := List.findIdx?_eq_some_iff_getElem.1 h
    have h1 : ieq (z : Int) (-1) = false := by simp [ieq]
    try dsimp only
    rw [aco h1, acl hz (by omega)]
    refine second z hz ?_ ?_
    ·rw [adb, List.filter_eq_self]
     intro x hx
     obtain ⟨j, hj, rfl⟩ := List.mem_iff_getElem.1 hx
     rw [List.length_take] at hj
     rw [List.getElem_take]
     have := hlt j (by omega)
     simpa using this
    ·rw [List.getElem?_eq_getElem hz]; exact hc
def axQ (l : List Int) (i : Nat) (a : Int) : Option Bool := if !inP a 1 1099511627776 then some false else if aBV (fun x => x) l i a then some false else none
def ajn (l : List Int) : Bool := match aeS (axQ l) 0 l with | some _ => false | none => decide (l.length ≤ 6)
theorem auD {l : List Int} (hn : l.length ≤ 1000000) : aih l = some (ajn l) := by
 unfold aih av5
 refine Eq.trans (ame l (axQ l) some (some (decide (l.length ≤ 6))) (fun i a hi ha kn => ?_) (fun kn => ?_)) ?_
 ·try dsimp only
  unfold ajs
  rw [acp hi, acj ha, afm, ab4]
  unfold axQ
  cases inP a 1 1099511627776 with
  | false => rfl
  | true =>
    simp only [Bool.not_true, acO, Bool.false_eq_true, if_false]
    rcases Nat.eq_zero_or_pos i with h0 | h0
    ·subst h0
     have : igt ((0 : Nat) : Int) 0 = false := by simp [igt]
     rw [aco this, acl hi (by omega)]
     simp [aBV]
    ·obtain ⟨q, hq⟩ := aHO hi h0
     have h1 : igt (i : Int) 0 = true := by simp [igt]; omega
     rw [acB h1, aQv h0 (by omega), aJs h0 hq]
     simp only [aBV, h0, decide_true, Bool.true_and, hq, Option.any_some]
     unfold ile
     cases h2 : decide (a ≤ q) with
     | true => rfl
     | false =>
       rw [acO, acl hi (by omega)]
       rfl
 ·try dsimp only
  unfold ajs
  rw [acN, acQ]
  simp [ile]
  omega
 ·have hb : ∀ x, aeS (axQ l) 0 l = some x → x = false := by
   have : ∀ (m : List Int) (j : Nat) (x : Bool), aeS (axQ l) j m = some x → x = false := by
    intro m
    induction m with
    | nil => intro j x h; cases h
    | cons a m ih =>
      intro j x h
      unfold aeS at h
      cases hp : axQ l j a with
      | none => rw [hp] at h; exact ih _ _ h
      | some y =>
        rw [hp] at h
        cases h
        unfold axQ at hp
        split at hp
        ·cases hp; rfl
        ·split at hp
         ·cases hp; rfl
         ·cases hp
   exact this l 0
  unfold ajn
  cases h : aeS (axQ l) 0 l with
  | none => rfl
  | some x => rw [hb x h]
theorem aHR (l : List Int) : ajn l = true ↔ (∀ x ∈ l, 1 ≤ x ∧ x ≤ 1099511627776) ∧ l.Pairwise (· < ·) ∧ l.length ≤ 6 := by
 have h0 : aeS (axQ l) 0 l = none ↔ (∀ x ∈ l, 1 ≤ x ∧ x ≤ 1099511627776) ∧ l.Pairwise (· < ·) := by
  rw [aif, ← aNc (fun x => x) l]
  constructor
  ·intro h
   have h1 : ∀ (j : Nat) (a : Int), l[j]? = some a → inP a 1 1099511627776 = true ∧ aBV (fun x => x) l j a = false := by
    intro j a ha
    have := h j a ha
    rw [Nat.zero_add] at this
    unfold axQ at this
    split at this
    ·cases this
    ·split at this
     ·cases this
     ·rename_i h1 h2
      exact ⟨by simpa using h1, by simpa using h2⟩
   refine ⟨fun x hx => ?_, fun i a ha => (h1 i a ha).2⟩
   obtain ⟨j, hj, rfl⟩ := List.mem_iff_getElem.1 hx
   have := (h1 j l[j] (List.getElem?_eq_getElem hj)).1
   simpa [inP] using this
  ·rintro ⟨h1, h2⟩ j a ha
   rw [Nat.zero_add]
   have h3 := h1 a (List.mem_of_getElem? ha)
   have : inP a 1 1099511627776 = true := by simpa [inP] using h3
   simp [axQ, this, h2 j a ha]
 unfold ajn
 cases h : aeS (axQ l) 0 l with
 | none =>
   obtain ⟨h1, h2⟩ := h0.1 h
   simp only [decide_eq_true_eq]
   exact ⟨fun h3 => ⟨h1, h2, h3⟩, fun h3 => h3.2.2⟩
 | some x =>
   constructor
   ·intro h2; cases h2
   ·rintro ⟨h1, h2, h3⟩
    rw [h0.2 ⟨h1, h2⟩] at h; cases h
theorem aQ3 {a b : List Int} (ha : a.length ≤ 1000000) (hb : b.length ≤ 1000000) : acG [a, b] = some (a ++ b) := by
 have hk : ∀ n : Nat, n ≤ 4000000 → ∀ (f : Int → Option (List Int)), ck (n : Int) f = f n := fun n h f => acu (by omega) (by omega) f
 have second : acm (fun (v9 : (Val (.pair tI (.slice tI)))) kk12 => acK [a, b] (acD [a, b]) v9.1 v9.2 (fun u10 u11 => kk12 (u10, u11)) (fun z8 => some z8)) ((0 : Int), ([] : List Int)) = some (a ++ b) := by
  refine adg [a, b] (fun i => ([a, b].take i).flatten) (some (a ++ b)) (f := fun (v9 : (Val (.pair tI (.slice tI)))) kk12 => acK [a, b] (acD [a, b]) v9.1 v9.2 (fun u10 u11 => kk12 (u10, u11)) (fun z8 => some z8)) rfl (fun i x hi hx kn => ?_) (fun kn => ?_)
  ·try dsimp only
   unfold acK
   rw [acp hi, acj hx, acl hi (by simp), take_succ hx, List.flatten_append]
   have : acP ((List.take i [a, b]).flatten.length + x.length) = true := by
    refine acq ?_
    have h1 : x.length ≤ 1000000 := by
     have := List.mem_of_getElem? hx
     simp at this
     rcases this with rfl | rfl <;> assumption
    have h2 : (List.take i [a, b]).flatten.length ≤ 2000000 := by
     have : i = 0 ∨ i = 1 := by simp at hi; omega
     rcases this with rfl | rfl <;> simp <;> omega
    omega
   rw [adP this]
   simp
  ·try dsimp only
   unfold acK
   rw [acN]
   simp
 unfold acG af1
 refine afk (fun x : Int × Int => ∃ i : Nat, i ≤ 2 ∧ x = ((([a, b].take i).flatten.length : Int), (i : Int))) (fun x => 2 - x.2.toNat) ?_ ⟨0, by omega, rfl⟩
 rintro x ⟨i, hi, rfl⟩
 rcases Nat.lt_or_ge i 2 with h2 | h2
 ·refine .inr ⟨((([a, b].take (i + 1)).flatten.length : Int), (i : Int) + 1), ⟨i + 1, h2, by simp⟩, by simp; omega, fun kn => ?_⟩
  have hi' : i < [a, b].length := h2
  obtain ⟨x, hx⟩ : ∃ x, [a, b][i]? = some x := ⟨_, List.getElem?_eq_getElem hi'⟩
  have hxl : x.length ≤ 1000000 := by
   have := List.mem_of_getElem? hx
   simp at this
   rcases this with rfl | rfl <;> assumption
  have h3 : (List.take i [a, b]).flatten.length ≤ 2000000 := by
   have : i = 0 ∨ i = 1 := by omega
   rcases this with rfl | rfl <;> simp <;> omega
  try dsimp only
  unfold adz
  rw [acp hi', acj hx, acQ]
  have e1 : (((List.take i [a, b]).flatten.length : Int) + (x.length : Int)) = ((List.take i [a, b]).flatten.length + x.length : Nat) := by omega
  rw [e1, hk _ (by omega)]
  have : ilt ((((List.take i [a, b]).flatten.length + x.length : Nat)) : Int) 0 = false := by simp [ilt]; omega
  rw [aco this, acl hi' (by simp), take_succ hx]
  simp
 ·refine .inl fun kn => ?_
  obtain rfl : i = 2 := by omega
  try dsimp only
  unfold adz
  rw [show ((2 : Nat) : Int) = (([a, b].length : Nat) : Int) from rfl, acN]
  have e1 : ((List.take 2 [a, b]).flatten.length : Int) = ((a.length + b.length : Nat) : Int) := by simp
  have e2 : ilt (((a.length + b.length : Nat)) : Int) 0 = false := by simp [ilt]; omega
  rw [e1]
  dsimp only
  rw [aco e2, Int.sub_zero, hk _ (by omega)]
  rcases Nat.eq_zero_or_pos (a.length + b.length) with h0 | h0
  ·have : igt (((a.length + b.length : Nat)) : Int) 0 = false := by simp [igt]; omega
   rw [aco this]
   exact second
  ·have : igt (((a.length + b.length : Nat)) : Int) 0 = true := by simp [igt]; omega
   rw [acB this]
   have : ((ilt (0 : Int) (((a.length + b.length : Nat)) : Int)) && (acP (Int.toNat (((a.length + b.length : Nat)) : Int)))) = true := by
    rw [Int.toNat_natCast, acq (by omega)]
    simp [ilt]; omega
   rw [adP this]
   have : ile 0 (adK (List.replicate (Int.toNat (((a.length + b.length : Nat)) : Int)) (0 : Int))) = true := by simp [ile]
   rw [adP this]
   exact second
def ayq (b : acv) (id day : Int) : Option ayV := b.2.2.2.1.find? fun l => l.1 == id && inP day l.2.1.1 l.2.1.2
theorem aMS {α : Type} (p : α → Bool) : ∀ l : List α, l.find? p = (match l.findIdx? p with | some j => l[j]? | none => none)
 | [] => rfl
 | a :: l => by
   rw [List.find?_cons, List.findIdx?_cons]
   cases h : p a with
   | true => simp
   | false =>
     simp only [Bool.false_eq_true, if_false]
     rw [aMS p l]
     cases l.findIdx? p <;> simp
theorem aTS {b : acv} (hn : b.2.2.2.1.length ≤ 1000) (id day : Int) : aqe b id day = some (match ayq b id day with | some l => (l, true) | none => ((0, (0, 0), 0), false)) := by
 unfold aqe aGy
 refine Eq.trans (agd b.2.2.2.1 (fun l => l.1 == id && inP day l.2.1.1 l.2.1.2) (fun z5 => ifb (ilt z5 (0 : Int)) (some (((0 : Int), ((0 : Int), (0 : Int)), (0 : Int)), false)) (adU b.2.2.2.1 z5 fun e6 => some (e6, true))) (some ((0, (0, 0), 0), false)) (fun i a hi ha kn => ?_) (fun kn => ?_)) ?_
 ·try dsimp only
  unfold anj
  rw [acp hi, acj ha, afm, ab4, acl hi (by omega)]
  cases h1 : (a.1 == id) with
  | false =>
    have : ieq a.1 id = false := h1
    simp [this]
  | true =>
    have : ieq a.1 id = true := h1
    rw [this]
    cases inP day a.2.1.1 a.2.1.2 <;> simp
 ·try dsimp only
  unfold anj
  rw [acN]
 ·unfold ayq
  rw [aMS]
  cases h : b.2.2.2.1.findIdx? (fun l => l.1 == id && inP day l.2.1.1 l.2.1.2) with
  | none => rfl
  | some j =>
    obtain ⟨hj, _, _⟩ := List.findIdx?_eq_some_iff_getElem.1 h
    have : ilt (j : Int) 0 = false := by simp [ilt]
    try dsimp only
    rw [aco this, acj (List.getElem?_eq_getElem hj), List.getElem?_eq_getElem hj]
end Go.Proofs.ZzM
end
noncomputable section
namespace Go.Proofs.ZzM
open Go Go.Am
def aTv (a : Int) : List Int → List Int
 | [] => [a]
 | b :: t => if a ≤ b then a :: b :: t else b :: aTv a t
def aEj : List Int → List Int
 | [] => []
 | a :: t => aTv a (aEj t)
def aol (p : Option Int) : List Int → List Int
 | [] => []
 | a :: t => if p = some a then aol (some a) t else a :: aol (some a) t
def aKi (l : List Int) : List Int := aol none (aEj l)
theorem aA7 (a : Int) : ∀ l, (aTv a l).Perm (a :: l)
 | [] => List.Perm.refl _
 | b :: t => by
   unfold aTv
   split
   ·exact List.Perm.refl _
   ·exact ((aA7 a t).cons b).trans (List.Perm.swap a b t)
theorem ano : ∀ l, (aEj l).Perm l
 | [] => List.Perm.refl _
 | a :: t => (aA7 a _).trans ((ano t).cons a)
theorem aA6 (a : Int) : ∀ {l : List Int}, l.Pairwise (· ≤ ·) → (aTv a l).Pairwise (· ≤ ·)
 | [], _ => by simp [aTv]
 | b :: t, h => by
   rw [List.pairwise_cons] at h
   unfold aTv
   split
   ·rename_i hab
    refine List.pairwise_cons.2 ⟨fun x hx => ?_, List.pairwise_cons.2 h⟩
    rcases List.mem_cons.1 hx with rfl | hx
    ·exact hab
    ·have := h.1 x hx; omega
   ·rename_i hab
    refine List.pairwise_cons.2 ⟨fun x hx => ?_, aA6 a h.2⟩
    rcases List.mem_cons.1 ((aA7 a t).mem_iff.1 hx) with rfl | hx
    ·omega
    ·exact h.1 x hx
theorem ann : ∀ l : List Int, (aEj l).Pairwise (· ≤ ·)
 | [] => List.Pairwise.nil
 | a :: t => aA6 a (ann t)
theorem aRo (l : List Int) : asD l = aEj l := by
 have h1 : (asD l).Pairwise (· ≤ ·) := by
  have := List.pairwise_mergeSort (le := fun a b : Int => decide (a ≤ b)) (fun a b c h1 h2 => by simp at *; omega) (fun a b => by simp; omega) l
  exact this.imp fun h => by simpa using h
 exact List.Perm.eq_of_pairwise (le := (· ≤ ·)) (fun a b _ _ h1 h2 => by omega) h1 (ann l) ((List.mergeSort_perm l _).trans (ano l).symm)
theorem aDw (a : Int) : ∀ (l : List Int) (p : Option Int), aol p (l ++ [a]) = aol p l ++ (if (match l.getLast? with | some b => some b | none => p) = some a then [] else [a])
 | [], p => by simp only [List.nil_append, aol, List.getLast?_nil]; rfl
 | b :: t, p => by
   have ih := aDw a t (some b)
   have e : (match (b :: t).getLast? with | some c => some c | none => p) = (match t.getLast? with | some c => some c | none => some b) := by
    cases t with
    | nil => rfl
    | cons c t =>
      rw [List.getLast?_cons_cons]
      cases h : (c :: t).getLast? with
      | none => simp at h
      | some x => rfl
   rw [e]
   simp only [List.cons_append, aol, ih]
   split <;> simp
theorem arj (l : List Int) : ∀ m, m ≤ l.length → Lib.compactUpTo l.toArray m = aol none (l.take m)
 | 0, _ => by simp [Lib.compactUpTo, aol]
 | m + 1, h => by
   have hm : m < l.length := h
   rw [Lib.compactUpTo_succ, arj l m (by omega), take_succ (List.getElem?_eq_getElem hm), aDw]
   congr 1
   have e1 : l.toArray[m]! = l[m] := by simp [getElem!_pos, hm]
   rw [e1]
   unfold Lib.keeps
   rw [e1]
   cases m with
   | zero => simp
   | succ m =>
     have hm' : m < l.length := by omega
     have e2 : l.toArray[m + 1 - 1]! = l[m] := by simp [getElem!_pos, hm']
     rw [e2]
     have e3 : (l.take (m + 1)).getLast? = some l[m] := by rw [take_succ (List.getElem?_eq_getElem hm'), List.getLast?_append]; rfl
     rw [e3]
     by_cases hne : l[m + 1] = l[m]
     ·simp [hne]
     ·have : ¬ l[m] = l[m + 1] := fun h => hne h.symm
      simp [hne, this]
theorem aLD (l : List Int) : aqh l = aol none l := by
 unfold aqh Lib.compact
 rw [arj l l.length (Nat.le_refl _), List.take_length]
theorem aOW (l : List Int) : aqh (asD l) = aKi l := by rw [aRo, aLD]; rfl
theorem aHt : ∀ {l : List Int} {p : Option Int} {x : Int}, p ≠ some x → (x ∈ aol p l ↔ x ∈ l)
 | [], _, _, _ => Iff.rfl
 | a :: t, p, x, hp => by
   unfold aol
   by_cases hx : x = a
   ·subst hx
    rw [if_neg hp]; simp
   ·have ih := aHt (l := t) (p := some a) (x := x) (fun e => hx (by cases e; rfl))
    split <;> simp [ih, hx]
theorem aL6 : ∀ {l : List Int} {p : Option Int}, l.Pairwise (· ≤ ·) → (∀ q, p = some q → ∀ x ∈ l, q ≤ x) → (aol p l).Pairwise (· < ·) ∧ ∀ q, p = some q → ∀ x ∈ aol p l, q < x
 | [], p, _, _ => ⟨List.Pairwise.nil, fun _ _ _ h => by cases h⟩
 | a :: t, p, h, hp => by
   rw [List.pairwise_cons] at h
   obtain ⟨i1, i2⟩ := aL6 (l := t) (p := some a) h.2 (fun q hq x hx => by cases hq; exact h.1 x hx)
   unfold aol
   split
   ·rename_i e
    exact ⟨i1, fun q hq x hx => by rw [e] at hq; cases hq; exact i2 _ rfl x hx⟩
   ·rename_i e
    refine ⟨List.pairwise_cons.2 ⟨fun x hx => i2 _ rfl x hx, i1⟩, fun q hq x hx => ?_⟩
    have := hp q hq a (by simp)
    have hne : q ≠ a := fun h => e (by rw [hq, h])
    rcases List.mem_cons.1 hx with rfl | hx
    ·omega
    ·have := i2 _ rfl x hx; omega
theorem apW {l : List Int} {x : Int} : x ∈ aKi l ↔ x ∈ l := by
 unfold aKi
 rw [aHt (by simp), (ano l).mem_iff]
theorem aKu (l : List Int) : (aKi l).Pairwise (· < ·) := (aL6 (ann l) (fun q hq => by cases hq)).1
theorem aHu : ∀ (l : List Int) (p : Option Int), (aol p l).length ≤ l.length
 | [], _ => Nat.le_refl _
 | a :: t, p => by
   have := aHu t (some a)
   unfold aol
   split <;> simp <;> omega
theorem ayz (l : List Int) : (aKi l).length ≤ l.length := by
 unfold aKi
 have := aHu (aEj l) none
 rwa [(ano l).length_eq] at this
theorem aTT {l m : List Int} (hl : l.Pairwise (· < ·)) (hm : m.Pairwise (· < ·)) (h : ∀ x, x ∈ l ↔ x ∈ m) : l = m := by
 induction l generalizing m with
 | nil =>
   cases m with
   | nil => rfl
   | cons a t => have := (h a).2 (by simp); cases this
 | cons a t ih =>
   rw [List.pairwise_cons] at hl
   cases m with
   | nil => have := (h a).1 (by simp); cases this
   | cons b u =>
     rw [List.pairwise_cons] at hm
     have hab : a = b := by
      rcases List.mem_cons.1 ((h a).1 (by simp)) with h1 | h1
      ·exact h1
      ·rcases List.mem_cons.1 ((h b).2 (by simp)) with h2 | h2
       ·exact h2.symm
       ·have := hm.1 a h1; have := hl.1 b h2; omega
     subst hab
     rw [ih hl.2 hm.2 fun x => ?_]
     constructor
     ·intro hx
      rcases List.mem_cons.1 ((h x).1 (by simp [hx])) with h1 | h1
      ·have := hl.1 x hx; omega
      ·exact h1
     ·intro hx
      rcases List.mem_cons.1 ((h x).2 (by simp [hx])) with h1 | h1
      ·have := hm.1 x hx; omega
      ·exact h1
end Go.Proofs.ZzM
end
noncomputable section
namespace Go.Proofs.ZzM
open Go Go.Am
def awR (b : acv) (s : List (Int × acS)) (c : Cmp) : Int :=
 if (c.2.2.1 ++ c.2.2.2.1).any (fun id => ald s id c.2.1 == 5) then 5 else
 if (c.2.2.1 ++ c.2.2.2.1).any (fun id => ald s id c.2.1 == 4) then 4 else
 if (c.2.2.1 ++ c.2.2.2.1).any (fun id => (ayq b id c.2.1).isSome) then 9 else
 if 1 < (adb c.2.2.1 c.2.2.2.1).length then 1 else if 1 < (adb c.2.2.2.1 c.2.2.1).length then 1 else
 if (adb c.2.2.1 c.2.2.2.1).length + (adb c.2.2.2.1 c.2.2.1).length = 0 then 1 else 0
def aIa (c : Cmp) : Bool :=
 inP c.1 1 1099511627776 && (aLz c.2.1 && (inP c.2.2.2.2.1 (-1125899906842624) 1125899906842624 && (inP c.2.2.2.2.2.1 0 1073741824 && (ai1 c.2.2.2.2.2.2 (-10000) 10000 && (ajn c.2.2.1 && ajn c.2.2.2.1)))))
def ak5 (b : acv) (s : List (Int × acS)) (i : Nat) (c : Cmp) : Int :=
 if !aIa c then 1 else if (b.2.2.2.2.1.take i).any (fun x => x.1 == c.1) then 6 else awR b s c
theorem aJl (a b : List Int) : (adb a b).length ≤ a.length := List.length_filter_le _ _
set_option maxHeartbeats 1000000 in
theorem aBE {b : acv} (hn : b.2.2.2.2.1.length ≤ 1000) (hl : b.2.2.2.1.length ≤ 1000) (s : List (Int × acS)) {i : Nat} {c : Cmp} (hA : c.2.2.1.length ≤ 1000) (hB : c.2.2.2.1.length ≤ 1000)
 (hc : b.2.2.2.2.1[i]? = some c) : adQ b s i = some (ak5 b s i c) := by
 have hi : i < b.2.2.2.2.1.length := (List.getElem?_eq_some_iff.1 hc).1
 unfold adQ ai9 ak5 aIa
 rw [acj hc, afm, ab4]
 cases inP c.1 1 1099511627776 with
 | false => rfl
 | true =>
 rw [aGM, ab4]
 cases aLz c.2.1 with
 | false => rfl
 | true =>
 rw [afm, ab4]
 cases inP c.2.2.2.2.1 (-1125899906842624) 1125899906842624 with
 | false => rfl
 | true =>
 rw [afm, ab4]
 cases inP c.2.2.2.2.2.1 0 1073741824 with
 | false => rfl
 | true =>
 rw [auF, ab4]
 cases ai1 c.2.2.2.2.2.2 (-10000) 10000 with
 | false => rfl
 | true =>
 rw [auD (by omega), ab4]
 cases ajn c.2.2.1 with
 | false => rfl
 | true =>
 rw [auD (by omega), ab4]
 cases ajn c.2.2.2.1 with
 | false => rfl
 | true =>
 have hg : ((ile (0 : Int) (i : Int)) && (ile (i : Int) (adK b.2.2.2.2.1))) = true := by simp [ile, adK]; omega
 simp only [Bool.not_true, acO, Bool.and_self, Bool.false_eq_true, if_false]
 rw [adP hg, Int.toNat_natCast]
 -- what comes behind the IDs
 have rest : (ab8 (acG ([c.2.2.1, c.2.2.2.1])) fun r12 => acm (fun (v36 : Int) kk38 => ad1 s r12 (acD ([(5 : Int), (4 : Int)])) c.2.1 ([(5 : Int), (4 : Int)]) v36 (fun u37 => kk38 u37) (fun z23 => some z23) (fun _ => acm (fun (v33 : Int) kk35 => ad0 r12 (acD r12) b.1.1 b.1.2 b.2.1 b.2.2.1 b.2.2.2.1 b.2.2.2.2.1 b.2.2.2.2.2 c.2.1 v33 (fun u34 => kk35 u34) (fun z28 => some z28) (fun _ => ab8 (aep c.2.2.1 c.2.2.2.1) fun r30 => ab8 (aep c.2.2.2.1 c.2.2.1) fun r31 => ifb (igt (acD r30) (1 : Int)) (some (1 : Int)) (ifb (igt (acD r31) (1 : Int)) (some (1 : Int)) (ck ((acD r30) + (acD r31)) fun n32 => ifb (ieq n32 (0 : Int)) (some (1 : Int)) (some (0 : Int)))))) (0 : Int))) (0 : Int)) = some (awR b s c) := by
  rw [aQ3 (by omega) (by omega), ab4]
  have hall : (c.2.2.1 ++ c.2.2.2.1).length ≤ 2000 := by simp; omega
  have last : (ab8 (aep c.2.2.1 c.2.2.2.1) fun r30 => ab8 (aep c.2.2.2.1 c.2.2.1) fun r31 => ifb (igt (acD r30) (1 : Int)) (some (1 : Int)) (ifb (igt (acD r31) (1 : Int)) (some (1 : Int)) (ck ((acD r30) + (acD r31)) fun n32 => ifb (ieq n32 (0 : Int)) (some (1 : Int)) (some (0 : Int))))) =
   some (if 1 < (adb c.2.2.1 c.2.2.2.1).length then 1 else if 1 < (adb c.2.2.2.1 c.2.2.1).length then 1 else if (adb c.2.2.1 c.2.2.2.1).length + (adb c.2.2.2.1 c.2.2.1).length = 0 then 1 else 0) := by
   rw [alx (by omega) (by omega), ab4, alx (by omega) (by omega), ab4]
   have l1 := aJl c.2.2.1 c.2.2.2.1
   have l2 := aJl c.2.2.2.1 c.2.2.1
   rw [acQ, acQ, acu (by omega) (by omega)]
   by_cases c1 : 1 < (adb c.2.2.1 c.2.2.2.1).length
   ·rw [acB (by simp [igt]; omega), if_pos c1]
   rw [aco (by simp [igt]; omega), if_neg c1]
   by_cases c2 : 1 < (adb c.2.2.2.1 c.2.2.1).length
   ·rw [acB (by simp [igt]; omega), if_pos c2]
   rw [aco (by simp [igt]; omega), if_neg c2]
   by_cases c3 : (adb c.2.2.1 c.2.2.2.1).length + (adb c.2.2.2.1 c.2.2.1).length = 0
   ·rw [acB (by simp [ieq]; omega), if_pos c3]
   rw [aco (by simp [ieq]; omega), if_neg c3]
  refine Eq.trans (ame [(5 : Int), 4] (fun _ want => if (c.2.2.1 ++ c.2.2.2.1).any (fun id => ald s id c.2.1 == want) then some want else none) some (some (if (c.2.2.1 ++ c.2.2.2.1).any (fun id => (ayq b id c.2.1).isSome) then 9 else if 1 < (adb c.2.2.1 c.2.2.2.1).length then 1 else if 1 < (adb c.2.2.2.1 c.2.2.1).length then 1 else if (adb c.2.2.1 c.2.2.2.1).length + (adb c.2.2.2.1 c.2.2.1).length = 0 then 1 else 0)) (fun j want hj hw kn => ?_) (fun kn => ?_)) ?_
  ·try dsimp only
   unfold ad1
   rw [acp hj, afX hj, aev hw]
   refine Eq.trans (agJ (c.2.2.1 ++ c.2.2.2.1) (fun id => ald s id c.2.1 == want) (fun _ => some want) (some want) (kn ((j : Int) + 1)) (fun _ => rfl) (fun k a hk ha kn' => ?_) (fun kn' => ?_)) ?_
   ·try dsimp only
    unfold afH
    rw [acp hk, acj ha, aKO, ab4, acl hk (by omega), adX]
   ·try dsimp only
    unfold afH
    rw [acN, acl hj (by simp)]
   ·cases List.any (c.2.2.1 ++ c.2.2.2.1) (fun id => ald s id c.2.1 == want) <;> rfl
  ·try dsimp only
   unfold ad1
   rw [acN]
   refine Eq.trans (agJ (c.2.2.1 ++ c.2.2.2.1) (fun id => (ayq b id c.2.1).isSome) (fun _ => some 9) (some 9) (some (if 1 < (adb c.2.2.1 c.2.2.2.1).length then 1 else if 1 < (adb c.2.2.2.1 c.2.2.1).length then 1 else if (adb c.2.2.1 c.2.2.2.1).length + (adb c.2.2.2.1 c.2.2.1).length = 0 then 1 else 0)) (fun _ => rfl) (fun k a hk ha kn' => ?_) (fun kn' => ?_)) ?_
   ·try dsimp only
    unfold ad0
    have haw := aTS hl a c.2.1
    rw [acp hk, acj ha, acl hk (by omega)]
    rw [show aqe ((b.1.1, b.1.2), b.2.1, b.2.2.1, b.2.2.2.1, b.2.2.2.2.1, b.2.2.2.2.2) a c.2.1 = aqe b a c.2.1 from rfl, haw, ab4]
    cases ayq b a c.2.1 <;> rfl
   ·try dsimp only
    unfold ad0
    rw [acN, last]
   ·cases List.any (c.2.2.1 ++ c.2.2.2.1) (fun id => (ayq b id c.2.1).isSome) <;> rfl
  ·unfold awR aeS aeS aeS
   try dsimp only
   cases List.any (c.2.2.1 ++ c.2.2.2.1) (fun id => ald s id c.2.1 == 5) with
   | true => rfl
   | false =>
   cases List.any (c.2.2.1 ++ c.2.2.2.1) (fun id => ald s id c.2.1 == 4) <;> rfl
 refine Eq.trans (agJ (b.2.2.2.2.1.take i) (fun x => x.1 == c.1) (fun z11 => ifb (ige z11 (0 : Int)) (some 6) (some (awR b s c))) (some 6) (some (awR b s c)) (fun j => ?_) (fun j a hj ha kn => ?_) (fun kn => ?_)) ?_
 ·have : ige (j : Int) 0 = true := by simp [ige]
  rw [acB this]
 ·try dsimp only
  unfold afI
  rw [rest, acp hj, acj ha, acl hj (by rw [List.length_take]; omega), adX]
 ·try dsimp only
  unfold afI
  rw [acN, rest]
 ·cases List.any (b.2.2.2.2.1.take i) (fun x => x.1 == c.1) <;> rfl
def aDm (b : acv) (g : acS) : List Int :=
 [g.2.1] ++ (b.2.2.2.2.1.filter fun c => !(c.2.2.1.contains g.1 == c.2.2.2.1.contains g.1)).map (fun c => c.2.1) ++ (b.2.2.2.2.2.filter fun n => n.1 == g.1).map (fun n => n.2)
def acy (b : acv) (g : acS) : List Int := aKi (aDm b g)
structure ahG (b : acv) : Prop where
 gauges : b.2.1.length ≤ 1000
 uses : b.2.2.1.length ≤ 1000
 loans : b.2.2.2.1.length ≤ 1000
 compares : b.2.2.2.2.1.length ≤ 1000
 looks : b.2.2.2.2.2.length ≤ 1000
 piles : ∀ c ∈ b.2.2.2.2.1, c.2.2.1.length ≤ 1000 ∧ c.2.2.2.1.length ≤ 1000
theorem aHA (l : List Int) : (asD l).length = l.length := List.length_mergeSort l
theorem aJM {b : acv} (hs : ahG b) (g : acS) : (aDm b g).length ≤ 2001 := by
 have h1 := hs.compares
 have h2 := hs.looks
 have h3 := List.length_filter_le (fun c : Cmp => !(c.2.2.1.contains g.1 == c.2.2.2.1.contains g.1)) b.2.2.2.2.1
 have h4 := List.length_filter_le (fun n : Int × Int => n.1 == g.1) b.2.2.2.2.2
 simp only [aDm, List.length_append, List.length_map, List.length_singleton]
 omega
theorem aQm {b : acv} (hs : ahG b) (g : acS) : ajy b g = some (acy b g) := by
 unfold ajy aGw
 have hr := aJM hs g
 have hd : (acy b g).length ≤ 2001 := by
  unfold acy
  have := ayz (aDm b g)
  omega
 have hcl := hs.compares
 have hll := hs.looks
 refine adg b.2.2.2.2.1 (fun i => [g.2.1] ++ ((b.2.2.2.2.1.take i).filter fun c => !(c.2.2.1.contains g.1 == c.2.2.2.1.contains g.1)).map (fun c => c.2.1)) _ rfl (fun i c hi hc kn => ?_) (fun kn => ?_)
 ·try dsimp only
  unfold anh
  obtain ⟨p1, p2⟩ := hs.piles c (List.mem_of_getElem? hc)
  rw [acp hi, acj hc, ai0 (by omega), ab4, ai0 (by omega), ab4, acl hi (by omega), acl hi (by omega), take_succ hc, List.filter_append, List.map_append]
  have hlen : ([g.2.1] ++ ((b.2.2.2.2.1.take i).filter fun c => !(c.2.2.1.contains g.1 == c.2.2.2.1.contains g.1)).map (fun c => c.2.1)).length ≤ 1001 := by
   have h3 := List.length_filter_le (fun c : Cmp => !(c.2.2.1.contains g.1 == c.2.2.2.1.contains g.1)) (b.2.2.2.2.1.take i)
   rw [List.length_take] at h3
   simp only [List.length_append, List.length_map, List.length_singleton]
   omega
  rw [acq (by simp only [List.length_singleton]; omega), Am.iff_true]
  cases h : (c.2.2.1.contains g.1 == c.2.2.2.1.contains g.1) with
  | true => simp only [Bool.not_true, acO, List.filter_cons, h, Bool.false_eq_true, if_false, List.filter_nil, List.map_nil, List.append_nil]
  | false => simp only [Bool.not_false, aee, List.filter_cons, h, if_true, List.filter_nil, List.map_cons, List.map_nil, List.append_assoc]
 ·try dsimp only
  unfold anh
  rw [acN, List.take_length]
  refine adg b.2.2.2.2.2 (fun i => [g.2.1] ++ (b.2.2.2.2.1.filter fun c => !(c.2.2.1.contains g.1 == c.2.2.2.1.contains g.1)).map (fun c => c.2.1) ++ ((b.2.2.2.2.2.take i).filter fun n => n.1 == g.1).map (fun n => n.2)) _ (by simp) (fun i n hi hn kn => ?_) (fun kn => ?_)
  ·try dsimp only
   unfold ang
   rw [acp hi, acj hn, acl hi (by omega), acl hi (by omega), take_succ hn, List.filter_append, List.map_append]
   have hlen : ([g.2.1] ++ (b.2.2.2.2.1.filter fun c => !(c.2.2.1.contains g.1 == c.2.2.2.1.contains g.1)).map (fun c => c.2.1) ++ ((b.2.2.2.2.2.take i).filter fun n => n.1 == g.1).map (fun n => n.2)).length ≤ 2001 := by
    have h3 := List.length_filter_le (fun c : Cmp => !(c.2.2.1.contains g.1 == c.2.2.2.1.contains g.1)) b.2.2.2.2.1
    have h4 := List.length_filter_le (fun n : Int × Int => n.1 == g.1) (b.2.2.2.2.2.take i)
    rw [List.length_take] at h4
    simp only [List.length_append, List.length_map, List.length_singleton]
    omega
   rw [acq (by simp only [List.length_singleton]; omega), Am.iff_true]
   cases h : (n.1 == g.1) with
   | true =>
     have : ieq n.1 g.1 = true := h
     simp [h, this]
   | false =>
     have : ieq n.1 g.1 = false := h
     simp [h, this]
  ·try dsimp only
   unfold ang
   rw [acN, List.take_length]
   rw [show ([g.2.1] ++ (b.2.2.2.2.1.filter fun c => !(c.2.2.1.contains g.1 == c.2.2.2.1.contains g.1)).map (fun c => c.2.1) ++ (b.2.2.2.2.2.filter fun n => n.1 == g.1).map (fun n => n.2)) = aDm b g from rfl]
   dsimp only
   rw [acq (by omega), Am.iff_true, acq (by rw [aHA]; omega), Am.iff_true, aOW]
   rfl
def acg (b : acv) : List (Int × Int) := b.2.1.flatMap fun g => (acy b g).map fun d => ((g.1, d) : Int × Int)
theorem aBz {b : acv} (hs : ahG b) (g : acS) : (acy b g).length ≤ 2001 := by
 unfold acy
 have := ayz (aDm b g)
 have := aJM hs g
 omega
theorem asq {α β : Type} (f : α → List β) (n : Nat) (h : ∀ a, (f a).length ≤ n) : ∀ l : List α, (l.flatMap f).length ≤ l.length * n
 | [] => by simp
 | a :: l => by
   have := asq f n h l
   have := h a
   simp only [List.flatMap_cons, List.length_append, List.length_cons, Nat.add_mul, Nat.one_mul]
   omega
theorem aFe {b : acv} (hs : ahG b) : akj b = some (acg b) := by
 unfold akj aAO
 have hg := hs.gauges
 have hlen : ∀ l : List acS, (l.flatMap fun g => (acy b g).map fun d => ((g.1, d) : Int × Int)).length ≤ l.length * 2001 := fun l =>
  asq _ 2001 (fun g => by rw [List.length_map]; exact aBz hs g) l
 refine adg b.2.1 (fun i => (b.2.1.take i).flatMap fun g => (acy b g).map fun d => ((g.1, d) : Int × Int)) _ rfl (fun i g hi hg' kn => ?_) (fun kn => ?_)
 ·try dsimp only
  unfold akY
  rw [acp hi, acj hg']
  rw [show ajy ((b.1.1, b.1.2), b.2.1, b.2.2.1, b.2.2.2.1, b.2.2.2.2.1, b.2.2.2.2.2) g = ajy b g from rfl, aQm hs, ab4]
  have hd := aBz hs g
  have hi2 := hlen (b.2.1.take i)
  have htl : (b.2.1.take i).length ≤ 1000 := by rw [List.length_take]; omega
  refine adg (acy b g) (fun j => ((b.2.1.take i).flatMap fun g => (acy b g).map fun d => ((g.1, d) : Int × Int)) ++ ((acy b g).take j).map fun d => ((g.1, d) : Int × Int)) _ (by simp) (fun j d hj hd' kn' => ?_) (fun kn' => ?_)
  ·try dsimp only
   unfold akX
   rw [acp hj, acj hd', acl hj (by omega), take_succ hd', List.map_append]
   rw [acq (by simp only [List.length_append, List.length_map, List.length_take, List.length_singleton]; omega), Am.iff_true]
   simp
  ·try dsimp only
   unfold akX
   rw [acN, List.take_length]
   dsimp only
   rw [acl hi (by omega), take_succ hg', List.flatMap_append]
   simp
 ·try dsimp only
  unfold akY
  rw [acN, List.take_length]
  rfl
def aou (b : acv) (s : List (Int × acS)) : List Int :=
 b.2.2.1.map (fun u => aRi s u.1 u.2) ++ (b.2.2.2.1.mapIdx (fun i l => aLm b s i l) ++ (b.2.2.2.2.1.mapIdx (fun i c => ak5 b s i c) ++ b.2.2.2.2.2.map (fun u => aRi s u.1 u.2)))
theorem aIm {α : Type} {f : Int → Option Int} {g : Nat → α → Int} (l : List α) (h : ∀ (i : Nat) (a : α), l[i]? = some a → f i = some (g i a)) : azD f (aok l.length) = some (l.mapIdx g) := by
 have h1 : ∀ i, i < l.length → f (i : Int) = some ((l.mapIdx g)[i]?.getD 0) := by
  intro i hi
  rw [h i l[i] (List.getElem?_eq_getElem hi)]
  simp [hi]
 have h2 : ∀ x ∈ aok l.length, f x = some ((l.mapIdx g)[x.toNat]?.getD 0) := by
  intro x hx
  unfold aok at hx
  obtain ⟨i, hi, rfl⟩ := List.mem_map.1 hx
  rw [h1 i (by simpa using hi)]
  rfl
 rw [as1 h2]
 congr 1
 refine List.ext_getElem (by simp [aok]) fun i h3 h4 => ?_
 have h5 : i < l.length := by simpa using h4
 simp [aok, h5]
theorem aRx {b : acv} (hs : ahG b) (s : List (Int × acS)) : aiP b s = some (aou b s) := by
 unfold aiP aou
 rw [as1 (fun u _ => aHV s u.1 u.2), ab4, aIm b.2.2.2.1 (fun i l hl => aJQ hs.loans hs.uses s hl), ab4,
  aIm b.2.2.2.2.1 (fun i c hc => aBE hs.compares hs.loans s (hs.piles c (List.mem_of_getElem? hc)).1 (hs.piles c (List.mem_of_getElem? hc)).2 hc), ab4, as1 (fun u _ => aHV s u.1 u.2), ab4]
def acz (b : acv) : Int :=
 if !ai1 b.1 0 1000000 then 1 else
 if 12 < b.2.1.length then 2 else if 40 < b.2.2.1.length then 2 else if 12 < b.2.2.2.1.length then 2 else if 40 < b.2.2.2.2.1.length then 2 else if 10 < b.2.2.2.2.2.length then 2 else
 if aie b != 0 then aie b else
 match (aou b (ai2 b)).find? (fun e => e != 0) with
 | some e => e
 | none => if 59 < (acg b).length then 2 else if 300 < 2 * b.2.1.length + 2 * ((acg b).length - b.2.1.length : Int) + 2 * b.2.2.2.2.1.length then 2 else 0
theorem aDQ {b : acv} (hs : ahG b) : (acg b).length ≤ 2001000 := by
 have := asq (fun g : acS => (acy b g).map fun d => ((g.1, d) : Int × Int)) 2001 (fun g => by rw [List.length_map]; exact aBz hs g) b.2.1
 have h2 := hs.gauges
 unfold acg
 omega
theorem af5 {b : acv} (hs : ahG b) (hr : ∀ g ∈ b.2.1, I64 g.2.2.2.2.1.1) : acV b = some (acz b) := by
 unfold acV aAZ acz
 rw [auF, ab4]
 cases ai1 b.1 0 1000000 with
 | false => rfl
 | true =>
 have h1 := hs.gauges
 have h2 := hs.compares
 have h3 := aDQ hs
 rw [aco (show (!true) = false from rfl), if_neg (by simp)]
 simp only [acQ]
 by_cases c0 : 12 < b.2.1.length
 ·rw [acB (by simp [igt]; omega), if_pos c0]
 rw [aco (by simp [igt]; omega), if_neg c0]
 by_cases c1 : 40 < b.2.2.1.length
 ·rw [acB (by simp [igt]; omega), if_pos c1]
 rw [aco (by simp [igt]; omega), if_neg c1]
 by_cases c2 : 12 < b.2.2.2.1.length
 ·rw [acB (by simp [igt]; omega), if_pos c2]
 rw [aco (by simp [igt]; omega), if_neg c2]
 by_cases c3 : 40 < b.2.2.2.2.1.length
 ·rw [acB (by simp [igt]; omega), if_pos c3]
 rw [aco (by simp [igt]; omega), if_neg c3]
 by_cases c4 : 10 < b.2.2.2.2.2.length
 ·rw [acB (by simp [igt]; omega), if_pos c4]
 rw [aco (by simp [igt]; omega), if_neg c4]
 rw [aDn hr h1, ab4]
 cases hm : (aie b != 0) with
 | true =>
   have : ine (aie b) 0 = true := hm
   rw [acB this, if_pos rfl]
 | false =>
 have : ine (aie b) 0 = false := hm
 rw [aco this, if_neg (by simp)]
 rw [aDD h1, ab4]
 unfold aHM
 rw [aRx hs, ab4]
 cases (aou b (ai2 b)).find? (fun e => e != 0) with
 | some e => rfl
 | none =>
 dsimp only
 rw [aFe hs, ab4]
 by_cases c5 : 59 < (acg b).length
 ·rw [acB (by simp [igt]; omega), if_pos c5]
 rw [aco (by simp [igt]; omega), if_neg c5]
 rw [acu (by omega) (by omega), acu (by omega) (by omega), acu (by omega) (by omega), acu (by omega) (by omega), acu (by omega) (by omega), acu (by omega) (by omega)]
 by_cases c6 : 300 < 2 * b.2.1.length + 2 * ((acg b).length - b.2.1.length : Int) + 2 * b.2.2.2.2.1.length
 ·rw [acB (by simp [igt]; omega), if_pos c6]
 rw [aco (by simp [igt]; omega), if_neg c6]
end Go.Proofs.ZzM
end
noncomputable section
namespace Go.Proofs.ZzM
open Go Go.Am
theorem wrapU {n : Nat} (h : n < 18446744073709551616) : IntKind.wrap .u64 (n : Int) = n := by
 simp only [IntKind.wrap, IntKind.bits, IntKind.signed]
 simp
 omega
theorem wrapI {n : Nat} (h : n < 9223372036854775808) : IntKind.wrap .i64 (n : Int) = n := by
 simp only [IntKind.wrap, IntKind.bits, IntKind.signed]
 simp
 omega
def agw (l : List (Int × Int)) (x d : Int) : Option Nat := l.findIdx? fun n => decide (x = n.1) && decide (d = n.2)
theorem aKc {l : List (Int × Int)} (hn : l.length ≤ 100000000) (x d : Int) : acR l (x, d) = some (match agw l x d with | some j => (j : Int) | none => -1) := by
 unfold acR aeG
 refine Eq.trans (agd l (fun n => decide (x = n.1) && decide (d = n.2)) some (some (-1)) (fun i a hi ha kn => ?_) (fun kn => ?_)) ?_
 ·try dsimp only
  unfold adv
  rw [acp hi, acj ha, acl hi (by omega), adX, Bool.and_true]
 ·try dsimp only
  unfold adv
  rw [acN]
 ·unfold agw
  cases List.findIdx? (fun n => decide (x = n.1) && decide (d = n.2)) l <;> rfl
def atP (l : List (Int × Int)) (p : List Int) (d : Int) : Int :=
 match p with
 | [] => 0
 | x :: _ => match agw l x d with | some j => (j : Int) + 1 | none => 0
theorem ag0 {l : List (Int × Int)} {x d : Int} {j : Nat} (h : agw l x d = some j) : j < l.length ∧ l[j]? = some (x, d) := by
 unfold agw at h
 obtain ⟨hj, hp, _⟩ := List.findIdx?_eq_some_iff_getElem.1 h
 refine ⟨hj, ?_⟩
 rw [List.getElem?_eq_getElem hj]
 simp only [Bool.and_eq_true, decide_eq_true_eq] at hp
 congr 1
 exact Prod.ext hp.1.symm hp.2.symm
theorem aQS (m : Maker) (p : List Int) (d : Int) (hn : m.2.1.length ≤ 100000000) : afD m p d = some (atP m.2.1 p d) := by
 unfold afD apb atP
 cases p with
 | nil => simp [acQ, ieq]
 | cons x p =>
   have h : ieq (acD (x :: p)) 0 = false := by
    rw [acQ]
    simp only [ieq, List.length_cons, beq_eq_false_iff_ne, ne_eq]
    omega
   rw [h, acO, show (0 : Int) = ((0 : Nat) : Int) from rfl, acj (a := x) rfl, aKc hn, ab4]
   cases hx : agw m.2.1 x d with
   | none => dsimp only; rw [acu (by omega) (by omega)]; simp only [hx]; rfl
   | some j =>
     have := (ag0 hx).1
     dsimp only
     rw [acu (by omega) (by omega)]
     simp only [hx]
def axP (s : List (Int × acS)) (p : List Int) : Int × Int :=
 match p with
 | [] => (0, 1)
 | x :: _ => match alP (k := tI) (v := ach) x s with
   | some g => g.2.2.2.2.1
   | none => (0, 0)
theorem aHL (s : List (Int × acS)) (p : List Int) : afS s p = some (axP s p) := by
 unfold afS ai8 axP
 cases p with
 | nil => simp [acQ, ieq]
 | cons x p =>
   have h : ieq (acD (x :: p)) 0 = false := by
    rw [acQ]
    simp only [ieq, List.length_cons, beq_eq_false_iff_ne, ne_eq]
    omega
   rw [h, acO, show (0 : Int) = ((0 : Nat) : Int) from rfl, acj (a := x) rfl]
   cases hx : alP (k := tI) (v := ach) x s with
   | none => simp only [aHm, hx]
   | some g => simp only [aHm, hx]
theorem aL3 {l : List (Int × Int)} (hr : ∀ r ∈ l, I64 r.1) (hn : l.length ≤ 1000) : agF l = some (if l.any (fun r => !aCa r) then 1 else 0) := by
 unfold agF aAs
 refine Eq.trans (agJ l (fun r => !aCa r) (fun _ => some 1) (some 1) (some 0) (fun _ => rfl) (fun i a hi ha kn => ?_) (fun kn => ?_)) ?_
 ·try dsimp only
  unfold akT
  rw [acp hi, acj ha, aHf (hr a (List.mem_of_getElem? ha)), ab4, acl hi (by omega), adX]
 ·try dsimp only
  unfold akT
  rw [acN]
 ·cases l.any (fun r => !aCa r) <;> rfl
def anL (n d : Int) : Int × Int := (n / (Nat.gcd n.natAbs d.natAbs : Nat), d / (Nat.gcd n.natAbs d.natAbs : Nat))
theorem ajm (r : Int × Int) : aCa r = true ↔ 1 ≤ r.2 ∧ r.2 ≤ 2147483647 ∧ (r.1.natAbs : Int) ≤ 2147483647 ∧ Nat.gcd r.1.natAbs r.2.natAbs = 1 := by
 simp [aCa]
theorem aE1 {n d : Int} (hd : 0 < d) : ∃ g : Nat, 0 < g ∧ g = Nat.gcd n.natAbs d.natAbs ∧ n = (anL n d).1 * g ∧ d = (anL n d).2 * g := by
 have hg : 0 < Nat.gcd n.natAbs d.natAbs := Nat.gcd_pos_of_pos_right _ (by omega)
 refine ⟨_, hg, rfl, ?_, ?_⟩
 ·exact (Int.ediv_mul_cancel (Int.ofNat_dvd_left.2 (Nat.gcd_dvd_left _ _))).symm
 ·exact (Int.ediv_mul_cancel (Int.ofNat_dvd_left.2 (Nat.gcd_dvd_right _ _))).symm
theorem aKE {n d : Int} (hd : 0 < d) (hn : n.natAbs ≤ 2147483647) (hd2 : d ≤ 2147483647) : aCa (anL n d) = true := by
 obtain ⟨g, h0, hg, h1, h2⟩ := aE1 (n := n) hd
 rw [ajm]
 have a1 : n.natAbs = (anL n d).1.natAbs * g := by conv => lhs; rw [h1]; rw [Int.natAbs_mul, Int.natAbs_natCast]
 have a2 : d.natAbs = (anL n d).2.natAbs * g := by conv => lhs; rw [h2]; rw [Int.natAbs_mul, Int.natAbs_natCast]
 have p2 : 0 < (anL n d).2 := by
  rcases Int.lt_trichotomy (anL n d).2 0 with h | h | h
  ·have := Int.mul_neg_of_neg_of_pos h (show (0 : Int) < g by omega); omega
  ·rw [h] at h2; simp at h2; omega
  ·exact h
 have b1 : (anL n d).1.natAbs ≤ n.natAbs := by rw [a1]; exact Nat.le_mul_of_pos_right _ h0
 have b2 : (anL n d).2.natAbs ≤ d.natAbs := by rw [a2]; exact Nat.le_mul_of_pos_right _ h0
 refine ⟨by omega, by omega, by omega, ?_⟩
 have := Nat.gcd_mul_right (anL n d).1.natAbs g (anL n d).2.natAbs
 rw [← a1, ← a2, ← hg] at this
 have h3 : (Nat.gcd (anL n d).1.natAbs (anL n d).2.natAbs) * g = 1 * g := by omega
 exact Nat.eq_of_mul_eq_mul_right h0 h3
theorem aDH {n d : Int} (hd : 0 < d) (hn : n.natAbs ≤ 2147483647) (hd2 : d ≤ 2147483647) : aki n d = some (anL n d, 0) := by
 obtain ⟨g, h0, hg, h1, h2⟩ := aE1 (n := n) hd
 have hr := (ajm _).1 (aKE hd hn hd2)
 unfold aki ar5
 rw [aEW ⟨by omega, by omega⟩, ab4, aEW ⟨by omega, by omega⟩, ab4, aSL, ab4, ← hg]
 have a1 : n.natAbs = (anL n d).1.natAbs * g := by conv => lhs; rw [h1]; rw [Int.natAbs_mul, Int.natAbs_natCast]
 have a2 : d.natAbs = (anL n d).2.natAbs * g := by conv => lhs; rw [h2]; rw [Int.natAbs_mul, Int.natAbs_natCast]
 have q1 : Int.tdiv (n.natAbs : Int) (g : Int) = ((anL n d).1.natAbs : Int) := by
  rw [a1, Int.natCast_mul]; exact Int.mul_tdiv_cancel _ (by omega)
 have q2 : Int.tdiv (d.natAbs : Int) (g : Int) = ((anL n d).2.natAbs : Int) := by
  rw [a2, Int.natCast_mul]; exact Int.mul_tdiv_cancel _ (by omega)
 have z : aeN (g : Int) 0 = false := by simp [aeN]; omega
 have g1 : igt ((anL n d).1.natAbs : Int) 2147483647 = false := by simp [igt]; omega
 have g2 : igt ((anL n d).2.natAbs : Int) 2147483647 = false := by simp [igt]; omega
 rw [aco z, aco z, q1, q2, wrapU (by omega), wrapU (by omega), wrapI (by omega), wrapI (by omega), aco g1, aco g2]
 have hd0 : ilt d 0 = false := by simp [ilt]; omega
 rw [hd0]
 have e2 : ((anL n d).2.natAbs : Int) = (anL n d).2 := by omega
 rw [e2]
 by_cases hneg : n < 0
 ·have hn0 : ilt n 0 = true := by simp [ilt, hneg]
  have : (anL n d).1 ≤ 0 := by
   rcases Int.lt_or_le 0 (anL n d).1 with h | h
   ·have := Int.mul_pos h (show (0 : Int) < g by omega); omega
   ·exact h
  rw [hn0]
  rw [show (!true == false) = true from rfl, aee, acu (by omega) (by omega)]
  have : 0 - ((anL n d).1.natAbs : Int) = (anL n d).1 := by omega
  rw [this]
 ·have hn0 : ilt n 0 = false := by simp [ilt]; omega
  have : 0 ≤ (anL n d).1 := by
   rcases Int.lt_or_le (anL n d).1 0 with h | h
   ·have := Int.mul_neg_of_neg_of_pos h (show (0 : Int) < g by omega); omega
   ·exact h
  rw [hn0]
  rw [show (!false == false) = false from rfl, acO]
  have : ((anL n d).1.natAbs : Int) = (anL n d).1 := by omega
  rw [this]
structure amw (r : Int × Int) (n d : Int) : Prop where
 rat : aCa r = true
 num : -n ≤ r.1 ∧ r.1 ≤ n
 den : r.2 ≤ d
theorem amw.pos {r : Int × Int} {n d : Int} (h : amw r n d) : 1 ≤ r.2 := ((ajm r).1 h.rat).1
theorem amw.i64 {r : Int × Int} {n d : Int} (h : amw r n d) : I64 r.1 := by
 have := ((ajm r).1 h.rat).2.2.1
 exact ⟨by omega, by omega⟩
theorem aOJ {x y : Int × Int} (hx : aCa x = true) (hy : aCa y = true) : agF [x, y] = some 0 := by
 rw [aL3]
 ·simp [hx, hy]
 ·intro r hr
  have : aCa r = true := by simp at hr; rcases hr with rfl | rfl <;> assumption
  have := ((ajm r).1 this).2.2.1
  exact ⟨by omega, by omega⟩
 ·simp
theorem aky {a b m n : Int} (h1 : -m ≤ a ∧ a ≤ m) (h2 : -n ≤ b ∧ b ≤ n) : -(m * n) ≤ a * b ∧ a * b ≤ m * n := by
 have hm : 0 ≤ m := by omega
 have hn : 0 ≤ n := by omega
 have h3 : (a * b).natAbs ≤ (m * n).natAbs := by
  rw [Int.natAbs_mul, Int.natAbs_mul]
  exact Nat.mul_le_mul (by omega) (by omega)
 have h4 : 0 ≤ m * n := Int.mul_nonneg hm hn
 omega
def subP (x y : Int × Int) : Int × Int := anL (x.1 * y.2 - y.1 * x.2) (x.2 * y.2)
theorem aDz {x y : Int × Int} (hx : amw x 1000 100) (hy : amw y 1000 100) : (x.1 * y.2 - y.1 * x.2).natAbs ≤ 200000 ∧ 0 < x.2 * y.2 ∧ x.2 * y.2 ≤ 10000 := by
 have h1 := aky hx.num (show -100 ≤ y.2 ∧ y.2 ≤ 100 from ⟨by have := hy.pos; omega, hy.den⟩)
 have h2 := aky hy.num (show -100 ≤ x.2 ∧ x.2 ≤ 100 from ⟨by have := hx.pos; omega, hx.den⟩)
 have h3 := aky (show -100 ≤ x.2 ∧ x.2 ≤ 100 from ⟨by have := hx.pos; omega, hx.den⟩) (show -100 ≤ y.2 ∧ y.2 ≤ 100 from ⟨by have := hy.pos; omega, hy.den⟩)
 have h4 := Int.mul_pos (show 0 < x.2 by have := hx.pos; omega) (show 0 < y.2 by have := hy.pos; omega)
 refine ⟨by omega, h4, by omega⟩
theorem Sub_ok {x y : Int × Int} (hx : amw x 1000 100) (hy : amw y 1000 100) : aGU x y = some (subP x y, 0) := by
 obtain ⟨b1, b2, b3⟩ := aDz hx hy
 have h1 := aky hx.num (show -100 ≤ y.2 ∧ y.2 ≤ 100 from ⟨by have := hy.pos; omega, hy.den⟩)
 have h2 := aky hy.num (show -100 ≤ x.2 ∧ x.2 ≤ 100 from ⟨by have := hx.pos; omega, hx.den⟩)
 unfold aGU aK9
 rw [aOJ hx.rat hy.rat, ab4]
 rw [show ine (0 : Int) 0 = false from rfl, acO, acu (by omega) (by omega), acu (by omega) (by omega), acu (by omega) (by omega), acu (by omega) (by omega), aDH b2 (by omega) (by omega), ab4]
 rfl
theorem aO7 {n d : Int} (hd : 0 < d) : (anL n d).1.natAbs ≤ n.natAbs ∧ (anL n d).2 ≤ d := by
 obtain ⟨g, h0, hg, h1, h2⟩ := aE1 (n := n) hd
 have a1 : n.natAbs = (anL n d).1.natAbs * g := by conv => lhs; rw [h1]; rw [Int.natAbs_mul, Int.natAbs_natCast]
 have a2 : d.natAbs = (anL n d).2.natAbs * g := by conv => lhs; rw [h2]; rw [Int.natAbs_mul, Int.natAbs_natCast]
 have b1 : (anL n d).1.natAbs ≤ n.natAbs := by rw [a1]; exact Nat.le_mul_of_pos_right _ h0
 have b2 : (anL n d).2.natAbs ≤ d.natAbs := by rw [a2]; exact Nat.le_mul_of_pos_right _ h0
 exact ⟨b1, by omega⟩
theorem aER {x y : Int × Int} (hx : amw x 1000 100) (hy : amw y 1000 100) : amw (subP x y) 200000 10000 := by
 obtain ⟨b1, b2, b3⟩ := aDz hx hy
 obtain ⟨c1, c2⟩ := aO7 (n := x.1 * y.2 - y.1 * x.2) b2
 exact ⟨aKE b2 (by omega) (by omega), by unfold subP; omega, by unfold subP; omega⟩
def aOw (k : Int × Int) (n : Int) : Int × Int := anL (k.1 * n) k.2
theorem aDV {k : Int × Int} (hk : amw k 200000 10000) {n : Int} (hn : -10000 ≤ n ∧ n ≤ 10000) : (k.1 * n).natAbs ≤ 2000000000 := by
 have := aky hk.num hn
 omega
theorem aLo {n : Int} (hn : -10000 ≤ n ∧ n ≤ 10000) : aCa (n, 1) = true := by
 rw [ajm]
 exact ⟨by simp, by simp, by simp; omega, by simp⟩
theorem aSZ {k : Int × Int} (hk : amw k 200000 10000) {n : Int} (hn : -10000 ≤ n ∧ n ≤ 10000) : aBt k (n, 1) = some (aOw k n, 0) := by
 have b := aDV hk hn
 have p := hk.pos
 have q := hk.den
 unfold aBt aLb
 rw [aOJ hk.rat (aLo hn), ab4]
 rw [show ine (0 : Int) 0 = false from rfl, acO, acu (by simp only; omega) (by simp only; omega), Int.mul_one, acu (by omega) (by omega), aDH (by omega) (by simp only; omega) (by omega), ab4]
 rfl
theorem aFi {k : Int × Int} (hk : amw k 200000 10000) {n : Int} (hn : -10000 ≤ n ∧ n ≤ 10000) : amw (aOw k n) 2000000000 10000 := by
 have b := aDV hk hn
 have p := hk.pos
 have q := hk.den
 obtain ⟨c1, c2⟩ := aO7 (n := k.1 * n) (show 0 < k.2 by omega)
 exact ⟨aKE (by omega) (by omega) (by omega), by unfold aOw; omega, by unfold aOw; omega⟩
def cmpP (x y : Int × Int) : Int := if x = y then 0 else if x.1 * y.2 < y.1 * x.2 then -1 else if y.1 * x.2 < x.1 * y.2 then 1 else 0
theorem aSR {x y : Int × Int} {m d : Int} (hx : amw x m d) (hy : amw y m d) (hm : m ≤ 2000000000) (hd : d ≤ 10000) : aBr x y = some (cmpP x y) := by
 have h1 := aky hx.num (show -d ≤ y.2 ∧ y.2 ≤ d from ⟨by have := hy.pos; have := hy.den; omega, hy.den⟩)
 have h2 := aky hy.num (show -d ≤ x.2 ∧ x.2 ≤ d from ⟨by have := hx.pos; have := hx.den; omega, hx.den⟩)
 have h0 : 0 ≤ m ∧ 0 ≤ d := ⟨by have := hx.num; omega, by have := hx.pos; have := hx.den; omega⟩
 have h3 : m * d ≤ 2000000000 * 10000 := Int.mul_le_mul hm hd h0.2 (by omega)
 unfold aBr aK7 cmpP
 rw [acu (by omega) (by omega), acu (by omega) (by omega)]
 simp only [adX, Bool.and_true, Bool.and_eq_true, decide_eq_true_eq, aeN, ilt, igt, gt_iff_lt]
 have : (x.1 = y.1 ∧ x.2 = y.2) ↔ x = y := ⟨fun h => Prod.ext h.1 h.2, fun h => by rw [h]; exact ⟨rfl, rfl⟩⟩
 simp only [this]
 (repeat' split) <;> rfl
def aNC (k : Int × Int) (heat : Int × Int) : (Int × Int) × (Int × Int) :=
 if 0 < cmpP (aOw k heat.1) (aOw k heat.2) then (aOw k heat.2, aOw k heat.1) else (aOw k heat.1, aOw k heat.2)
theorem aTj {k heat : Int × Int} (hk : amw k 200000 10000) (hh : ai1 heat (-10000) 10000 = true) : ajx k heat = some (aNC k heat) := by
 simp only [ai1, Bool.and_eq_true, decide_eq_true_eq] at hh
 obtain ⟨h1, h2, h3⟩ := hh
 have n1 : -10000 ≤ heat.1 ∧ heat.1 ≤ 10000 := ⟨by omega, by omega⟩
 have n2 : -10000 ≤ heat.2 ∧ heat.2 ≤ 10000 := ⟨by omega, by omega⟩
 have r1 : amw (heat.1, 1) 10000 10000 := ⟨aLo n1, n1, by simp⟩
 have r2 : amw (heat.2, 1) 10000 10000 := ⟨aLo n2, n2, by simp⟩
 unfold ajx am6 aBs aAC alB alu
 rw [aOJ r1.rat r2.rat, ab4]
 have : ieq 0 0 = true := rfl
 rw [acB this, aSR r1 r2 (by omega) (by omega), ab4]
 have hc : ile (cmpP (heat.1, 1) (heat.2, 1)) 0 = true := by
  unfold cmpP
  simp only [ile, decide_eq_true_eq, Int.mul_one]
  split
  ·omega
  ·split
   ·omega
   ·rw [if_neg (by omega)]; omega
 rw [hc, ab4]
 simp only [Bool.not_true, acO]
 rw [aHf hk.i64, hk.rat, ab4]
 simp only [Bool.not_true, acO]
 rw [aSZ hk n1, ab4, aSZ hk n2, ab4]
 simp only [show ine (0 : Int) 0 = false from rfl, acO]
 rw [aSR (aFi hk n1) (aFi hk n2) (by omega) (by omega), ab4]
 unfold aNC
 rw [adX]
 by_cases h : 0 < cmpP (aOw k heat.1) (aOw k heat.2)
 ·rw [if_pos h, if_pos (by simpa [igt] using h)]; rfl
 ·rw [if_neg h, if_neg (by simpa [igt] using h)]; rfl
def rateK (s : List (Int × acS)) (c : Cmp) : Int × Int := subP (axP s (adb c.2.2.1 c.2.2.2.1)) (axP s (adb c.2.2.2.1 c.2.2.1))
def adV (b : acv) (c : Cmp) : (Int × Int) × (Int × Int) := aNC (rateK (ai2 b) c) c.2.2.2.2.2.2
theorem aJy {b : acv} (hs : ahG b) {c : Cmp} (hA : c.2.2.1.length ≤ 1000) (hB : c.2.2.2.1.length ≤ 1000)
 (h1 : amw (axP (ai2 b) (adb c.2.2.1 c.2.2.2.1)) 1000 100) (h2 : amw (axP (ai2 b) (adb c.2.2.2.1 c.2.2.1)) 1000 100) (hh : ai1 c.2.2.2.2.2.2 (-10000) 10000 = true) : ajM b c = some (adV b c) := by
 unfold ajM av7
 rw [aDD hs.gauges, ab4, alx (by omega) (by omega), ab4, aHL, ab4, alx (by omega) (by omega), ab4, aHL, ab4]
 unfold anw am7
 rw [Sub_ok h1 h2, ab4, ab4]
 try dsimp only
 rw [aTj (aER h1 h2) hh, ab4]
 rfl
def ag6 (b : acv) (c : Cmp) : Int × Int :=
 (((c.2.2.1.length - 1 : Nat) : Int) * b.1.1 - ((c.2.2.2.1.length - 1 : Nat) : Int) * b.1.2, ((c.2.2.1.length - 1 : Nat) : Int) * b.1.2 - ((c.2.2.2.1.length - 1 : Nat) : Int) * b.1.1)
theorem aMT {b : acv} {c : Cmp} (hA : c.2.2.1.length ≤ 1000) (hB : c.2.2.2.1.length ≤ 1000) (h1 : 0 ≤ b.1.1) (h2 : b.1.1 ≤ 1000000) (h3 : 0 ≤ b.1.2) (h4 : b.1.2 ≤ 1000000) : ams b c = some (ag6 b c) := by
 unfold ams aAV ag6
 have e : ∀ n : Nat, aGP 0 ((n : Int) - 1) = ((n - 1 : Nat) : Int) := by
  intro n
  unfold aGP
  split <;> omega
 have bd : ∀ (n : Nat) (x : Int), n ≤ 1000 → 0 ≤ x → x ≤ 1000000 → 0 ≤ ((n - 1 : Nat) : Int) * x ∧ ((n - 1 : Nat) : Int) * x ≤ 1000000000 := by
  intro n x hn h0 hx
  refine ⟨Int.mul_nonneg (by omega) h0, ?_⟩
  have := Int.mul_le_mul (show ((n - 1 : Nat) : Int) ≤ 1000 by omega) hx h0 (by omega)
  omega
 have b1 := bd _ _ hA h1 h2
 have b2 := bd _ _ hA h3 h4
 have b3 := bd _ _ hB h1 h2
 have b4 := bd _ _ hB h3 h4
 simp only [acQ]
 rw [acu (by omega) (by omega), acu (by omega) (by omega)]
 simp only [e]
 rw [acu (by omega) (by omega), acu (by omega) (by omega), acu (by omega) (by omega), acu (by omega) (by omega), acu (by omega) (by omega), acu (by omega) (by omega)]
theorem aMR {n d : Int} (hd : 1 ≤ d) (hn : -4000000000 ≤ n ∧ n ≤ 4000000000) : apB n d = some (n / d) := by
 unfold apB aAx
 have z : aeN d 0 = false := by simp [aeN]; omega
 rw [aco z]
 have t := Int.mul_tdiv_add_tmod n d
 have b1 : -4000000000 ≤ Int.tdiv n d ∧ Int.tdiv n d ≤ 4000000000 := by
  have := Int.natAbs_tdiv_le_natAbs n d
  omega
 rw [acu (by omega) (by omega), aco z, adX]
 by_cases h : Int.tmod n d < 0
 ·rw [if_pos (by simpa [ilt] using h), acu (by omega) (by omega)]
  congr 1
  have h5 : -d < Int.tmod n d := by
   have h6 := Int.natAbs_tmod n d
   have h7 := Nat.mod_lt n.natAbs (show 0 < d.natAbs by omega)
   omega
  refine (Int.ediv_eq_iff_of_pos (by omega)).2 ⟨?_, ?_⟩ |>.symm
  ·rw [Int.sub_mul, Int.mul_comm]; omega
  ·rw [Int.sub_mul, Int.mul_comm (Int.tdiv n d)]; omega
 ·rw [if_neg (by simpa [ilt] using h)]
  congr 1
  have h5 : Int.tmod n d < d := by
   have h6 := Int.natAbs_tmod n d
   have h7 := Nat.mod_lt n.natAbs (show 0 < d.natAbs by omega)
   omega
  refine (Int.ediv_eq_iff_of_pos (by omega)).2 ⟨?_, ?_⟩ |>.symm
  ·rw [Int.mul_comm]; omega
  ·rw [Int.mul_comm (Int.tdiv n d)]; omega
theorem aSE {x : Int × Int} (hx : aCa x = true) : agF [x] = some 0 := by
 rw [aL3]
 ·simp [hx]
 ·intro r hr
  have : aCa r = true := by simp at hr; subst hr; assumption
  have := ((ajm r).1 this).2.2.1
  exact ⟨by omega, by omega⟩
 ·simp
def aBI (r : Int × Int) : Int := -(-r.1 / r.2)
theorem aNm {r : Int × Int} (h : aCa r = true) : apC r = some (r.1 / r.2, 0) := by
 unfold apC aAF
 have := (ajm r).1 h
 rw [aSE h, ab4]
 rw [show ine (0 : Int) 0 = false from rfl, acO, aMR (by omega) (by omega), ab4]
theorem aww {n d : Int} (hd : 1 ≤ d) : (n / d).natAbs ≤ n.natAbs := by
 exact Int.natAbs_ediv_le_natAbs n d
theorem aQ4 {r : Int × Int} (h : aCa r = true) : auU r = some (aBI r, 0) := by
 unfold auU aF9 aBI
 have := (ajm r).1 h
 rw [aSE h, ab4]
 rw [show ine (0 : Int) 0 = false from rfl, acO, acu (by omega) (by omega), aMR (by omega) (by omega), ab4]
 have hb := aww (n := 0 - r.1) (show 1 ≤ r.2 by omega)
 rw [acu (by omega) (by omega), Int.zero_sub, Int.zero_sub]
def ad3 (b : acv) (c : Cmp) : Int × Int :=
 (c.2.2.2.2.1 - c.2.2.2.2.2.1 - (ag6 b c).2 - (adV b c).2.1 / (adV b c).2.2, c.2.2.2.2.1 + c.2.2.2.2.2.1 - (ag6 b c).1 - aBI (adV b c).1)
end Go.Proofs.ZzM
end
noncomputable section
namespace Go.Proofs.ZzM
open Go Go.Am
structure ado (b : acv) : Prop where
 film : 0 ≤ b.1.1 ∧ b.1.1 ≤ b.1.2 ∧ b.1.2 ≤ 1000000
 nG : b.2.1.length ≤ 12
 nU : b.2.2.1.length ≤ 40
 nL : b.2.2.2.1.length ≤ 12
 nC : b.2.2.2.2.1.length ≤ 40
 nK : b.2.2.2.2.2.length ≤ 10
 gauge : ∀ g ∈ b.2.1, ari g = true
 ids : b.2.1.Pairwise fun a b => a.1 < b.1
 uses : ∀ u ∈ b.2.2.1, aRi (ai2 b) u.1 u.2 = 0
 loans : ∀ i l, b.2.2.2.1[i]? = some l → aLm b (ai2 b) i l = 0
 compares : ∀ i c, b.2.2.2.2.1[i]? = some c → ak5 b (ai2 b) i c = 0
 looks : ∀ u ∈ b.2.2.2.2.2, aRi (ai2 b) u.1 u.2 = 0
 nodes : (acg b).length ≤ 59
 links : 2 * (acg b).length + 2 * b.2.2.2.2.1.length ≤ 300
theorem asj (b : acv) : aie b = 0 ↔ (∀ g ∈ b.2.1, ari g = true) ∧ b.2.1.Pairwise fun a b => a.1 < b.1 := by
 have h0 : aeS (apu b.2.1) 0 b.2.1 = none ↔ (∀ g ∈ b.2.1, ari g = true) ∧ b.2.1.Pairwise fun a b => a.1 < b.1 := by
  rw [aif, ← aNc (fun g : acS => g.1) b.2.1]
  constructor
  ·intro h
   have h1 : ∀ (j : Nat) (a : acS), b.2.1[j]? = some a → ari a = true ∧ aBV (fun g : acS => g.1) b.2.1 j a = false := by
    intro j a ha
    have := h j a ha
    rw [Nat.zero_add] at this
    unfold apu at this
    split at this
    ·cases this
    ·split at this
     ·cases this
     ·rename_i h1 h2
      exact ⟨by simpa using h1, by simpa using h2⟩
   refine ⟨fun x hx => ?_, fun i a ha => (h1 i a ha).2⟩
   obtain ⟨j, hj, rfl⟩ := List.mem_iff_getElem.1 hx
   exact (h1 j _ (List.getElem?_eq_getElem hj)).1
  ·rintro ⟨h1, h2⟩ j a ha
   rw [Nat.zero_add]
   simp [apu, h1 a (List.mem_of_getElem? ha), h2 j a ha]
 rw [← h0]
 unfold aie
 cases h : aeS (apu b.2.1) 0 b.2.1 with
 | none => simp
 | some e =>
   have : ∀ (m : List acS) (j : Nat) (x : Int), aeS (apu b.2.1) j m = some x → x ≠ 0 := by
    intro m
    induction m with
    | nil => intro j x h; cases h
    | cons a m ih =>
      intro j x h
      unfold aeS at h
      cases hp : apu b.2.1 j a with
      | none => rw [hp] at h; exact ih _ _ h
      | some y =>
        rw [hp] at h
        cases h
        unfold apu at hp
        split at hp
        ·cases hp; omega
        ·split at hp
         ·cases hp; omega
         ·cases hp
   simp [this _ _ _ h]
theorem acr (b : acv) : acz b = 0 ↔ ado b := by
 unfold acz
 constructor
 ·intro h
  split at h
  ·omega
  rename_i h1
  (repeat' split at h) <;> try omega
  ·rename_i hg
   have hg' : aie b ≠ 0 := by simpa using hg
   exact (hg' h).elim
  ·rename_i hf
   have := List.find?_some hf
   rename_i e
   simp at this
   exact (this h).elim
  ·rename_i hn1 hn2 hn3 hn4 hn5 hg e hf hn6 hn7
   have hg0 : aie b = 0 := by simpa using hg
   obtain ⟨g1, g2⟩ := (asj b).1 hg0
   have hall : ∀ x ∈ aou b (ai2 b), x = 0 := fun x hx => by
    have := List.find?_eq_none.1 hf x hx
    simpa using this
   simp only [aou, List.mem_append] at hall
   have hs : ai1 b.1 0 1000000 = true := by simpa using h1
   simp only [ai1, Bool.and_eq_true, decide_eq_true_eq] at hs
   refine ⟨⟨hs.1, hs.2.1, hs.2.2⟩, by omega, by omega, by omega, by omega, by omega, g1, g2, fun u hu => hall _ (.inl (List.mem_map.2 ⟨u, hu, rfl⟩)), fun i l hl => ?_, fun i c hc => ?_, fun u hu => hall _ (.inr (.inr (.inr (List.mem_map.2 ⟨u, hu, rfl⟩)))), by omega, by omega⟩
   ·obtain ⟨hi, rfl⟩ := List.getElem?_eq_some_iff.1 hl
    exact hall _ (.inr (.inl (List.mem_mapIdx.2 ⟨i, hi, rfl⟩)))
   ·obtain ⟨hi, rfl⟩ := List.getElem?_eq_some_iff.1 hc
    exact hall _ (.inr (.inr (.inl (List.mem_mapIdx.2 ⟨i, hi, rfl⟩))))
 ·intro h
  have hs : ai1 b.1 0 1000000 = true := by simp [ai1, h.film.1, h.film.2.1, h.film.2.2]
  have hg : aie b = 0 := (asj b).2 ⟨h.gauge, h.ids⟩
  have hall : (aou b (ai2 b)).find? (fun e => e != 0) = none := by
   rw [List.find?_eq_none]
   intro x hx
   simp only [aou, List.mem_append, List.mem_map, List.mem_mapIdx] at hx
   have : x = 0 := by
    rcases hx with ⟨u, hu, rfl⟩ | ⟨i, hi, rfl⟩ | ⟨i, hi, rfl⟩ | ⟨u, hu, rfl⟩
    ·exact h.uses u hu
    ·exact h.loans i _ (List.getElem?_eq_getElem hi)
    ·exact h.compares i _ (List.getElem?_eq_getElem hi)
    ·exact h.looks u hu
   simp [this]
  have := h.nG; have := h.nU; have := h.nL; have := h.nC; have := h.nK; have := h.nodes; have := h.links
  rw [hs, hg, hall]
  simp only [Bool.not_true, Bool.false_eq_true, if_false, bne_self_eq_false]
  rw [if_neg (by omega), if_neg (by omega), if_neg (by omega), if_neg (by omega), if_neg (by omega), if_neg (by omega), if_neg (by omega)]
section
variable {b : acv}
theorem aeZ {l : List Int} (h : ajn l = true) : l.length ≤ 6 := ((aHR l).1 h).2.2
theorem ado.nums (h : ado b) {c : Cmp} (hc : c ∈ b.2.2.2.2.1) : aIa c = true := by
 obtain ⟨i, hi, rfl⟩ := List.mem_iff_getElem.1 hc
 have := h.compares i _ (List.getElem?_eq_getElem hi)
 unfold ak5 at this
 split at this
 ·omega
 ·rename_i h; simpa using h
theorem ado.pilesOf (h : ado b) {c : Cmp} (hc : c ∈ b.2.2.2.2.1) : awR b (ai2 b) c = 0 := by
 obtain ⟨i, hi, rfl⟩ := List.mem_iff_getElem.1 hc
 have := h.compares i _ (List.getElem?_eq_getElem hi)
 unfold ak5 at this
 split at this
 ·omega
 ·split at this
  ·omega
  ·exact this
theorem ahi (c : Cmp) : aIa c = true ↔ (1 ≤ c.1 ∧ c.1 ≤ 1099511627776) ∧ (0 ≤ c.2.1 ∧ c.2.1 ≤ 20000) ∧ (-1125899906842624 ≤ c.2.2.2.2.1 ∧ c.2.2.2.2.1 ≤ 1125899906842624) ∧ (0 ≤ c.2.2.2.2.2.1 ∧ c.2.2.2.2.2.1 ≤ 1073741824) ∧ ai1 c.2.2.2.2.2.2 (-10000) 10000 = true ∧ ajn c.2.2.1 = true ∧ ajn c.2.2.2.1 = true := by
 simp [aIa, inP, aLz, and_assoc]
theorem ado.size (h : ado b) : ahG b := by
 have h1 := h.nG; have h2 := h.nU; have h3 := h.nL; have h4 := h.nC; have h5 := h.nK
 refine ⟨by omega, by omega, by omega, by omega, by omega, fun c hc => ?_⟩
 have := (ahi c).1 (h.nums hc)
 have a := aeZ this.2.2.2.2.2.1
 have b := aeZ this.2.2.2.2.2.2
 omega
theorem aEp (g : acS) : ari g = true ↔ aCa g.2.2.2.2.1 = true ∧ (-1000 ≤ g.2.2.2.2.1.1 ∧ g.2.2.2.2.1.1 ≤ 1000) ∧ g.2.2.2.2.1.2 ≤ 100 ∧ (1 ≤ g.1 ∧ g.1 ≤ 1099511627776) ∧ (0 ≤ g.2.1 ∧ g.2.1 ≤ 20000) ∧ (1 ≤ g.2.2.1 ∧ g.2.2.1 ≤ 1125899906842624) ∧ (-1073741824 ≤ g.2.2.2.1.1 ∧ g.2.2.2.1.1 ≤ g.2.2.2.1.2 ∧ g.2.2.2.1.2 ≤ 1073741824) ∧ (0 ≤ g.2.2.2.2.2 ∧ g.2.2.2.2.2 ≤ 1048576) := by
 simp [ari, inP, aLz, ai1, and_assoc]
theorem ak2 {id : Int} {g : acS} (h : ahy b id = some g) : g ∈ b.2.1 ∧ g.1 = id := by
 unfold ahy at h
 exact ⟨List.mem_of_find?_eq_some h, by simpa using List.find?_some h⟩
theorem asl (hi : b.2.1.Pairwise fun a b => a.1 < b.1) {g : acS} (hg : g ∈ b.2.1) : ahy b g.1 = some g := by
 unfold ahy
 induction hl : b.2.1 generalizing b with
 | nil => rw [hl] at hg; cases hg
 | cons a t ih =>
   rw [hl] at hg hi
   rw [List.pairwise_cons] at hi
   rw [List.find?_cons]
   rcases List.mem_cons.1 hg with rfl | hg
   ·simp
   ·have h1 := hi.1 g hg
    have : (a.1 == g.1) = false := by simp; omega
    rw [this]
    have := ih (b := (b.1, t, b.2.2)) hi.2 hg rfl
    exact this
theorem avo (h : ado b) {id day : Int} (hm : ald (ai2 b) id day = 0) : ∃ g, ahy b id = some g ∧ g.2.1 ≤ day := by
 unfold ald at hm
 rw [aDW h.ids] at hm
 split at hm
 ·rename_i g hg
  split at hm
  ·omega
  ·exact ⟨g, hg, by omega⟩
 ·omega
theorem aKP (s : List (Int × acS)) (id day : Int) : ald s id day = 0 ∨ ald s id day = 4 ∨ ald s id day = 5 := by
 unfold ald
 split
 ·split <;> simp
 ·simp
theorem ado.pile (h : ado b) {c : Cmp} (hc : c ∈ b.2.2.2.2.1) {x : Int} (hx : x ∈ c.2.2.1 ++ c.2.2.2.1) : (∃ g, ahy b x = some g ∧ g.2.1 ≤ c.2.1) ∧ ayq b x c.2.1 = none := by
 have hp := h.pilesOf hc
 unfold awR at hp
 split at hp
 ·omega
 rename_i h5
 split at hp
 ·omega
 rename_i h4
 split at hp
 ·omega
 rename_i h9
 have a5 := (List.any_eq_false.1 (Bool.eq_false_iff.2 h5)) x hx
 have a4 := (List.any_eq_false.1 (Bool.eq_false_iff.2 h4)) x hx
 have a9 := (List.any_eq_false.1 (Bool.eq_false_iff.2 h9)) x hx
 simp at a5 a4 a9
 refine ⟨avo h ?_, a9⟩
 rcases aKP (ai2 b) x c.2.1 with h0 | h0 | h0
 ·exact h0
 ·exact (a4 h0).elim
 ·exact (a5 h0).elim
theorem ado.lefts (h : ado b) {c : Cmp} (hc : c ∈ b.2.2.2.2.1) : (adb c.2.2.1 c.2.2.2.1).length ≤ 1 ∧ (adb c.2.2.2.1 c.2.2.1).length ≤ 1 ∧ (adb c.2.2.1 c.2.2.2.1).length + (adb c.2.2.2.1 c.2.2.1).length ≠ 0 := by
 have hp := h.pilesOf hc
 unfold awR at hp
 (repeat' split at hp) <;> first | omega | exact ⟨by omega, by omega, by omega⟩
theorem aiO {a c : List Int} {x : Int} : x ∈ adb a c ↔ x ∈ a ∧ x ∉ c := by
 simp [adb]
theorem ado.rate (h : ado b) {p : List Int} (hp : ∀ x ∈ p, ∃ g, ahy b x = some g) : amw (axP (ai2 b) p) 1000 100 := by
 unfold axP
 cases p with
 | nil =>
   have : amw (0, 1) 1000 100 := ⟨by decide, by decide, by decide⟩
   exact this
 | cons x t =>
   obtain ⟨g, hg⟩ := hp x (by simp)
   try dsimp only
   rw [aDW h.ids, hg]
   have := (aEp g).1 (h.gauge g (ak2 hg).1)
   exact ⟨this.1, this.2.1, this.2.2.1⟩
theorem ado.rates (h : ado b) {c : Cmp} (hc : c ∈ b.2.2.2.2.1) : amw (axP (ai2 b) (adb c.2.2.1 c.2.2.2.1)) 1000 100 ∧ amw (axP (ai2 b) (adb c.2.2.2.1 c.2.2.1)) 1000 100 := by
 constructor
 ·exact h.rate fun x hx => by
   obtain ⟨⟨g, hg, _⟩, _⟩ := h.pile hc (List.mem_append_left _ (aiO.1 hx).1)
   exact ⟨g, hg⟩
 ·exact h.rate fun x hx => by
   obtain ⟨⟨g, hg, _⟩, _⟩ := h.pile hc (List.mem_append_right _ (aiO.1 hx).1)
   exact ⟨g, hg⟩
theorem ado.growth (h : ado b) {c : Cmp} (hc : c ∈ b.2.2.2.2.1) : ajM b c = some (adV b c) := by
 obtain ⟨r1, r2⟩ := h.rates hc
 have hn := (ahi c).1 (h.nums hc)
 have a := aeZ hn.2.2.2.2.2.1
 have b := aeZ hn.2.2.2.2.2.2
 exact aJy h.size (by omega) (by omega) r1 r2 hn.2.2.2.2.1
theorem ado.films (h : ado b) {c : Cmp} (hA : c.2.2.1.length ≤ 1000) (hB : c.2.2.2.1.length ≤ 1000) : ams b c = some (ag6 b c) := by
 have := h.film
 exact aMT hA hB (by omega) (by omega) (by omega) (by omega)
theorem aFc {k heat : Int × Int} (hk : amw k 200000 10000) (hh : ai1 heat (-10000) 10000 = true) : amw (aNC k heat).1 2000000000 10000 ∧ amw (aNC k heat).2 2000000000 10000 := by
 simp only [ai1, Bool.and_eq_true, decide_eq_true_eq] at hh
 have r1 := aFi hk (n := heat.1) ⟨by omega, by omega⟩
 have r2 := aFi hk (n := heat.2) ⟨by omega, by omega⟩
 unfold aNC
 split
 ·exact ⟨r2, r1⟩
 ·exact ⟨r1, r2⟩
theorem asr {c : Cmp} (hA : c.2.2.1.length ≤ 1000) (hB : c.2.2.2.1.length ≤ 1000) (h1 : 0 ≤ b.1.1) (h2 : b.1.1 ≤ 1000000) (h3 : 0 ≤ b.1.2) (h4 : b.1.2 ≤ 1000000) :
 (-1000000000 ≤ (ag6 b c).1 ∧ (ag6 b c).1 ≤ 1000000000) ∧ (-1000000000 ≤ (ag6 b c).2 ∧ (ag6 b c).2 ≤ 1000000000) := by
 have bd : ∀ (n : Nat) (x : Int), n ≤ 1000 → 0 ≤ x → x ≤ 1000000 → 0 ≤ ((n - 1 : Nat) : Int) * x ∧ ((n - 1 : Nat) : Int) * x ≤ 1000000000 := by
  intro n x hn h0 hx
  refine ⟨Int.mul_nonneg (by omega) h0, ?_⟩
  have := Int.mul_le_mul (show ((n - 1 : Nat) : Int) ≤ 1000 by omega) hx h0 (by omega)
  omega
 have b1 := bd _ _ hA h1 h2
 have b2 := bd _ _ hA h3 h4
 have b3 := bd _ _ hB h1 h2
 have b4 := bd _ _ hB h3 h4
 unfold ag6
 try dsimp only
 omega
theorem aso {r : Int × Int} (h : amw r 2000000000 10000) : -2000000000 ≤ r.1 / r.2 ∧ r.1 / r.2 ≤ 2000000000 := by
 have := aww (n := r.1) h.pos
 have := h.num
 omega
theorem awC {r : Int × Int} (h : amw r 2000000000 10000) : -2000000000 ≤ aBI r ∧ aBI r ≤ 2000000000 := by
 have := aww (n := -r.1) h.pos
 have := h.num
 unfold aBI
 omega
theorem ado.says (h : ado b) {c : Cmp} (hc : c ∈ b.2.2.2.2.1) : anv b c = some (ad3 b c) := by
 obtain ⟨r1, r2⟩ := h.rates hc
 have hn := (ahi c).1 (h.nums hc)
 have ha := aeZ hn.2.2.2.2.2.1
 have hb := aeZ hn.2.2.2.2.2.2
 have hf := h.film
 obtain ⟨g1, g2⟩ := aFc (aER r1 r2) hn.2.2.2.2.1
 have fb := asr (b := b) (c := c) (by omega) (by omega) (by omega) (by omega) (by omega) (by omega)
 have q1 : amw (adV b c).1 2000000000 10000 := g1
 have q2 : amw (adV b c).2 2000000000 10000 := g2
 have c1 := awC q1
 have c2 := aso q2
 unfold anv aGd ad3
 rw [h.growth hc, ab4, h.films (by omega) (by omega), ab4, aNm q2.rat, ab4, aQ4 q1.rat, ab4]
 try dsimp only
 have n3 := hn.2.2.1
 have n4 := hn.2.2.2.1
 rw [acu (by omega) (by omega), acu (by omega) (by omega), acu (by omega) (by omega), acu (by omega) (by omega), acu (by omega) (by omega), acu (by omega) (by omega)]
end
def adh (l : ayV) (f t : Int) : Int := min l.2.1.2 (t - 1) - max l.2.1.1 f + 1
def adC (id f t : Int) : List ayV → Int
 | [] => 0
 | l :: r => (if l.1 = id ∧ 0 < adh l f t then adh l f t * l.2.2 else 0) + adC id f t r
theorem apm (id f t : Int) : ∀ (x y : List ayV), adC id f t (x ++ y) = adC id f t x + adC id f t y
 | [], y => by simp [adC]
 | l :: r, y => by
   simp only [List.cons_append, adC, apm id f t r y]
   omega
def afV (b : acv) (id f t : Int) : List Int := (b.2.2.1.filter fun u => u.1 == id && inP u.2 f (t - 1)).map fun u => u.2
def agV (b : acv) (g : acS) (f t : Int) : Int := adC g.1 f t b.2.2.2.1 + (aKi (afV b g.1 f t)).length * g.2.2.2.2.2
theorem aA9 (a c : Int) : aKj a c = min a c := by unfold aKj; split <;> omega
theorem aGO (a c : Int) : aGP a c = max a c := by unfold aGP; split <;> omega
theorem awf {b : acv} (h : ado b) {l : ayV} (hl : l ∈ b.2.2.2.1) : (0 ≤ l.2.1.1 ∧ l.2.1.1 ≤ l.2.1.2 ∧ l.2.1.2 ≤ 20000) ∧ (0 ≤ l.2.2 ∧ l.2.2 ≤ 1048576) := by
 obtain ⟨i, hi, rfl⟩ := List.mem_iff_getElem.1 hl
 have := h.loans i _ (List.getElem?_eq_getElem hi)
 unfold aLm at this
 split at this
 ·omega
 rename_i h1
 split at this
 ·omega
 rename_i h2
 simp only [Bool.not_eq_true', Bool.not_eq_false, ai1, inP, Bool.and_eq_true, decide_eq_true_eq] at h1 h2
 exact ⟨h1, h2⟩
theorem aEc {l : ayV} (h : (0 ≤ l.2.1.1 ∧ l.2.1.1 ≤ l.2.1.2 ∧ l.2.1.2 ≤ 20000) ∧ (0 ≤ l.2.2 ∧ l.2.2 ≤ 1048576)) {f t : Int} (hf : 0 ≤ f) (hd : 0 < adh l f t) : 0 ≤ adh l f t * l.2.2 ∧ adh l f t * l.2.2 ≤ 20001 * 1048576 := by
 refine ⟨Int.mul_nonneg (by omega) h.2.1, Int.mul_le_mul ?_ h.2.2 h.2.1 (by omega)⟩
 unfold adh
 omega
theorem alw {id f t : Int} (hf : 0 ≤ f) : ∀ {x : List ayV}, (∀ l ∈ x, (0 ≤ l.2.1.1 ∧ l.2.1.1 ≤ l.2.1.2 ∧ l.2.1.2 ≤ 20000) ∧ (0 ≤ l.2.2 ∧ l.2.2 ≤ 1048576)) → 0 ≤ adC id f t x ∧ adC id f t x ≤ x.length * (20001 * 1048576)
 | [], _ => by simp [adC]
 | l :: r, h => by
   have ih := alw (id := id) (t := t) hf (x := r) fun l hl => h l (by simp [hl])
   simp only [adC, List.length_cons, Int.natCast_succ, Int.add_mul, Int.one_mul]
   split
   ·rename_i hc
    have := aEc (h l (by simp)) hf hc.2
    omega
   ·omega
theorem aTs {b : acv} (h : ado b) {g : acS} (hg : 0 ≤ g.2.2.2.2.2 ∧ g.2.2.2.2.2 ≤ 1048576) {f t : Int} (hf : 0 ≤ f ∧ f ≤ 100000) (ht : 0 ≤ t ∧ t ≤ 100000) : aqd b g f t = some (agV b g f t) := by
 have hL := h.nL
 have hU := h.nU
 have hlb : ∀ i, 0 ≤ adC g.1 f t (b.2.2.2.1.take i) ∧ adC g.1 f t (b.2.2.2.1.take i) ≤ 12 * (20001 * 1048576) := by
  intro i
  have h1 := alw (id := g.1) (t := t) hf.1 (x := b.2.2.2.1.take i) fun l hl => awf h (List.mem_of_mem_take hl)
  have h2 : ((b.2.2.2.1.take i).length : Int) * (20001 * 1048576) ≤ 12 * (20001 * 1048576) := Int.mul_le_mul_of_nonneg_right (by rw [List.length_take]; omega) (by omega)
  omega
 unfold aqd aGl
 refine afk (fun x : Int × Int => ∃ i : Nat, i ≤ b.2.2.2.1.length ∧ x = (adC g.1 f t (b.2.2.2.1.take i), (i : Int))) (fun x => b.2.2.2.1.length - x.2.toNat) ?_ ⟨0, by omega, rfl⟩
 rintro x ⟨i, hi, rfl⟩
 rcases Nat.lt_or_ge i b.2.2.2.1.length with hlt | hge
 ·have hl : b.2.2.2.1[i]? = some b.2.2.2.1[i] := List.getElem?_eq_getElem hlt
  have hz := awf h (List.mem_of_getElem? hl)
  refine .inr ⟨(adC g.1 f t (b.2.2.2.1.take (i + 1)), (i : Int) + 1), ⟨i + 1, hlt, by simp⟩, by simp; omega, fun kn => ?_⟩
  try dsimp only
  unfold ane
  have b1 := hlb i
  have b2 := hlb (i + 1)
  have e1 : adC g.1 f t (b.2.2.2.1.take (i + 1)) = adC g.1 f t (b.2.2.2.1.take i) + (if b.2.2.2.1[i].1 = g.1 ∧ 0 < adh b.2.2.2.1[i] f t then adh b.2.2.2.1[i] f t * b.2.2.2.1[i].2.2 else 0) := by
   rw [take_succ hl, apm]; simp [adC]
  rw [acp hlt, acj hl, acu (by omega) (by omega), aA9, aGO, acu (by omega) (by omega), acu (by omega) (by omega)]
  rw [show min b.2.2.2.1[i].2.1.2 (t - 1) - max b.2.2.2.1[i].2.1.1 f + 1 = adh b.2.2.2.1[i] f t from rfl, adX]
  by_cases hid : b.2.2.2.1[i].1 = g.1
  ·rw [if_pos (by simpa [ieq] using hid), adX]
   by_cases hd : 0 < adh b.2.2.2.1[i] f t
   ·have lb := aEc hz hf.1 hd
    rw [if_pos ⟨hid, hd⟩] at e1
    rw [if_pos (by simpa [igt] using hd), acu (by omega) (by omega), acu (by omega) (by omega), acl hlt (by omega), e1]
   ·rw [if_neg (fun hc => hd hc.2)] at e1
    rw [if_neg (by simpa [igt] using hd), acl hlt (by omega), e1, Int.add_zero]
  ·rw [if_neg (fun hc => hid hc.1)] at e1
   rw [if_neg (by simpa [ieq] using hid), acl hlt (by omega), e1, Int.add_zero]
 ·refine .inl fun kn => ?_
  have : i = b.2.2.2.1.length := by omega
  subst this
  try dsimp only
  unfold ane
  rw [acN, List.take_length]
  have hud : ∀ x : List (Int × Int), x.length ≤ 40 → ((x.filter fun u => u.1 == g.1 && inP u.2 f (t - 1)).map fun u => u.2).length ≤ 40 := by
   intro x hx
   rw [List.length_map]
   exact Nat.le_trans (List.length_filter_le _ _) hx
  refine adg b.2.2.1 (fun i => ((b.2.2.1.take i).filter fun u => u.1 == g.1 && inP u.2 f (t - 1)).map fun u => u.2) _ rfl (fun i u hi hu kn' => ?_) (fun kn' => ?_)
  ·try dsimp only
   unfold anc
   have hx := hud (b.2.2.1.take i) (by rw [List.length_take]; omega)
   rw [acp hi, acj hu, acu (by omega) (by omega), afm, ab4, acq (by simp only [List.length_singleton]; omega), Am.iff_true, acl hi (by omega), acl hi (by omega), take_succ hu, List.filter_append, List.map_append]
   cases h1 : (u.1 == g.1) with
   | false =>
     have : ieq u.1 g.1 = false := h1
     simp only [this, acO, List.filter_cons, h1, Bool.false_and, Bool.false_eq_true, if_false, List.filter_nil, List.map_nil, List.append_nil]
   | true =>
     have : ieq u.1 g.1 = true := h1
     rw [this]
     cases h2 : inP u.2 f (t - 1) with
     | false => simp only [aee, acO, List.filter_cons, h1, h2, Bool.true_and, Bool.false_eq_true, if_false, List.filter_nil, List.map_nil, List.append_nil]
     | true => simp only [aee, List.filter_cons, h1, h2, Bool.true_and, if_true, List.filter_nil, List.map_nil, List.map_cons]
  ·try dsimp only
   unfold anc
   rw [acN, List.take_length]
   rw [show ((b.2.2.1.filter fun u => u.1 == g.1 && inP u.2 f (t - 1)).map fun u => u.2) = afV b g.1 f t from rfl]
   have h40 : (afV b g.1 f t).length ≤ 40 := hud _ hU
   have hc40 : (aKi (afV b g.1 f t)).length ≤ 40 := by
    have := ayz (afV b g.1 f t)
    omega
   have hm : 0 ≤ ((aKi (afV b g.1 f t)).length : Int) * g.2.2.2.2.2 ∧ ((aKi (afV b g.1 f t)).length : Int) * g.2.2.2.2.2 ≤ 40 * 1048576 :=
    ⟨Int.mul_nonneg (by omega) hg.1, Int.mul_le_mul (by omega) hg.2 hg.1 (by omega)⟩
   have b1 := hlb b.2.2.2.1.length
   rw [List.take_length] at b1
   dsimp only
   rw [acq (by omega), Am.iff_true, acq (by rw [aHA]; omega), Am.iff_true, aOW, acQ, acu (by omega) (by omega), acu (by omega) (by omega)]
   rfl
end Go.Proofs.ZzM
end
noncomputable section
namespace Go.Proofs.ZzM
open Go Go.Am
abbrev Lk : Type := Int × Int × Int
inductive Wl (L : List Lk) (S : Int → Prop) : List Int → Int → Int → Prop
 | nil {v : Int} : S v → Wl L S [] v 0
 | step {vs : List Int} {u v m d : Int} : Wl L S vs u d → (u, v, m) ∈ L → Wl L S (u :: vs) v (d + m)
def Pot (L : List Lk) (p : Int → Int) : Prop := ∀ u v m, (u, v, m) ∈ L → p v ≤ p u + m
def InR (L : List Lk) (N : Nat) : Prop := ∀ l ∈ L, (0 ≤ l.1 ∧ l.1 < N) ∧ (0 ≤ l.2.1 ∧ l.2.1 < N)
section
variable {L : List Lk} {S : Int → Prop} {N : Nat} {p : Int → Int}
theorem Wl.cut (hp : Pot L p) {vs : List Int} {v d : Int} (h : Wl L S vs v d) : ∀ x ∈ vs, ∃ vs1 d1, Wl L S vs1 x d1 ∧ (x :: vs1) <:+ vs ∧ d1 + (p v - p x) ≤ d := by
 induction h with
 | nil h => intro x hx; cases hx
 | @step vs u v m d hw hl ih =>
   intro x hx
   have h1 := hp u v m hl
   rcases List.mem_cons.1 hx with rfl | hx
   ·exact ⟨vs, d, hw, List.suffix_refl _, by omega⟩
   ·obtain ⟨vs1, d1, g1, g2, g3⟩ := ih x hx
    exact ⟨vs1, d1, g1, g2.trans (List.suffix_cons _ _), by omega⟩
theorem Wl.simple (hp : Pot L p) {vs : List Int} {v d : Int} (h : Wl L S vs v d) : ∃ vs' d', Wl L S vs' v d' ∧ d' ≤ d ∧ (v :: vs').Nodup := by
 induction h with
 | nil h => exact ⟨[], 0, .nil h, Int.le_refl _, by simp⟩
 | @step vs u v m d hw hl ih =>
   obtain ⟨vs1, d1, g1, g2, g3⟩ := ih
   have hw1 := Wl.step g1 hl
   by_cases hv : v ∈ u :: vs1
   ·obtain ⟨vs2, d2, k1, k2, k3⟩ := hw1.cut hp v hv
    exact ⟨vs2, d2, k1, by omega, g3.sublist k2.sublist⟩
   ·exact ⟨u :: vs1, d1 + m, hw1, by omega, List.nodup_cons.2 ⟨hv, g3⟩⟩
theorem Wl.range (hL : InR L N) (hS : ∀ v, S v → 0 ≤ v ∧ v < N) {vs : List Int} {v d : Int} (h : Wl L S vs v d) : (0 ≤ v ∧ v < N) ∧ ∀ u ∈ vs, 0 ≤ u ∧ u < N := by
 induction h with
 | nil h => exact ⟨hS _ h, fun u hu => by cases hu⟩
 | @step vs u v m d hw hl ih =>
   refine ⟨(hL _ hl).2, fun w hw' => ?_⟩
   rcases List.mem_cons.1 hw' with rfl | h
   ·exact ih.1
   ·exact ih.2 w h
theorem aMl : ∀ (N : Nat) (l : List Int), l.Nodup → (∀ x ∈ l, 0 ≤ x ∧ x < N) → l.length ≤ N
 | 0, l, _, h => by
   cases l with
   | nil => simp
   | cons a l => have := h a (by simp); omega
 | N + 1, l, hn, h => by
   have h1 : (l.erase (N : Int)).length ≤ N := aMl N _ (hn.erase _) fun x hx => by
    have h2 := (hn.mem_erase_iff).1 hx
    have := h x h2.2
    have := h2.1
    omega
   have := List.length_erase (a := (N : Int)) (l := l)
   split at this <;> omega
theorem Wl.short (hL : InR L N) (hS : ∀ v, S v → 0 ≤ v ∧ v < N) {vs : List Int} {v d : Int} (h : Wl L S vs v d) (hn : (v :: vs).Nodup) : vs.length + 1 ≤ N := by
 have := h.range hL hS
 exact aMl N (v :: vs) hn fun x hx => by
  rcases List.mem_cons.1 hx with rfl | hx
  ·exact this.1
  ·exact this.2 x hx
def axT (f : Lk → Bool) : List Lk → Int
 | [] => 0
 | l :: t => (if f l then min l.2.2 0 else 0) + axT f t
theorem aPt (f : Lk → Bool) : ∀ L : List Lk, axT (fun _ => true) L ≤ axT f L
 | [] => Int.le_refl _
 | l :: t => by
   have := aPt f t
   simp only [axT, if_true]
   split <;> omega
theorem amF (f : Lk → Bool) : ∀ L : List Lk, axT f L ≤ 0
 | [] => Int.le_refl _
 | l :: t => by
   have := amF f t
   simp only [axT]
   split <;> omega
theorem aMv {f : Lk → Bool} {l : Lk} (hf : f l = true) : ∀ {L : List Lk}, l ∈ L → axT f L ≤ l.2.2
 | a :: t, h => by
   simp only [axT]
   rcases List.mem_cons.1 h with rfl | h
   ·have := amF f t
    rw [if_pos hf]; omega
   ·have := aMv hf h
    split <;> omega
theorem aPs {f g : Lk → Bool} (h : ∀ l, f l = true → g l = false) : ∀ L : List Lk, axT (fun l => f l || g l) L = axT f L + axT g L
 | [] => rfl
 | l :: t => by
   have ih := aPs h t
   simp only [axT, ih]
   by_cases hf : f l = true
   ·simp [hf, h l hf]; omega
   ·have hf' : f l = false := by simpa using hf
    by_cases hg : g l = true
    ·simp [hf', hg]; omega
    ·simp [hf', hg]
theorem Wl.low {vs : List Int} {v d : Int} (h : Wl L S vs v d) : vs.Nodup → axT (fun l => vs.contains l.1) L ≤ d := by
 induction h with
 | nil h => intro _; exact amF _ _
 | @step vs u v m d hw hl ih =>
   intro hn
   rw [List.nodup_cons] at hn
   have h1 := ih hn.2
   have h2 : axT (fun l => l.1 == u) L ≤ m := aMv (f := fun l => l.1 == u) (l := (u, v, m)) (by simp) hl
   have h3 := aPs (f := fun l : Lk => l.1 == u) (g := fun l => vs.contains l.1) (fun l hf => by
    simp only [beq_iff_eq] at hf
    rw [hf]
    simpa using hn.1) L
   have h4 : (fun l : Lk => (u :: vs).contains l.1) = fun l => (l.1 == u) || vs.contains l.1 := by funext l; rw [List.contains_cons]
   rw [h4, h3]
   omega
def ayE (L : List Lk) : Int := axT (fun _ => true) L
theorem Wl.low' (hp : Pot L p) {vs : List Int} {v d : Int} (h : Wl L S vs v d) : ayE L ≤ d := by
 obtain ⟨vs', d', h1, h2, h3⟩ := h.simple hp
 have := h1.low (List.nodup_cons.1 h3).2
 have := aPt (fun l => vs'.contains l.1) L
 unfold ayE
 omega
theorem Wl.high {M : Int} (hM : ∀ l ∈ L, l.2.2 ≤ M) {vs : List Int} {v d : Int} (h : Wl L S vs v d) : d ≤ vs.length * M := by
 induction h with
 | nil h => simp
 | @step vs u v m d hw hl ih =>
   have := hM _ hl
   simp only [List.length_cons, Int.natCast_succ, Int.add_mul, Int.one_mul]
   simp only at this
   omega
theorem Wl.mono {S' : Int → Prop} (hS : ∀ v, S v → S' v) {vs : List Int} {v d : Int} (h : Wl L S vs v d) : Wl L S' vs v d := by
 induction h with
 | nil h => exact .nil (hS _ h)
 | step hw hl ih => exact .step ih hl
theorem Wl.sub {L' : List Lk} (hL : ∀ l ∈ L, l ∈ L') {vs : List Int} {v d : Int} (h : Wl L S vs v d) : Wl L' S vs v d := by
 induction h with
 | nil h => exact .nil h
 | step hw hl ih => exact .step ih (hL _ hl)
theorem Wl.pot (hp : Pot L p) {vs : List Int} {v d : Int} (h : Wl L S vs v d) : ∃ s, S s ∧ p v - p s ≤ d := by
 induction h with
 | @nil v h => exact ⟨v, h, by omega⟩
 | @step vs u v m d hw hl ih =>
   obtain ⟨s, h1, h2⟩ := ih
   have := hp u v m hl
   exact ⟨s, h1, by omega⟩
end
abbrev afx : Int := 1152921504606846976
structure aOC (L : List Lk) (S : Int → Prop) (N : Nat) (x : Int → Int) : Prop where
 att : ∀ v : Int, 0 ≤ v → v < N → x v ≠ afx → ∃ vs, Wl L S vs v (x v)
 low : ∀ v vs d, Wl L S vs v d → x v ≤ d
 bd : ∀ v : Int, 0 ≤ v → v < N → x v ≤ afx
theorem aOC.uniq {L : List Lk} {S : Int → Prop} {N : Nat} {x y : Int → Int} (hx : aOC L S N x) (hy : aOC L S N y) {v : Int} (h0 : 0 ≤ v) (h1 : v < N) : x v = y v := by
 have key : ∀ {x y : Int → Int}, aOC L S N x → aOC L S N y → x v ≤ y v := by
  intro x y hx hy
  by_cases h : y v = afx
  ·rw [h]; exact hx.bd v h0 h1
  ·obtain ⟨vs, hw⟩ := hy.att v h0 h1 h
   exact hx.low v vs _ hw
 exact Int.le_antisymm (key hx hy) (key hy hx)
def gv (x : List Int) (v : Int) : Int := x[v.toNat]?.getD 0
theorem aMK {x : List Int} {v : Int} (h : v.toNat < x.length) : x[v.toNat]? = some (gv x v) := by
 unfold gv; rw [List.getElem?_eq_getElem h]; rfl
theorem apt {x : List Int} {u v : Int} (hu : 0 ≤ u) (hv : 0 ≤ v) (h : u.toNat < x.length) (y : Int) : gv (x.set u.toNat y) v = if v = u then y else gv x v := by
 unfold gv
 rw [List.getElem?_set]
 by_cases hvu : v = u
 ·subst hvu; simp [h]
 ·have : ¬ u.toNat = v.toNat := by omega
  simp [hvu, this]
theorem aML {x y : List Int} (hl : x.length = y.length) (h : ∀ v : Int, 0 ≤ v → v < x.length → gv x v = gv y v) : x = y := by
 refine List.ext_getElem hl fun i h1 h2 => ?_
 have := h i (by omega) (by omega)
 unfold gv at this
 simpa [h1, h2] using this
def ahO (x : List Int) (l : Lk) : List Int := if gv x l.1 < afx ∧ gv x l.1 + l.2.2 < gv x l.2.1 then x.set l.2.1.toNat (gv x l.1 + l.2.2) else x
def axR (L : List Lk) (x : List Int) : List Int := L.foldl ahO x
def ahh (L : List Lk) : Nat → List Int → List Int
 | 0, x => x
 | n + 1, x => ahh L n (axR L x)
theorem ajl (x : List Int) (l : Lk) : (ahO x l).length = x.length := by unfold ahO; split <;> simp
theorem aot (L : List Lk) : ∀ x : List Int, (axR L x).length = x.length := by
 induction L with
 | nil => intro x; rfl
 | cons l t ih => intro x; show (axR t (ahO x l)).length = _; rw [ih, ajl]
theorem aen (L : List Lk) : ∀ (n : Nat) (x : List Int), (ahh L n x).length = x.length
 | 0, x => rfl
 | n + 1, x => by rw [ahh, aen L n, aot]
theorem arv (L : List Lk) : ∀ (n : Nat) (x : List Int), ahh L (n + 1) x = axR L (ahh L n x)
 | 0, x => rfl
 | n + 1, x => by rw [ahh, arv L n]; rfl
section
variable {L0 : List Lk} {S : Int → Prop} {N : Nat}
theorem aHK {x : List Int} {l : Lk} (hl : (0 ≤ l.1 ∧ l.1 < N) ∧ (0 ≤ l.2.1 ∧ l.2.1 < N)) (hx : x.length = N) (v : Int) (hv : 0 ≤ v) : gv (ahO x l) v ≤ gv x v := by
 unfold ahO
 split
 ·rename_i h
  rw [apt hl.2.1 hv (by omega)]
  split
  ·rename_i h2; subst h2; omega
  ·exact Int.le_refl _
 ·exact Int.le_refl _
theorem asI : ∀ {L : List Lk}, InR L N → ∀ {x : List Int}, x.length = N → ∀ v, 0 ≤ v → gv (axR L x) v ≤ gv x v
 | [], _, x, _, v, _ => Int.le_refl _
 | l :: t, hL, x, hx, v, hv => by
   have h1 := aHK (hL l (by simp)) hx v hv
   have h2 := asI (L := t) (fun l hl => hL l (by simp [hl])) (x := ahO x l) (by rw [ajl, hx]) v hv
   show gv (axR t (ahO x l)) v ≤ _
   omega
theorem avi : ∀ {L : List Lk}, InR L N → ∀ {x : List Int}, x.length = N → ∀ u v m, (u, v, m) ∈ L → gv x u < afx → gv (axR L x) v ≤ gv x u + m
 | l :: t, hL, x, hx, u, v, m, hm, hf => by
   have ht : InR t N := fun l hl => hL l (by simp [hl])
   have hx' : (ahO x l).length = N := by rw [ajl, hx]
   show gv (axR t (ahO x l)) v ≤ _
   rcases List.mem_cons.1 hm with rfl | hm
   ·have hl := hL (u, v, m) (by simp)
    have h2 := asI ht hx' v hl.2.1
    have h3 : gv (ahO x (u, v, m)) v ≤ gv x u + m := by
     unfold ahO
     split
     ·rw [apt hl.2.1 hl.2.1 (by simp only at hl; simp only; omega), if_pos rfl]; exact Int.le_refl _
     ·rename_i h; simp only [not_and, Int.not_lt] at h; exact h hf
    omega
   ·have hl := hL (u, v, m) (by simp [hm])
    have h1 := aHK (hL l (by simp)) hx u hl.1.1
    have := avi ht hx' u v m hm (by omega)
    omega
def Att (L0 : List Lk) (S : Int → Prop) (N : Nat) (x : List Int) : Prop := ∀ v : Int, 0 ≤ v → v < N → gv x v < afx → ∃ vs, Wl L0 S vs v (gv x v)
theorem aNA {x : List Int} {l : Lk} (hl : (0 ≤ l.1 ∧ l.1 < N) ∧ (0 ≤ l.2.1 ∧ l.2.1 < N)) (hm : l ∈ L0) (hx : x.length = N) (h : Att L0 S N x) : Att L0 S N (ahO x l) := by
 unfold ahO
 split
 ·rename_i hc
  intro v h0 h1 hf
  rw [apt hl.2.1 h0 (by omega)] at hf ⊢
  split
  ·rename_i h2
   obtain ⟨vs, hw⟩ := h l.1 hl.1.1 hl.1.2 hc.1
   exact ⟨_, h2 ▸ Wl.step hw hm⟩
  ·rename_i h2
   rw [if_neg h2] at hf
   exact h v h0 h1 hf
 ·exact h
theorem aHU : ∀ {L : List Lk}, InR L N → (∀ l ∈ L, l ∈ L0) → ∀ {x : List Int}, x.length = N → Att L0 S N x → Att L0 S N (axR L x)
 | [], _, _, _, _, h => h
 | l :: t, hL, hsub, x, hx, h => aHU (L := t) (fun l hl => hL l (by simp [hl])) (fun l hl => hsub l (by simp [hl])) (x := ahO x l) (by rw [ajl, hx]) (aNA (hL l (by simp)) (hsub l (by simp)) hx h)
theorem aDK (hL : InR L0 N) : ∀ (n : Nat) {x : List Int}, x.length = N → Att L0 S N x → Att L0 S N (ahh L0 n x)
 | 0, _, _, h => h
 | n + 1, x, hx, h => aDK hL n (by rw [aot, hx]) (aHU hL (fun _ h => h) hx h)
theorem asH (hL : InR L0 N) : ∀ (n : Nat) {x : List Int}, x.length = N → ∀ v, 0 ≤ v → gv (ahh L0 n x) v ≤ gv x v
 | 0, _, _, _, _ => Int.le_refl _
 | n + 1, x, hx, v, hv => Int.le_trans (asH hL n (by rw [aot, hx]) v hv) (asI hL hx v hv)
def amz (S : Int → Bool) (N : Nat) : List Int := (List.range N).map fun (i : Nat) => if S i then 0 else afx
theorem afY (S : Int → Bool) {N : Nat} {v : Int} (h0 : 0 ≤ v) (h1 : v < N) : gv (amz S N) v = if S v then 0 else afx := by
 unfold gv amz
 have : v.toNat < N := by omega
 rw [List.getElem?_map, List.getElem?_range this]
 simp only [Option.map_some, Option.getD_some]
 rw [Int.toNat_of_nonneg h0]
theorem ac3 (S : Int → Bool) (N : Nat) : (amz S N).length = N := by simp [amz]
end
theorem avh {L : List Lk} {S : Int → Bool} {N : Nat} {M : Int} (hL : InR L N) (hS : ∀ v, S v = true → 0 ≤ v ∧ v < N) (hM : ∀ l ∈ L, l.2.2 ≤ M) : ∀ (n : Nat), n * M < afx → 0 ≤ M → ∀ vs v d, Wl L (fun v => S v = true) vs v d → vs.length ≤ n → gv (ahh L n (amz S N)) v ≤ d
 | 0, _, _, vs, v, d, hw, hl => by
   cases hw with
   | nil h =>
     have := hS v h
     rw [ahh, afY S this.1 this.2, if_pos h]; exact Int.le_refl _
   | step => simp at hl
 | n + 1, hn, hM0, vs, v, d, hw, hl => by
   have hn' : n * M < afx := by rw [Int.natCast_succ, Int.add_mul, Int.one_mul] at hn; omega
   have hlen : (ahh L n (amz S N)).length = N := by rw [aen, ac3]
   rw [arv]
   cases hw with
   | nil h =>
     have h1 := asI hL hlen v (hS v h).1
     have h2 := avh hL hS hM n hn' hM0 [] v 0 (.nil h) (by simp)
     omega
   | @step vs u _ m d hw hlk =>
     have h2 := avh hL hS hM n hn' hM0 vs u d hw (by simpa using hl)
     have h3 := hw.high hM
     have h4 : (vs.length : Int) * M ≤ n * M := Int.mul_le_mul_of_nonneg_right (by simp at hl; omega) hM0
     have := avi hL hlen u v m hlk (by omega)
     omega
theorem azl {L : List Lk} {S : Int → Bool} {N : Nat} {M : Int} {p : Int → Int} (hp : Pot L p) (hL : InR L N) (hS : ∀ v, S v = true → 0 ≤ v ∧ v < N) (hM : ∀ l ∈ L, l.2.2 ≤ M) (hM0 : 0 ≤ M) (hN : N * M < afx) (n : Nat) (hn : N ≤ n + 1) : aOC L (fun v => S v = true) N (gv (ahh L n (amz S N))) := by
 have hatt : Att L (fun v => S v = true) N (amz S N) := fun v h0 h1 hf => by
  rw [afY S h0 h1] at hf ⊢
  split
  ·rename_i h; exact ⟨[], .nil h⟩
  ·rename_i h; rw [if_neg h] at hf; omega
 have hbd : ∀ v : Int, 0 ≤ v → v < N → gv (ahh L n (amz S N)) v ≤ afx := fun v h0 h1 => by
  have := asH hL n (ac3 S N) v h0
  rw [afY S h0 h1] at this
  have hF : (0 : Int) ≤ afx := by decide
  split at this <;> omega
 have hlow : ∀ (n : Nat), N ≤ n + 1 → ∀ v vs d, Wl L (fun v => S v = true) vs v d → gv (ahh L n (amz S N)) v ≤ d := by
  intro n hn v vs d hw
  obtain ⟨vs', d', h1, h2, h3⟩ := hw.simple hp
  have h4 := h1.short hL hS h3
  have hpos : 0 < N := by omega
  obtain ⟨k, rfl⟩ : ∃ k, N = k + 1 := ⟨N - 1, by omega⟩
  have hk : (k : Int) * M < afx := by rw [Int.natCast_succ, Int.add_mul, Int.one_mul] at hN; omega
  have h5 := avh hL hS hM k hk hM0 vs' v d' h1 (by omega)
  obtain ⟨j, rfl⟩ : ∃ j, n = k + j := ⟨n - k, by omega⟩
  have h6 : ∀ (j : Nat), gv (ahh L (k + j) (amz S (k + 1))) v ≤ gv (ahh L k (amz S (k + 1))) v := by
   intro j
   induction j with
   | zero => exact Int.le_refl _
   | succ j ih =>
     rw [← Nat.add_assoc, arv]
     have := asI hL (x := ahh L (k + j) (amz S (k + 1))) (by rw [aen, ac3]) v (h1.range hL hS).1.1
     omega
  have := h6 j
  omega
 exact ⟨fun v h0 h1 hne => aDK hL n (ac3 S N) hatt v h0 h1 (by have := hbd v h0 h1; omega), hlow n hn, hbd⟩
theorem aOC.pot {L : List Lk} {S : Int → Prop} {N : Nat} {x : Int → Int} (h : aOC L S N x) (hL : InR L N) {u v m : Int} (hl : (u, v, m) ∈ L) (hf : x u ≠ afx) : x v ≤ x u + m := by
 obtain ⟨vs, hw⟩ := h.att u (hL _ hl).1.1 (hL _ hl).1.2 hf
 exact h.low v _ _ (.step hw hl)
end Go.Proofs.ZzM
end
noncomputable section
namespace Go.Proofs.ZzM
open Go Go.Am
def ac6 (b : acv) (g : acS) : List Lk :=
 [(0, atP (acg b) [g.1] g.2.1, g.2.2.1 + g.2.2.2.1.2), (atP (acg b) [g.1] g.2.1, 0, -(g.2.2.1 + g.2.2.2.1.1))] ++
 (List.range ((acy b g).length - 1)).flatMap fun (k : Nat) => [(atP (acg b) [g.1] g.2.1 + k, atP (acg b) [g.1] g.2.1 + k + 1, 0), (atP (acg b) [g.1] g.2.1 + k + 1, atP (acg b) [g.1] g.2.1 + k, agV b g ((acy b g)[k]?.getD 0) ((acy b g)[k + 1]?.getD 0))]
def cx (b : acv) (c : Cmp) : Int := atP (acg b) (adb c.2.2.1 c.2.2.2.1) c.2.1
def cy (b : acv) (c : Cmp) : Int := atP (acg b) (adb c.2.2.2.1 c.2.2.1) c.2.1
def acU (b : acv) (c : Cmp) : List Lk := [(cy b c, cx b c, (ad3 b c).2), (cx b c, cy b c, -(ad3 b c).1)]
def acs (b : acv) : List Lk := b.2.1.flatMap (ac6 b) ++ b.2.2.2.2.1.flatMap (acU b)
def adA (b : acv) (i : Nat) (g : acS) : List (Int × Int) := [(1, (i : Int)), (1, (i : Int))] ++ (List.range ((acy b g).length - 1)).flatMap fun _ => [(2, (i : Int)), (2, (i : Int))]
def aeM (b : acv) : List (Int × Int) := (b.2.1.mapIdx (adA b)).flatten ++ (b.2.2.2.2.1.mapIdx fun i _ => [(3, (i : Int)), (3, (i : Int))]).flatten
section
variable {b : acv}
theorem aOK (h : ado b) {id day : Int} (hu : aRi (ai2 b) id day = 0) : (0 ≤ day ∧ day ≤ 20000) ∧ ∃ g, ahy b id = some g ∧ g.2.1 ≤ day := by
 unfold aRi at hu
 split at hu
 ·omega
 ·rename_i hd
  simp only [Bool.not_eq_true', Bool.not_eq_false, aLz, inP, Bool.and_eq_true, decide_eq_true_eq] at hd
  exact ⟨hd, avo h hu⟩
theorem aiW {g : acS} {d : Int} : d ∈ acy b g ↔ d = g.2.1 ∨ (∃ c ∈ b.2.2.2.2.1, (c.2.2.1.contains g.1) ≠ (c.2.2.2.1.contains g.1) ∧ c.2.1 = d) ∨ (∃ n ∈ b.2.2.2.2.2, n.1 = g.1 ∧ n.2 = d) := by
 unfold acy
 rw [apW, aDm]
 simp only [List.mem_append, List.mem_singleton, List.mem_map, List.mem_filter]
 constructor
 ·rintro ((h | ⟨c, ⟨h1, h2⟩, h3⟩) | ⟨n, ⟨h1, h2⟩, h3⟩)
  ·exact .inl h
  ·exact .inr (.inl ⟨c, h1, by simpa using h2, h3⟩)
  ·exact .inr (.inr ⟨n, h1, by simpa using h2, h3⟩)
 ·rintro (h | ⟨c, h1, h2, h3⟩ | ⟨n, h1, h2, h3⟩)
  ·exact .inl (.inl h)
  ·exact .inl (.inr ⟨c, ⟨h1, by simpa using h2⟩, h3⟩)
  ·exact .inr ⟨n, ⟨h1, by simpa using h2⟩, h3⟩
theorem ado.gaugeR (h : ado b) {g : acS} (hg : g ∈ b.2.1) : aCa g.2.2.2.2.1 = true ∧ (-1000 ≤ g.2.2.2.2.1.1 ∧ g.2.2.2.2.1.1 ≤ 1000) ∧ g.2.2.2.2.1.2 ≤ 100 ∧ (1 ≤ g.1 ∧ g.1 ≤ 1099511627776) ∧ (0 ≤ g.2.1 ∧ g.2.1 ≤ 20000) ∧ (1 ≤ g.2.2.1 ∧ g.2.2.1 ≤ 1125899906842624) ∧ (-1073741824 ≤ g.2.2.2.1.1 ∧ g.2.2.2.1.1 ≤ g.2.2.2.1.2 ∧ g.2.2.2.1.2 ≤ 1073741824) ∧ (0 ≤ g.2.2.2.2.2 ∧ g.2.2.2.2.2 ≤ 1048576) := (aEp g).1 (h.gauge g hg)
theorem ado.day (h : ado b) {g : acS} (hg : g ∈ b.2.1) {d : Int} (hd : d ∈ acy b g) : g.2.1 ≤ d ∧ 0 ≤ d ∧ d ≤ 20000 := by
 have hr := h.gaugeR hg
 have hgo := asl h.ids hg
 rcases aiW.1 hd with rfl | ⟨c, hc, h1, rfl⟩ | ⟨n, hn, h1, rfl⟩
 ·have := hr.2.2.2.2.1; omega
 ·have hn := (ahi c).1 (h.nums hc)
  have hx : g.1 ∈ c.2.2.1 ++ c.2.2.2.1 := by
   rw [List.mem_append]
   by_cases h2 : g.1 ∈ c.2.2.1
   ·exact .inl h2
   ·refine .inr ?_
    have e1 : c.2.2.1.contains g.1 = false := by simpa using h2
    rw [e1] at h1
    have : c.2.2.2.1.contains g.1 = true := by cases hh : c.2.2.2.1.contains g.1 <;> simp_all
    simpa using this
  obtain ⟨⟨g', h3, h4⟩, _⟩ := h.pile hc hx
  rw [hgo] at h3; cases h3
  have := hn.2.1
  omega
 ·obtain ⟨h2, g', h3, h4⟩ := aOK h (h.looks n hn)
  rw [h1, hgo] at h3; cases h3
  omega
theorem aiv (g : acS) : g.2.1 ∈ acy b g := aiW.2 (.inl rfl)
theorem aGW (h : ado b) {g : acS} (hg : g ∈ b.2.1) : (acy b g).length ≤ 59 := by
 have h1 : ∀ l : List acS, g ∈ l → (acy b g).length ≤ (l.flatMap fun g => (acy b g).map fun d => ((g.1, d) : Int × Int)).length := by
  intro l
  induction l with
  | nil => intro hg; cases hg
  | cons a t ih =>
    intro hg
    rw [List.flatMap_cons, List.length_append, List.length_map]
    rcases List.mem_cons.1 hg with rfl | hg
    ·omega
    ·have := ih hg; omega
 have := h1 b.2.1 hg
 have := h.nodes
 unfold acg at this
 omega
theorem aQT {p : List Int} {d : Int} : 0 ≤ atP (acg b) p d ∧ atP (acg b) p d ≤ (acg b).length := by
 unfold atP
 cases p with
 | nil => simp
 | cons x t =>
   try dsimp only
   cases h : agw (acg b) x d with
   | none => simp
   | some j => have := (ag0 h).1; dsimp only; omega
theorem azc (h : ado b) {c : Cmp} (hc : c ∈ b.2.2.2.2.1) : (-1125904000000000 ≤ (ad3 b c).1 ∧ (ad3 b c).1 ≤ 1125904000000000) ∧ (-1125904000000000 ≤ (ad3 b c).2 ∧ (ad3 b c).2 ≤ 1125904000000000) := by
 obtain ⟨r1, r2⟩ := h.rates hc
 have hn := (ahi c).1 (h.nums hc)
 have ha := aeZ hn.2.2.2.2.2.1
 have hb := aeZ hn.2.2.2.2.2.2
 have hf := h.film
 obtain ⟨g1, g2⟩ := aFc (aER r1 r2) hn.2.2.2.2.1
 have fb := asr (b := b) (c := c) (by omega) (by omega) (by omega) (by omega) (by omega) (by omega)
 have q1 : amw (adV b c).1 2000000000 10000 := g1
 have q2 : amw (adV b c).2 2000000000 10000 := g2
 have c1 := awC q1
 have c2 := aso q2
 have n3 := hn.2.2.1
 have n4 := hn.2.2.2.1
 unfold ad3
 try dsimp only
 omega
theorem anm (h : ado b) {g : acS} (hg : g ∈ b.2.1) {f t : Int} (hf : 0 ≤ f) : 0 ≤ agV b g f t ∧ agV b g f t ≤ 12 * (20001 * 1048576) + 40 * 1048576 := by
 have hr := (h.gaugeR hg).2.2.2.2.2.2.2
 have h1 := alw (id := g.1) (t := t) hf (x := b.2.2.2.1) fun l hl => awf h hl
 have h2 : (b.2.2.2.1.length : Int) * (20001 * 1048576) ≤ 12 * (20001 * 1048576) := Int.mul_le_mul_of_nonneg_right (by have := h.nL; omega) (by omega)
 have h3 : (afV b g.1 f t).length ≤ 40 := by
  unfold afV
  rw [List.length_map]
  exact Nat.le_trans (List.length_filter_le _ _) h.nU
 have h4 := ayz (afV b g.1 f t)
 have hm : 0 ≤ ((aKi (afV b g.1 f t)).length : Int) * g.2.2.2.2.2 ∧ ((aKi (afV b g.1 f t)).length : Int) * g.2.2.2.2.2 ≤ 40 * 1048576 :=
  ⟨Int.mul_nonneg (by omega) hr.1, Int.mul_le_mul (by omega) hr.2 hr.1 (by omega)⟩
 unfold agV
 omega
end
theorem ahW {α β : Type} (f : Nat → α → β) {l : List α} {i : Nat} {a : α} (h : l[i]? = some a) : (l.take (i + 1)).mapIdx f = (l.take i).mapIdx f ++ [f i a] := by
 have hi : i < l.length := (List.getElem?_eq_some_iff.1 h).1
 have : (l.take i).length = i := by rw [List.length_take]; omega
 rw [take_succ h, List.mapIdx_append]
 simp [this]
theorem avf {α : Type} (f : Nat → List α) (j : Nat) : (List.range (j + 1)).flatMap f = (List.range j).flatMap f ++ f j := by
 rw [List.range_succ, List.flatMap_append]; simp
theorem agK {α : Type} (f : Nat → List α) (n : Nat) (h : ∀ k, (f k).length = 2) : ((List.range n).flatMap f).length = 2 * n := by
 induction n with
 | zero => rfl
 | succ n ih => rw [avf, List.length_append, ih, h]; omega
set_option maxHeartbeats 2000000 in
theorem aMC {b : acv} (h : ado b) : auW b = some (b, acg b, (((acg b).length : Int) + 1, acs b), aeM b) := by
 unfold auW aGi
 have hN := h.nodes
 have hG := h.nG
 have hC := h.nC
 rw [aFe h.size, ab4, acQ, acu (by omega) (by omega)]
 -- lengths of what comes
 have gl : ∀ g ∈ b.2.1, (ac6 b g).length ≤ 120 ∧ ∀ i, (adA b i g).length ≤ 120 := by
  intro g hg
  have := aGW h hg
  constructor
  ·unfold ac6
   rw [List.length_append, agK _ _ (fun _ => rfl)]
   simp only [List.length_cons, List.length_nil]; omega
  ·intro i
   unfold adA
   rw [List.length_append, agK _ _ (fun _ => rfl)]
   simp only [List.length_cons, List.length_nil]; omega
 have gls : ∀ i, ((b.2.1.take i).flatMap (ac6 b)).length ≤ 1440 ∧ (((b.2.1.take i).mapIdx (adA b)).flatten).length ≤ 1440 := by
  intro i
  induction i with
  | zero => simp
  | succ i ih =>
    have key : ∀ i, i ≤ b.2.1.length → ((b.2.1.take i).flatMap (ac6 b)).length ≤ i * 120 ∧ (((b.2.1.take i).mapIdx (adA b)).flatten).length ≤ i * 120 := by
     intro i
     induction i with
     | zero => intro _; simp
     | succ i ih =>
       intro hi
       have ih := ih (by omega)
       have hg : b.2.1[i]? = some b.2.1[i] := List.getElem?_eq_getElem hi
       have h2 := gl _ (List.mem_of_getElem? hg)
       have h3 := h2.2 i
       rw [ahW _ hg, take_succ hg, List.flatMap_append, List.flatten_append, List.length_append, List.length_append]
       simp only [List.flatMap_cons, List.flatMap_nil, List.append_nil, List.flatten_cons, List.flatten_nil]
       omega
    rcases Nat.lt_or_ge b.2.1.length (i + 1) with h1 | h1
    ·rw [List.take_of_length_le (by omega)]
     have := key b.2.1.length (Nat.le_refl _)
     rw [List.take_length] at this
     omega
    ·have := key (i + 1) h1
     omega
 refine adg b.2.1 (fun i => ((b.2.1.take i).flatMap (ac6 b), ((b.2.1.take i).mapIdx (adA b)).flatten)) _ rfl (fun i g hi hg kn => ?_) (fun kn => ?_)
 ·try dsimp only
  unfold anb
  have hgm := List.mem_of_getElem? hg
  have hr := h.gaugeR hgm
  have hd := aGW h hgm
  have hls := gls i
  have hat := aQT (b := b) (p := [g.1]) (d := g.2.1)
  rw [acp hi, acj hg]
  rw [show ajy ((b.1.1, b.1.2), b.2.1, b.2.2.1, b.2.2.2.1, b.2.2.2.2.1, b.2.2.2.2.2) g = ajy b g from rfl, aQm h.size, ab4]
  rw [aQS _ _ _ (by dsimp only; omega), ab4]
  try dsimp only
  have r1 := hr.2.2.2.2.2.1
  have r2 := hr.2.2.2.2.2.2.1
  rw [acu (by omega) (by omega), acu (by omega) (by omega), acu (by omega) (by omega), acq (by simp only [List.length_cons, List.length_nil]; omega), Am.iff_true, acq (by simp only [List.length_cons, List.length_nil]; omega), Am.iff_true]
  refine afk (fun x : Int × List Lk × List (Int × Int) => ∃ j : Nat, j + 1 ≤ (acy b g).length ∧ x.1 = (j : Int) + 1 ∧
   x.2.1 = (b.2.1.take i).flatMap (ac6 b) ++ ([(0, atP (acg b) [g.1] g.2.1, g.2.2.1 + g.2.2.2.1.2), (atP (acg b) [g.1] g.2.1, 0, -(g.2.2.1 + g.2.2.2.1.1))] ++
    (List.range j).flatMap fun (k : Nat) => [(atP (acg b) [g.1] g.2.1 + k, atP (acg b) [g.1] g.2.1 + k + 1, 0), (atP (acg b) [g.1] g.2.1 + k + 1, atP (acg b) [g.1] g.2.1 + k, agV b g ((acy b g)[k]?.getD 0) ((acy b g)[k + 1]?.getD 0))]) ∧
   x.2.2 = ((b.2.1.take i).mapIdx (adA b)).flatten ++ ([(1, (i : Int)), (1, (i : Int))] ++ (List.range j).flatMap fun _ => [(2, (i : Int)), (2, (i : Int))])) (fun x => (acy b g).length - x.1.toNat) ?_
   ⟨0, List.length_pos_of_mem (aiv g), rfl, by simp, by simp⟩
  rintro ⟨x1, ls, ss⟩ ⟨j, hj, e1, e2, e3⟩
  dsimp only at e1 e2 e3 ⊢
  subst e1
  have hlls : ls.length ≤ 1562 := by
   rw [e2, List.length_append, List.length_append, agK _ _ (fun _ => rfl)]
   simp only [List.length_cons, List.length_nil]; omega
  have hlss : ss.length ≤ 1562 := by
   rw [e3, List.length_append, List.length_append, agK _ _ (fun _ => rfl)]
   simp only [List.length_cons, List.length_nil]; omega
  rcases Nat.lt_or_ge (j + 1) (acy b g).length with hlt | hge
  ·refine .inr ⟨((j : Int) + 1 + 1, _, _), ⟨j + 1, hlt, by push_cast; rfl, rfl, rfl⟩, by dsimp only; omega, fun kn' => ?_⟩
   try dsimp only
   unfold ana
   have g1 : (acy b g)[j]? = some ((acy b g)[j]?.getD 0) := by rw [List.getElem?_eq_getElem (by omega)]; rfl
   have g2 : (acy b g)[j + 1]? = some ((acy b g)[j + 1]?.getD 0) := by rw [List.getElem?_eq_getElem hlt]; rfl
   have d1 := h.day hgm (List.mem_of_getElem? g1)
   have d2 := h.day hgm (List.mem_of_getElem? g2)
   have lb := anm h hgm (t := (acy b g)[j + 1]?.getD 0) d1.2.1
   have ec : ((j : Int) + 1) = ((j + 1 : Nat) : Int) := by push_cast; rfl
   rw [ec, acp hlt, acu (by omega) (by omega), acu (by omega) (by omega), acu (by omega) (by omega), acu (by omega) (by omega)]
   rw [show (((j + 1 : Nat) : Int) - 1) = ((j : Nat) : Int) by omega, acj g1, acj g2]
   rw [show aqd ((b.1.1, b.1.2), b.2.1, b.2.2.1, b.2.2.2.1, b.2.2.2.2.1, b.2.2.2.2.2) (g.1, g.2.1, g.2.2.1, (g.2.2.2.1.1, g.2.2.2.1.2), (g.2.2.2.2.1.1, g.2.2.2.2.1.2), g.2.2.2.2.2) ((acy b g)[j]?.getD 0) ((acy b g)[j + 1]?.getD 0) = aqd b g ((acy b g)[j]?.getD 0) ((acy b g)[j + 1]?.getD 0) from rfl]
   rw [aTs h hr.2.2.2.2.2.2.2 ⟨by omega, by omega⟩ ⟨by omega, by omega⟩, ab4, acu (by omega) (by omega), acu (by omega) (by omega), acq (by simp only [List.length_cons, List.length_nil]; omega), Am.iff_true, acq (by simp only [List.length_cons, List.length_nil]; omega), Am.iff_true, acl hlt (by omega)]
   rw [avf, avf, e2, e3]
   have a1 : atP (acg b) [g.1] g.2.1 + ((j + 1 : Nat) : Int) - 1 = atP (acg b) [g.1] g.2.1 + (j : Int) := by push_cast; omega
   have a2 : atP (acg b) [g.1] g.2.1 + ((j + 1 : Nat) : Int) = atP (acg b) [g.1] g.2.1 + (j : Int) + 1 := by push_cast; omega
   have a3 : 0 - (0 - agV b g ((acy b g)[j]?.getD 0) ((acy b g)[j + 1]?.getD 0)) = agV b g ((acy b g)[j]?.getD 0) ((acy b g)[j + 1]?.getD 0) := by omega
   rw [a1, a2, a3]
   simp only [List.append_assoc]
  ·refine .inl fun kn' => ?_
   have hje : j + 1 = (acy b g).length := by omega
   unfold ana
   rw [show ((j : Int) + 1) = (((acy b g).length : Nat) : Int) by rw [← hje]; push_cast; rfl, acN]
   dsimp only
   rw [acl hi (by omega)]
   rw [ahW _ hg, take_succ hg, List.flatMap_append, List.flatten_append, e2, e3, show j = (acy b g).length - 1 by omega]
   simp only [List.flatMap_cons, List.flatMap_nil, List.append_nil, List.flatten_cons, List.flatten_nil]
   rfl
 ·try dsimp only
  unfold anb
  rw [acN, List.take_length]
  have hls := gls b.2.1.length
  rw [List.take_length] at hls
  have cl : ∀ i, i ≤ b.2.2.2.2.1.length → ((b.2.2.2.2.1.take i).flatMap (acU b)).length = 2 * i ∧ (((b.2.2.2.2.1.take i).mapIdx fun i _ => [((3 : Int), (i : Int)), ((3 : Int), (i : Int))]).flatten).length = 2 * i := by
   intro i
   induction i with
   | zero => intro _; simp
   | succ i ih =>
     intro hi
     have ih := ih (by omega)
     have hg : b.2.2.2.2.1[i]? = some b.2.2.2.2.1[i] := List.getElem?_eq_getElem hi
     rw [ahW _ hg, take_succ hg, List.flatMap_append, List.flatten_append, List.length_append, List.length_append]
     simp only [List.flatMap_cons, List.flatMap_nil, List.append_nil, List.flatten_cons, List.flatten_nil, acU, List.length_cons, List.length_nil]
     omega
  refine adg b.2.2.2.2.1 (fun i => (b.2.1.flatMap (ac6 b) ++ (b.2.2.2.2.1.take i).flatMap (acU b), (b.2.1.mapIdx (adA b)).flatten ++ ((b.2.2.2.2.1.take i).mapIdx fun i _ => [((3 : Int), (i : Int)), ((3 : Int), (i : Int))]).flatten)) _ (by simp) (fun i c hi hc kn' => ?_) (fun kn' => ?_)
  ·try dsimp only
   unfold am9
   have hcm := List.mem_of_getElem? hc
   have hn := (ahi c).1 (h.nums hcm)
   have ha := aeZ hn.2.2.2.2.2.1
   have hb := aeZ hn.2.2.2.2.2.2
   have sb := azc h hcm
   have c1 := cl i (by omega)
   rw [acp hi, acj hc, alx (by omega) (by omega), ab4, aQS _ _ _ (by dsimp only; omega), ab4, alx (by omega) (by omega), ab4, aQS _ _ _ (by dsimp only; omega), ab4]
   rw [show anv ((b.1.1, b.1.2), b.2.1, b.2.2.1, b.2.2.2.1, b.2.2.2.2.1, b.2.2.2.2.2) c = anv b c from rfl, h.says hcm, ab4]
   rw [acu (by omega) (by omega), acq (by simp only [List.length_append, List.length_cons, List.length_nil]; omega), Am.iff_true, acq (by simp only [List.length_append, List.length_cons, List.length_nil]; omega), Am.iff_true, acl hi (by omega), ahW _ hc, take_succ hc, List.flatMap_append, List.flatten_append]
   simp only [List.flatMap_cons, List.flatMap_nil, List.append_nil, List.flatten_cons, List.flatten_nil, List.append_assoc, Int.zero_sub]
   rfl
  ·try dsimp only
   unfold am9
   rw [acN, List.take_length]
   rfl
end Go.Proofs.ZzM
end
noncomputable section
namespace Go.Proofs.ZzM
open Go Go.Am
section
variable {ρ : Type}
def wv (w : List Bool) (v : Int) : Bool := w[v.toNat]?.getD false
theorem aLY {w : List Bool} {u v : Int} (hu : 0 ≤ u) (hv : 0 ≤ v) (h : u.toNat < w.length) (y : Bool) : wv (w.set u.toNat y) v = if v = u then y else wv w v := by
 unfold wv
 rw [List.getElem?_set]
 by_cases hvu : v = u
 ·subst hvu; simp [h]
 ·have : ¬ u.toNat = v.toNat := by omega
  simp [hvu, this]
theorem agN {x : List Int} {v : Int} (h : v.toNat < x.length) (f : Int → Option ρ) : afz x v.toNat f = f (gv x v) := amE (aMK h) f
theorem aFg {w : List Bool} {v : Int} (h : v.toNat < w.length) (f : Bool → Option ρ) : afz w v.toNat f = f (wv w v) := by
 refine amE ?_ f
 unfold wv; rw [List.getElem?_eq_getElem h]; rfl
theorem age {v : Int} {n : Nat} (h0 : 0 ≤ v) (h1 : v < n) (x : Option ρ) : acX ((ile 0 v) && (ilt v (n : Int))) x = x := by
 have : ((ile 0 v) && (ilt v (n : Int))) = true := by simp [ile, ilt, h0, h1]
 rw [this, Am.iff_true]
end
def akb (n least : Int) : List Lk → List Int → List Bool → List Int → Bool × List Int × List Bool × List Int
 | [], x, w, q => (true, x, w, q)
 | l :: t, x, w, q =>
   if l.1 ≠ n then akb n least t x w q else
   if gv x l.2.1 ≤ gv x n + l.2.2 then akb n least t x w q else
   if gv x n + l.2.2 < least then (false, x.set l.2.1.toNat (gv x n + l.2.2), w, q) else
   if wv w l.2.1 then akb n least t (x.set l.2.1.toNat (gv x n + l.2.2)) w q else akb n least t (x.set l.2.1.toNat (gv x n + l.2.2)) (w.set l.2.1.toNat true) (q ++ [l.2.1])
structure afN (L : List Lk) (N : Nat) (M : Int) : Prop where
 inr : InR L N
 noloop : ∀ l ∈ L, l.1 ≠ l.2.1
 most : ∀ l ∈ L, -M ≤ l.2.2 ∧ l.2.2 ≤ M
 len : L.length ≤ 400
 nodes : N ≤ 1000
 m0 : 0 ≤ M
 m1 : M ≤ 4503599627370496
set_option maxHeartbeats 1000000 in
theorem aRU {ρ : Type} {L : List Lk} {N : Nat} {M : Int} (hL : afN L N M) {n least : Int} (hn : 0 ≤ n ∧ n < N) {x : List Int} {w : List Bool} {q : List Int} (hx : x.length = N) (hw : w.length = N) (hq : q.length ≤ 1000000)
 (hb : -2305843009213693952 ≤ gv x n ∧ gv x n ≤ 2305843009213693952) (K0 : (Val (.pair .bool (.pair (.slice tI) (.pair (.slice .bool) (.slice tI))))) → Option ρ) (K1 : (Val (.pair (.slice tI) (.pair (.slice .bool) (.slice tI)))) → Option ρ) :
 acm (fun (v47 : (Val (.pair tI (.pair (.slice tI) (.pair (.slice .bool) (.slice tI)))))) kk52 => agb [] least n L (acD L) v47.1 v47.2.1 v47.2.2.1 v47.2.2.2 (fun u48 u49 u50 u51 => kk52 (u48, u49, u50, u51)) K0 K1) ((0 : Int), x, w, q) =
  match akb n least L x w q with
  | (true, r) => K1 r
  | (false, r) => K0 (false, r) := by
 have hlen := hL.len
 refine ayM L (fun i (s : List Int × List Bool × List Int) t => match akb n least t s.1 s.2.1 s.2.2 with | (true, r) => K1 r | (false, r) => K0 (false, r))
  (fun i s => s.1.length = N ∧ s.2.1.length = N ∧ gv s.1 n = gv x n ∧ s.2.2.length ≤ 1000000 + i) (fun s hs kn => ?_) (fun i l t s hd hi hl hI kn hk => ?_) (s := (x, w, q)) ⟨hx, hw, rfl, by simpa using hq⟩
 ·try dsimp only
  unfold agb
  rw [acN]
  rfl
 ·obtain ⟨y, u, p⟩ := s
  obtain ⟨h1, h2, h3, h4⟩ := hI
  dsimp only at h1 h2 h3 h4 hk ⊢
  have hmem : l ∈ L := List.mem_of_getElem? hl
  have hr := hL.inr l hmem
  have hm := hL.most l hmem
  have hm1 := hL.m1
  have hnl := hL.noloop l hmem
  unfold agb
  rw [acp hi, acj hl]
  unfold akb
  by_cases hln : l.1 = n
  ·have e0 : ine l.1 n = false := by simp [ine, hln]
   rw [aco e0]
   have e1 : ∀ (f : Bool → Option ρ) (g : Option ρ), aHm (k := tI) (v := .bool) (i : Int) [] f g = g := fun f g => rfl
   rw [e1, if_neg (by simp [hln])]
   have tn : n.toNat < y.length := by omega
   have tt : l.2.1.toNat < y.length := by omega
   have tu : l.2.1.toNat < u.length := by omega
   rw [age hn.1 (by omega), agN tn, acu (by omega) (by omega), age hr.2.1 (by omega), agN tt, adX]
   by_cases hge : gv y l.2.1 ≤ gv y n + l.2.2
   ·rw [if_pos (by simpa [ige] using hge), if_pos hge, acl hi (by omega)]
    exact hk (y, u, p) ⟨h1, h2, h3, by dsimp only; omega⟩
   ·rw [if_neg (by simpa [ige] using hge), if_neg hge]
    have hset : gv (y.set l.2.1.toNat (gv y n + l.2.2)) n = gv x n := by
     rw [apt hr.2.1 hn.1 tt, if_neg (fun h => hnl (hln.trans h)), h3]
    have hself : gv (y.set l.2.1.toNat (gv y n + l.2.2)) l.2.1 = gv y n + l.2.2 := by
     rw [apt hr.2.1 hr.2.1 tt, if_pos rfl]
    rw [age hn.1 (by omega), agN tn, acu (by omega) (by omega), age hr.2.1 (by omega), agN tt]
    rw [show (adK (List.set y l.2.1.toNat (gv y n + l.2.2))) = ((y.length : Nat) : Int) by simp [adK]]
    rw [age hr.2.1 (by omega), agN (by simpa using tt), hself, adX]
    by_cases hlt : gv y n + l.2.2 < least
    ·rw [if_pos (by simpa [ilt] using hlt), if_pos hlt]
    ·rw [if_neg (by simpa [ilt] using hlt), if_neg hlt, age hr.2.1 (by omega), aFg tu, adX]
     cases hwv : wv u l.2.1 with
     | true =>
       rw [if_neg (by simp), if_pos rfl, acl hi (by omega)]
       exact hk (y.set l.2.1.toNat (gv y n + l.2.2), u, p) ⟨by simpa using h1, h2, hset, by dsimp only; omega⟩
     | false =>
       rw [if_pos (by simp), if_neg (by simp), acq (by simp only [List.length_singleton]; omega), Am.iff_true, age hr.2.1 (by omega), aFg tu, acl hi (by omega)]
       exact hk (y.set l.2.1.toNat (gv y n + l.2.2), u.set l.2.1.toNat true, p ++ [l.2.1]) ⟨by simpa using h1, by simpa using h2, hset, by simp only [List.length_append, List.length_singleton]; omega⟩
  ·have e0 : ine l.1 n = true := by simp [ine, hln]
   rw [acB e0, if_pos hln, acl hi (by omega)]
   exact hk (y, u, p) ⟨h1, h2, h3, by dsimp only; omega⟩
structure aSD (N : Nat) (n least : Int) (L : List Lk) (x : List Int) (q : List Int) (x' : List Int) (w' : List Bool) (q' : List Int) : Prop where
 lx : x'.length = N
 lw : w'.length = N
 same : gv x' n = gv x n
 le : ∀ v : Int, 0 ≤ v → v < N → gv x' v ≤ gv x v
 link : ∀ v m, (n, v, m) ∈ L → gv x' v ≤ gv x n + m
 chg : ∀ v : Int, 0 ≤ v → v < N → gv x' v = gv x v ∨ (v ∈ q' ∧ gv x' v < gv x v ∧ ∃ m, (n, v, m) ∈ L ∧ gv x' v = gv x n + m ∧ least ≤ gv x' v)
 new : ∃ l, q' = q ++ l ∧ ∀ v ∈ l, (0 ≤ v ∧ v < N) ∧ gv x' v < gv x v
 nodup : q'.Nodup
 waits : ∀ v : Int, 0 ≤ v → v < N → (wv w' v = true ↔ v ∈ q')
theorem ag5 {N : Nat} {n least : Int} (hn : 0 ≤ n ∧ n < N) : ∀ {L : List Lk}, InR L N → (∀ l ∈ L, l.1 ≠ l.2.1) → ∀ {x : List Int} {w : List Bool} {q : List Int}, x.length = N → w.length = N → q.Nodup → (∀ v : Int, 0 ≤ v → v < N → (wv w v = true ↔ v ∈ q)) →
 ∀ {x' : List Int} {w' : List Bool} {q' : List Int}, akb n least L x w q = (true, x', w', q') → aSD N n least L x q x' w' q'
 | [], _, _, x, w, q, hx, hw, hq, hwq, x', w', q', h => by
   cases h
   exact ⟨hx, hw, rfl, fun _ _ _ => Int.le_refl _, fun _ _ h => (by cases h), fun _ _ _ => .inl rfl, ⟨[], by simp, fun _ h => by cases h⟩, hq, hwq⟩
 | l :: t, hL, hnl, x, w, q, hx, hw, hq, hwq, x', w', q', h => by
   have hLt : InR t N := fun l hl => hL l (by simp [hl])
   have hnt : ∀ l ∈ t, l.1 ≠ l.2.1 := fun l hl => hnl l (by simp [hl])
   have hr := hL l (by simp)
   have hl0 := hnl l (by simp)
   unfold akb at h
   split at h
   ·rename_i hne
    have a := ag5 hn hLt hnt hx hw hq hwq h
    exact ⟨a.lx, a.lw, a.same, a.le, fun v m hm => by
     rcases List.mem_cons.1 hm with rfl | hm
     ·exact (hne rfl).elim
     ·exact a.link v m hm, fun v h0 h1 => (a.chg v h0 h1).imp id fun ⟨g1, g2, m, g3, g4⟩ => ⟨g1, g2, m, by simp [g3], g4⟩, a.new, a.nodup, a.waits⟩
   ·rename_i hne
    have hln : l.1 = n := by simpa using hne
    split at h
    ·rename_i hle
     have a := ag5 hn hLt hnt hx hw hq hwq h
     exact ⟨a.lx, a.lw, a.same, a.le, fun v m hm => by
      rcases List.mem_cons.1 hm with rfl | hm
      ·have := a.le v hr.2.1 hr.2.2; simp only at hle; omega
      ·exact a.link v m hm, fun v h0 h1 => (a.chg v h0 h1).imp id fun ⟨g1, g2, m, g3, g4⟩ => ⟨g1, g2, m, by simp [g3], g4⟩, a.new, a.nodup, a.waits⟩
    ·rename_i hgt
     split at h
     ·cases h
     ·rename_i hls
      have tt : l.2.1.toNat < x.length := by omega
      have tw : l.2.1.toNat < w.length := by omega
      have hy : (x.set l.2.1.toNat (gv x n + l.2.2)).length = N := by simpa using hx
      have hyn : gv (x.set l.2.1.toNat (gv x n + l.2.2)) n = gv x n := by
       rw [apt hr.2.1 hn.1 tt, if_neg (fun h => hl0 (hln.trans h))]
      have hyv : ∀ v, 0 ≤ v → gv (x.set l.2.1.toNat (gv x n + l.2.2)) v = if v = l.2.1 then gv x n + l.2.2 else gv x v := fun v h0 => apt hr.2.1 h0 tt _
      have hlm : (n, l.2.1, l.2.2) ∈ l :: t := by rw [← hln]; simp
      -- what both ways have in common
      have fin : ∀ {w1 : List Bool} {q1 : List Int}, aSD N n least t (x.set l.2.1.toNat (gv x n + l.2.2)) q1 x' w' q' → l.2.1 ∈ q1 → (∃ l', q1 = q ++ l' ∧ ∀ v ∈ l', v = l.2.1) → aSD N n least (l :: t) x q x' w' q' := by
       intro w1 q1 a hmem hq1
       obtain ⟨new, hnew, hnv⟩ := a.new
       obtain ⟨l', hl', hlv⟩ := hq1
       have hto : gv x' l.2.1 ≤ gv x n + l.2.2 := by
        have := a.le l.2.1 hr.2.1 hr.2.2
        rw [hyv _ hr.2.1, if_pos rfl] at this
        exact this
       refine ⟨a.lx, a.lw, a.same.trans hyn, fun v h0 h1 => ?_, fun v m hm => ?_, fun v h0 h1 => ?_, ⟨l' ++ new, by rw [hnew, hl', List.append_assoc], fun v hv => ?_⟩, a.nodup, a.waits⟩
       ·have := a.le v h0 h1
        rw [hyv v h0] at this
        split at this
        ·rename_i e; subst e; omega
        ·exact this
       ·rcases List.mem_cons.1 hm with rfl | hm
        ·exact hto
        ·have := a.link v m hm
         rwa [hyn] at this
       ·rcases a.chg v h0 h1 with g | ⟨g1, g2, m, g3, g4, g5⟩
        ·rw [hyv v h0] at g
         split at g
         ·rename_i e
          subst e
          exact .inr ⟨by rw [hnew]; exact List.mem_append_left _ hmem, by omega, l.2.2, hlm, g, by omega⟩
         ·exact .inl g
        ·rw [hyv v h0] at g2
         rw [hyn] at g4
         refine .inr ⟨g1, ?_, m, by simp [g3], g4, g5⟩
         split at g2
         ·rename_i e; subst e; omega
         ·exact g2
       ·rcases List.mem_append.1 hv with hv | hv
        ·rw [hlv v hv]; exact ⟨hr.2, by omega⟩
        ·obtain ⟨g1, g2⟩ := hnv v hv
         rw [hyv v g1.1] at g2
         refine ⟨g1, ?_⟩
         split at g2
         ·rename_i e; subst e; omega
         ·exact g2
      split at h
      ·rename_i hwt
       exact fin (w1 := w) (ag5 hn hLt hnt hy hw hq hwq h) ((hwq _ hr.2.1 hr.2.2).1 hwt) ⟨[], by simp, fun _ h => by cases h⟩
      ·rename_i hwt
       have hnq : l.2.1 ∉ q := fun hc => hwt ((hwq _ hr.2.1 hr.2.2).2 hc)
       refine fin (w1 := w.set l.2.1.toNat true) (ag5 hn hLt hnt hy (by simpa using hw) ?_ ?_ h) (by simp) ⟨[l.2.1], rfl, fun v hv => by simpa using hv⟩
       ·rw [List.nodup_append]
        exact ⟨hq, by simp, fun a ha b hb => by simp at hb; subst hb; exact fun e => hnq (e ▸ ha)⟩
       ·intro v h0 h1
        rw [aLY hr.2.1 h0 tw]
        by_cases hv : v = l.2.1
        ·simp [hv]
        ·simp only [hv, if_false, List.mem_append, List.mem_singleton, or_false]
         exact hwq v h0 h1
theorem aiN {n least : Int} : ∀ {L : List Lk}, (∀ l ∈ L, l.1 ≠ l.2.1) → (∀ l ∈ L, 0 ≤ l.2.1) → 0 ≤ n → ∀ {x : List Int} {w : List Bool} {q : List Int} {r}, akb n least L x w q = (false, r) → ∃ v m, (n, v, m) ∈ L ∧ gv x n + m < least
 | [], _, _, _, x, w, q, r, h => by cases h
 | l :: t, hnl, h0, hn, x, w, q, r, h => by
   have hnt : ∀ l ∈ t, l.1 ≠ l.2.1 := fun l hl => hnl l (by simp [hl])
   have h0t : ∀ l ∈ t, 0 ≤ l.2.1 := fun l hl => h0 l (by simp [hl])
   have up : (∃ v m, (n, v, m) ∈ t ∧ gv x n + m < least) → ∃ v m, (n, v, m) ∈ l :: t ∧ gv x n + m < least := fun ⟨v, m, g1, g2⟩ => ⟨v, m, by simp [g1], g2⟩
   unfold akb at h
   split at h
   ·exact up (aiN hnt h0t hn h)
   ·rename_i hne
    have hln : l.1 = n := by simpa using hne
    split at h
    ·exact up (aiN hnt h0t hn h)
    ·split at h
     ·rename_i hlt
      exact ⟨l.2.1, l.2.2, by rw [← hln]; simp, hlt⟩
     ·have hyn : gv (x.set l.2.1.toNat (gv x n + l.2.2)) n = gv x n := by
       unfold gv
       rw [List.getElem?_set]
       have h1 := hnl l (by simp)
       have h2 := h0 l (by simp)
       have : ¬ l.2.1.toNat = n.toNat := by omega
       simp [this]
      split at h
      ·have := aiN hnt h0t hn h
       rw [hyn] at this
       exact up this
      ·have := aiN hnt h0t hn h
       rw [hyn] at this
       exact up this
end Go.Proofs.ZzM
end
noncomputable section
namespace Go.Proofs.ZzM
open Go Go.Am
theorem aMu {ρ : Type} {L : List Lk} {N : Nat} {M : Int} (hL : afN L N M) {n least : Int} (hn : 0 ≤ n ∧ n < N) {x : List Int} {w : List Bool} {t rest : List Int} (hx : x.length = N) (hw : w.length = N) (ht : t.length = N) (hq : rest.length ≤ 1000000)
 (hb : -2305843009213693952 ≤ gv x n ∧ gv x n ≤ 2305843009213693952) (htn : 0 ≤ gv t n ∧ gv t n ≤ 1000000) (kn : List Int → List Bool → List Int → List Int → Option ρ) (k0 : (Val (.pair .bool (.pair (.slice tI) (.pair (.slice .bool) (.pair (.slice tI) (.slice tI)))))) → Option ρ) :
 adx [] least (N : Int) L x w t (n :: rest) kn k0 =
  if (N : Int) + 1 < gv t n + 1 then k0 (false, x, w.set n.toNat false, t.set n.toNat (gv t n + 1), rest) else
  match akb n least L x (w.set n.toNat false) rest with
  | (true, x', w', q') => kn x' w' (t.set n.toNat (gv t n + 1)) q'
  | (false, x', w', q') => k0 (false, x', w', t.set n.toNat (gv t n + 1), q') := by
 have hN := hL.nodes
 have tn : n.toNat < x.length := by omega
 have tw : n.toNat < w.length := by omega
 have tt : n.toNat < t.length := by omega
 unfold adx
 have e0 : ieq (acD (n :: rest)) 0 = false := by
  rw [acQ]
  simp only [ieq, List.length_cons, beq_eq_false_iff_ne, ne_eq]
  omega
 have e1 : ilt (0 : Int) (adK (n :: rest)) = true := by simp [ilt, adK]
 have e2 : ile (1 : Int) (adK (n :: rest)) = true := by simp [ile, adK]; omega
 have e3 : decide (1 + (List.length (n :: rest) - 1) = List.length (n :: rest)) = true := by simp; omega
 rw [aco e0, adP e1]
 rw [show afz (n :: rest) 0 = fun (f : Int → Option ρ) => f n from rfl]
 try dsimp only
 rw [adP e2, adP e3, age hn.1 (by omega), aFg tw, age hn.1 (by omega), agN tt, acu (by omega) (by omega), age hn.1 (by omega), agN tt]
 rw [show (adK (List.set t n.toNat (gv t n + 1))) = ((t.length : Nat) : Int) by simp [adK]]
 rw [age hn.1 (by omega), agN (by simpa using tt), apt hn.1 hn.1 tt, if_pos rfl, acu (by omega) (by omega), adX]
 rw [show List.drop 1 (n :: rest) = rest from rfl]
 by_cases hlt : (N : Int) + 1 < gv t n + 1
 ·rw [if_pos (by simpa [igt] using hlt), if_pos hlt]
 ·rw [if_neg (by simpa [igt] using hlt), if_neg hlt]
  rw [aRU hL hn hx (w := w.set n.toNat false) (by simpa using hw) hq hb]
  generalize akb n least L x (w.set n.toNat false) rest = r
  obtain ⟨b, x', w', q'⟩ := r
  cases b <;> rfl
theorem aPc {ρ : Type} {L : List Lk} {N : Int} {least : Int} {x : List Int} {w : List Bool} {t : List Int} (kn : List Int → List Bool → List Int → List Int → Option ρ) (k0 : (Val (.pair .bool (.pair (.slice tI) (.pair (.slice .bool) (.pair (.slice tI) (.slice tI)))))) → Option ρ) :
 adx [] least N L x w t [] kn k0 = k0 (true, x, w, t, []) := by
 unfold adx
 have e0 : ieq (acD ([] : List Int)) 0 = true := by rw [acQ]; rfl
 rw [acB e0]
def aGJ (N : Nat) (t : List Int) : Nat := (t.map fun a => ((N : Int) + 2 - a).toNat).sum
theorem aMF (N : Nat) : ∀ (t : List Int) (i : Nat) (a b : Int), t[i]? = some a → a < b → a < (N : Int) + 2 → aGJ N (t.set i b) < aGJ N t
 | a0 :: t, 0, a, b, h, h1, h2 => by
   simp at h; subst h
   simp only [aGJ, List.set_cons_zero, List.map_cons, List.sum_cons]
   omega
 | a0 :: t, i + 1, a, b, h, h1, h2 => by
   have := aMF N t i a b (by simpa using h) h1 h2
   simp only [aGJ] at this
   simp only [aGJ, List.set_cons_succ, List.map_cons, List.sum_cons]
   omega
theorem aJk {N : Nat} {t : List Int} {n : Int} (hn : n.toNat < t.length) (h : gv t n ≤ (N : Int) + 1) : aGJ N (t.set n.toNat (gv t n + 1)) < aGJ N t :=
 aMF N t n.toNat (gv t n) _ (aMK hn) (by omega) (by omega)
structure aOA (L : List Lk) (S : Int → Prop) (N : Nat) (M : Int) (k : Nat) (A B : List Int) (x : List Int) (w : List Bool) (t q : List Int) : Prop where
 q_eq : q = A ++ B
 lx : x.length = N
 lw : w.length = N
 lt : t.length = N
 nodup : q.Nodup
 rng : ∀ v ∈ q, 0 ≤ v ∧ v < N
 waits : ∀ v : Int, 0 ≤ v → v < N → (wv w v = true ↔ v ∈ q)
 t0 : ∀ v : Int, 0 ≤ v → v < N → 0 ≤ gv t v ∧ gv t v ≤ (k : Int) + 1
 tA : ∀ v ∈ A, gv t v ≤ k
 low : ∀ vs v d, Wl L S vs v d → vs.length ≤ k → gv x v ≤ d
 nxt : ∀ vs u d, Wl L S vs u d → vs.length ≤ k → u ∉ A → ∀ v m, (u, v, m) ∈ L → gv x v ≤ d + m
 rel : ∀ u : Int, 0 ≤ u → u < N → u ∉ q → gv x u ≠ afx → ∀ v m, (u, v, m) ∈ L → gv x v ≤ gv x u + m
 att : ∀ v : Int, 0 ≤ v → v < N → gv x v ≠ afx → ∃ vs, Wl L S vs v (gv x v)
 bd : ∀ v : Int, 0 ≤ v → v < N → gv x v = afx ∨ gv x v ≤ ((k : Int) + 1) * M
 bA : ∀ v ∈ A, gv x v ≤ (k : Int) * M
 fin : ∀ v ∈ q, gv x v < afx
 kN : k + 1 ≤ N
 last : k + 1 = N → B = []
section
variable {L : List Lk} {S : Int → Prop} {N : Nat} {M : Int} {p : Int → Int} {k : Nat} {A B x : List Int} {w : List Bool} {t q : List Int}
theorem ayF {a b : Nat} {M : Int} (h : a ≤ b) (hM : 0 ≤ M) : (a : Int) * M ≤ (b : Int) * M := Int.mul_le_mul_of_nonneg_right (by omega) hM
theorem Wl.lt_free (hL : afN L N M) (hNM : N * M < afx) {vs : List Int} {v d : Int} (hw : Wl L S vs v d) (h : vs.length ≤ N) : d < afx := by
 have h1 := hw.high fun l hl => (hL.most l hl).2
 have h2 := ayF h hL.m0
 omega
theorem aOA.next (hL : afN L N M) (hNM : N * M < afx) (hS : ∀ v, S v → 0 ≤ v ∧ v < N) (h : aOA L S N M k [] B x w t q) (hB : B ≠ []) : aOA L S N M (k + 1) B [] x w t q := by
 have hM := hL.m0
 have hq : q = B := by simpa using h.q_eq
 have hk : k + 1 ≠ N := fun e => hB (h.last e)
 have hkN := h.kN
 have low' : ∀ vs v d, Wl L S vs v d → vs.length ≤ k + 1 → gv x v ≤ d := by
  intro vs v d hw hl
  cases hw with
  | nil hs => exact h.low [] v 0 (.nil hs) (by simp)
  | @step vs u _ m d hw hlk => exact h.nxt vs u d hw (by simpa using hl) (by simp) v m hlk
 refine ⟨by simp [hq], h.lx, h.lw, h.lt, h.nodup, h.rng, h.waits, fun v h0 h1 => ⟨(h.t0 v h0 h1).1, by have := (h.t0 v h0 h1).2; push_cast; omega⟩, fun v hv => ?_, low', fun vs u d hw hl hu v m hlk => ?_, h.rel, h.att, fun v h0 h1 => ?_, fun v hv => ?_, h.fin, by omega, fun _ => rfl⟩
 ·have := h.rng v (by rw [hq]; exact hv)
  have := (h.t0 v this.1 this.2).2
  push_cast; omega
 ·have h1 := low' vs u d hw hl
  have h2 := hw.lt_free hL hNM (by omega)
  have h3 := (hw.range hL.inr hS).1
  have := h.rel u h3.1 h3.2 (by rw [hq]; exact hu) (by omega) v m hlk
  omega
 ·rcases h.bd v h0 h1 with h2 | h2
  ·exact .inl h2
  ·refine .inr ?_
   have := ayF (show k + 1 ≤ k + 1 + 1 by omega) hM
   push_cast at this ⊢
   omega
 ·have h1 := h.rng v (by rw [hq]; exact hv)
  have h2 := h.fin v (by rw [hq]; exact hv)
  rcases h.bd v h1.1 h1.2 with h3 | h3
  ·omega
  ·push_cast; exact h3
theorem aOA.step {n : Int} {A' : List Int} {least : Int} {x' : List Int} {w' : List Bool} {q' : List Int} (hL : afN L N M) (hNM : N * M < afx) (hp : Pot L p) (hS : ∀ v, S v → 0 ≤ v ∧ v < N) (h : aOA L S N M k (n :: A') B x w t q)
 (ha : aSD N n least L x (A' ++ B) x' w' q') : ∃ B', aOA L S N M k A' B' x' w' (t.set n.toNat (gv t n + 1)) q' := by
 have hM := hL.m0
 have hq : q = n :: (A' ++ B) := by simpa using h.q_eq
 have hkN := h.kN
 have hnr := h.rng n (by rw [hq]; simp)
 have hnf := h.fin n (by rw [hq]; simp)
 have hnd : n ∉ A' ++ B := by have := h.nodup; rw [hq, List.nodup_cons] at this; exact this.1
 have htn : n.toNat < t.length := by have := h.lt; omega
 have tset : ∀ v, 0 ≤ v → gv (t.set n.toNat (gv t n + 1)) v = if v = n then gv t n + 1 else gv t v := fun v h0 => apt hnr.1 h0 htn _
 have hkM : ((k : Int) + 1) * M < afx := by
  have := ayF hkN hM
  push_cast at this
  omega
 have xle : ∀ v : Int, 0 ≤ v → v < N → gv x v ≤ afx := fun v h0 h1 => by rcases h.bd v h0 h1 with h2 | h2 <;> omega
 obtain ⟨l, hl, hlv⟩ := ha.new
 have att' : ∀ v : Int, 0 ≤ v → v < N → gv x' v ≠ afx → ∃ vs, Wl L S vs v (gv x' v) := by
  intro v h0 h1 hne
  rcases ha.chg v h0 h1 with g | ⟨_, _, m, g3, g4, _⟩
  ·rw [g] at hne ⊢; exact h.att v h0 h1 hne
  ·obtain ⟨vs, hw⟩ := h.att n hnr.1 hnr.2 (by omega)
   rw [g4]; exact ⟨_, hw.step g3⟩
 refine ⟨B ++ l, by rw [hl, List.append_assoc], ha.lx, ha.lw, by rw [List.length_set]; exact h.lt, ha.nodup, fun v hv => ?_, ha.waits, fun v h0 h1 => ?_, fun v hv => ?_, fun vs v d hw hlen => ?_, fun vs u d hw hlen hu v m hlk => ?_,
  fun u h0 h1 hu hf v m hlk => ?_, att', fun v h0 h1 => ?_, fun v hv => ?_, fun v hv => ?_, hkN, fun hk => ?_⟩
 ·rw [hl] at hv
  rcases List.mem_append.1 hv with hv | hv
  ·exact h.rng v (by rw [hq]; simp only [List.mem_cons]; exact .inr hv)
  ·exact (hlv v hv).1
 ·rw [tset v h0]
  have h2 := h.t0 v h0 h1
  split
  ·have h3 := h.tA n (by simp)
   have h4 := h.t0 n hnr.1 hnr.2
   omega
  ·exact h2
 ·have h1 := h.rng v (by rw [hq]; simp [hv])
  rw [tset v h1.1, if_neg (fun e => hnd (by rw [← e]; simp [hv]))]
  exact h.tA v (by simp [hv])
 ·have h1 := h.low vs v d hw hlen
  have h2 := (hw.range hL.inr hS).1
  have := ha.le v h2.1 h2.2
  omega
 ·have hvr := (hL.inr _ hlk).2
  by_cases hun : u = n
  ·subst hun
   have h1 := ha.link v m hlk
   have h2 := h.low vs u d hw hlen
   omega
  ·have h1 := h.nxt vs u d hw hlen (by simp [hun, hu]) v m hlk
   have := ha.le v hvr.1 hvr.2
   omega
 ·have hvr := (hL.inr _ hlk).2
  have heq : gv x' u = gv x u := by
   rcases ha.chg u h0 h1 with g | ⟨g, _⟩
   ·exact g
   ·exact (hu g).elim
  by_cases hun : u = n
  ·subst hun
   have h1 := ha.link v m hlk
   omega
  ·have hur : u ∉ q := by
    rw [hq]
    intro hc
    rcases List.mem_cons.1 hc with e | hc
    ·exact hun e
    ·exact hu (by rw [hl]; exact List.mem_append_left _ hc)
   have h2 := h.rel u h0 h1 hur (by rw [← heq]; exact hf) v m hlk
   have := ha.le v hvr.1 hvr.2
   omega
 ·rcases ha.chg v h0 h1 with g | ⟨_, _, m, g3, g4, _⟩
  ·rw [g]; exact h.bd v h0 h1
  ·have h2 := h.bA n (by simp)
   have h3 := (hL.most _ g3).2
   simp only at h3
   refine .inr ?_
   rw [g4, Int.add_mul, Int.one_mul]
   omega
 ·have h1 := h.rng v (by rw [hq]; simp [hv])
  have h2 := h.bA v (by simp [hv])
  have := ha.le v h1.1 h1.2
  omega
 ·rw [hl] at hv
  rcases List.mem_append.1 hv with hv | hv
  ·have h1 := h.rng v (by rw [hq]; simp only [List.mem_cons]; exact .inr hv)
   have h2 := h.fin v (by rw [hq]; simp only [List.mem_cons]; exact .inr hv)
   have := ha.le v h1.1 h1.2
   omega
  ·obtain ⟨g1, g2⟩ := hlv v hv
   have := xle v g1.1 g1.2
   omega
 ·rw [h.last hk]
  cases l with
  | nil => rfl
  | cons v l =>
    exfalso
    obtain ⟨g1, g2⟩ := hlv v (by simp)
    have := xle v g1.1 g1.2
    obtain ⟨vs, hw⟩ := att' v g1.1 g1.2 (by omega)
    obtain ⟨vs', d', k1, k2, k3⟩ := hw.simple hp
    have k4 := k1.short hL.inr hS k3
    have := h.low vs' v d' k1 (by omega)
    omega
theorem aOA.done (hL : afN L N M) (hNM : N * M < afx) (hp : Pot L p) (hS : ∀ v, S v → 0 ≤ v ∧ v < N) (h : aOA L S N M k A B x w t []) : aOC L S N (gv x) := by
 have hkN := h.kN
 have hM := hL.m0
 have hkM : ((k : Int) + 1) * M < afx := by
  have := ayF hkN hM
  push_cast at this
  omega
 have key : ∀ vs v d, Wl L S vs v d → vs.length + 1 ≤ N → gv x v ≤ d := by
  intro vs v d hw
  induction hw with
  | nil hs => intro _; exact h.low [] _ 0 (.nil hs) (by simp)
  | @step vs u v m d hw hlk ih =>
    intro hlen
    simp only [List.length_cons] at hlen
    have h1 := ih (by omega)
    have h2 := hw.lt_free hL hNM (by omega)
    have h3 := (hw.range hL.inr hS).1
    have := h.rel u h3.1 h3.2 (by simp) (by omega) v m hlk
    omega
 refine ⟨h.att, fun v vs d hw => ?_, fun v h0 h1 => ?_⟩
 ·obtain ⟨vs', d', k1, k2, k3⟩ := hw.simple hp
  have := key vs' v d' k1 (k1.short hL.inr hS k3)
  omega
 ·rcases h.bd v h0 h1 with h2 | h2 <;> omega
theorem aHz {ρ : Type} {r : Option ρ} (hL : afN L N M) (hNM : N * M < afx) (hp : Pot L p) (hS : ∀ v, S v → 0 ≤ v ∧ v < N) (k0 : (Val (.pair .bool (.pair (.slice tI) (.pair (.slice .bool) (.pair (.slice tI) (.slice tI)))))) → Option ρ)
 (hK : ∀ x w t q, x.length = N → aOC L S N (gv x) → k0 (true, x, w, t, q) = r) (h : aOA L S N M k A B x w t q) :
 acm (fun (v64 : (Val (.pair (.slice tI) (.pair (.slice .bool) (.pair (.slice tI) (.slice tI)))))) kk69 => adx [] (ayE L) (N : Int) L v64.1 v64.2.1 v64.2.2.1 v64.2.2.2 (fun u65 u66 u67 u68 => kk69 (u65, u66, u67, u68)) k0) (x, w, t, q) = r := by
 refine afk (fun s : List Int × List Bool × List Int × List Int => ∃ k A B, aOA L S N M k A B s.1 s.2.1 s.2.2.1 s.2.2.2) (fun s => aGJ N s.2.2.1) ?_ ⟨k, A, B, h⟩
 rintro ⟨x, w, t, q⟩ ⟨k, A, B, h⟩
 dsimp only at h ⊢
 have hN := hL.nodes
 cases q with
 | nil => exact .inl fun kn => by rw [aPc]; exact hK x w t [] h.lx (h.done hL hNM hp hS)
 | cons n rest =>
   -- the phase in which the first one is
   have hph : ∃ k A' B, aOA L S N M k (n :: A') B x w t (n :: rest) := by
    cases A with
    | nil =>
      have hB : B = n :: rest := by simpa using h.q_eq.symm
      subst hB
      exact ⟨k + 1, rest, [], h.next hL hNM hS (by simp)⟩
    | cons a A' =>
      have := h.q_eq
      simp only [List.cons_append, List.cons.injEq] at this
      obtain ⟨rfl, _⟩ := this
      exact ⟨k, A', B, h⟩
   clear h k A B
   obtain ⟨k, A', B, h⟩ := hph
   have hrest : rest = A' ++ B := by have := h.q_eq; simpa using this
   have hnr := h.rng n (by simp)
   have hnf := h.fin n (by simp)
   have hkN := h.kN
   have h1 := h.tA n (by simp)
   have h2 := h.t0 n hnr.1 hnr.2
   obtain ⟨vs, hw⟩ := h.att n hnr.1 hnr.2 (by omega)
   have hlow := hw.low' hp
   have hneg : -(400 * 4503599627370496) ≤ ayE L := by
    have : ∀ L' : List Lk, (∀ l ∈ L', -M ≤ l.2.2) → -((L'.length : Int) * M) ≤ ayE L' := by
     intro L'
     induction L' with
     | nil => intro _; simp [ayE, axT]
     | cons l t ih =>
       intro hh
       have i1 := ih fun l hl => hh l (by simp [hl])
       have i2 := hh l (by simp)
       have i3 := hL.m0
       unfold ayE at i1 ⊢
       simp only [axT, if_true, List.length_cons, Int.natCast_succ, Int.add_mul, Int.one_mul]
       omega
    have h3 := this L fun l hl => (hL.most l hl).1
    have h4 : (L.length : Int) * M ≤ 400 * 4503599627370496 := Int.mul_le_mul (by have := hL.len; omega) hL.m1 hL.m0 (by omega)
    omega
   have hrl : rest.length ≤ 1000000 := by
    have := aMl N (n :: rest) h.nodup h.rng
    simp only [List.length_cons] at this
    omega
   refine .inr ?_
   have hw' : (w.set n.toNat false).length = N := by rw [List.length_set]; exact h.lw
   cases hr : akb n (ayE L) L x (w.set n.toNat false) rest with
   | mk b r' =>
   obtain ⟨x', w', q'⟩ := r'
   cases b with
   | false =>
     exfalso
     obtain ⟨v, m, g1, g2⟩ := aiN hL.noloop (fun l hl => (hL.inr l hl).2.1) hnr.1 hr
     have := (hw.step g1).low' hp
     omega
   | true =>
     have hnd := h.nodup
     rw [List.nodup_cons] at hnd
     have ha := ag5 hnr hL.inr hL.noloop h.lx hw' hnd.2 (fun v h0 h1 => by
      rw [aLY hnr.1 h0 (by have := h.lw; omega)]
      by_cases hv : v = n
      ·subst hv; simp [hnd.1]
      ·rw [if_neg hv, h.waits v h0 h1]
       simp [hv]) hr
     rw [hrest] at ha
     obtain ⟨B', hB'⟩ := h.step hL hNM hp hS ha
     refine ⟨(x', w', t.set n.toNat (gv t n + 1), q'), ⟨k, A', B', hB'⟩, aJk (by have := h.lt; omega) (by omega), fun kn => ?_⟩
     have hF : afx = 1152921504606846976 := rfl
     rw [aMu hL hnr h.lx h.lw h.lt hrl (by constructor <;> omega) (by constructor <;> omega), if_neg (by omega), hr]
end
end Go.Proofs.ZzM
end
noncomputable section
namespace Go.Proofs.ZzM
open Go Go.Am
theorem azy (f : Lk → Bool) : ∀ (L L' : List Lk), axT f (L ++ L') = axT f L + axT f L'
 | [], L' => by simp [axT]
 | l :: t, L' => by
   simp only [List.cons_append, axT, azy f t L']
   omega
theorem aIc {L : List Lk} {i : Nat} {l : Lk} (h : L[i]? = some l) : ayE (L.take (i + 1)) = ayE (L.take i) + min l.2.2 0 := by
 rw [take_succ h, ayE, ayE, azy]
 simp [axT]
theorem imin0 (e : Int) : aKj e 0 = min e 0 := by
 unfold aKj
 split <;> omega
theorem aFh {L : List Lk} {M : Int} (h : ∀ l ∈ L, -M ≤ l.2.2) (hM : 0 ≤ M) : -((L.length : Int) * M) ≤ ayE L := by
 induction L with
 | nil => simp [ayE, axT]
 | cons l t ih =>
   have i1 := ih fun l hl => h l (by simp [hl])
   have i2 := h l (by simp)
   unfold ayE at i1 ⊢
   simp only [axT, if_true, List.length_cons, Int.natCast_succ, Int.add_mul, Int.one_mul]
   omega
theorem aTo (L : List Lk) : ayE L ≤ 0 := amF _ L
section
variable {ρ : Type} {L : List Lk} {N : Nat} {M : Int}
theorem aMG (hL : afN L N M) (k0 : Int → Option ρ) : acm (fun (v75 : Val ab6) kk78 => afr L (acD L) v75.1 v75.2 (fun u76 u77 => kk78 (u76, u77)) k0) ((0 : Int), (0 : Int)) = k0 (ayE L) := by
 refine afk (fun x : Int × Int => ∃ i : Nat, i ≤ L.length ∧ x = (ayE (L.take i), (i : Int))) (fun x => L.length - x.2.toNat) ?_ ⟨0, by omega, rfl⟩
 rintro x ⟨i, hi, rfl⟩
 have hlen := hL.len
 rcases Nat.lt_or_ge i L.length with h | h
 ·have hl : L[i]? = some L[i] := List.getElem?_eq_getElem h
  refine .inr ⟨(ayE (L.take (i + 1)), (i : Int) + 1), ⟨i + 1, h, by simp⟩, by simp; omega, fun kn => ?_⟩
  try dsimp only
  unfold afr
  have hb : ∀ j, j ≤ L.length → -(400 * 4503599627370496) ≤ ayE (L.take j) := by
   intro j hj
   have h1 := aFh (L := L.take j) (fun l hl => (hL.most l (List.mem_of_mem_take hl)).1) hL.m0
   have h2 : ((L.take j).length : Int) * M ≤ 400 * 4503599627370496 := Int.mul_le_mul (by rw [List.length_take]; omega) hL.m1 hL.m0 (by omega)
   omega
  have h1 := hb i hi
  have h2 := hb (i + 1) h
  have h3 := aTo (L.take i)
  rw [aIc hl] at h2
  rw [acp h, acj hl, imin0, acu (by omega) (by omega), acl h (by omega), aIc hl]
 ·refine .inl fun kn => ?_
  have : i = L.length := by omega
  subst this
  try dsimp only
  unfold afr
  rw [acN, List.take_length]
theorem aOS {x : List Int} (hx : x.length = N) (hN : N ≤ 1000) {r : Option ρ} (k0 : (Val (.pair (.slice .bool) (.slice tI))) → Option ρ)
 (hK : ∀ (w : List Bool) (q : List Int), w.length = N → q.Nodup → (∀ v ∈ q, 0 ≤ v ∧ v < N) → (∀ v : Int, 0 ≤ v → v < N → (wv w v = true ↔ v ∈ q)) → (∀ v : Int, 0 ≤ v → v < N → (v ∈ q ↔ gv x v ≠ afx)) → k0 (w, q) = r) :
 acm (fun (v70 : (Val (.pair tI (.pair (.slice .bool) (.slice tI))))) kk74 => ad7 (N : Int) x v70.1 v70.2.1 v70.2.2 (fun u71 u72 u73 => kk74 (u71, u72, u73)) k0) ((0 : Int), (List.replicate N false), ([] : List Int)) = r := by
 refine afk (fun s : Int × List Bool × List Int => ∃ i : Nat, i ≤ N ∧ s.1 = i ∧ s.2.1.length = N ∧ s.2.2.Nodup ∧ s.2.2.length ≤ i ∧ (∀ v ∈ s.2.2, 0 ≤ v ∧ v < i) ∧ (∀ v : Int, 0 ≤ v → v < N → (wv s.2.1 v = true ↔ v ∈ s.2.2)) ∧ (∀ v : Int, 0 ≤ v → v < i → (v ∈ s.2.2 ↔ gv x v ≠ afx))) (fun s => N - s.1.toNat) ?_
  ⟨0, by omega, rfl, by simp, by simp, by simp, by simp, fun v h0 h1 => ?_, fun v h0 h1 => by omega⟩
 ·rintro ⟨s, w, q⟩ ⟨i, hi, h1, h2, h3, h4, h5, h6, h7⟩
  simp only at h1 h2 h3 h4 h5 h6 h7
  subst h1
  rcases Nat.lt_or_ge i N with h | h
  ·refine .inr ?_
   have hix : i < x.length := by omega
   have hiw : i < w.length := by omega
   have hnq : ((i : Int)) ∉ q := fun hc => by have := (h5 _ hc).2; omega
   by_cases hf : gv x i = afx
   ·refine ⟨((i : Int) + 1, w, q), ⟨i + 1, h, by simp, h2, h3, by simp only; omega, fun v hv => ⟨(h5 v hv).1, by have := (h5 v hv).2; push_cast; omega⟩, h6, fun v h0 h1 => ?_⟩, by simp; omega, fun kn => ?_⟩
    ·by_cases hv : v = i
     ·subst hv; simp [hf, hnq]
     ·exact h7 v h0 (by push_cast at h1; omega)
    ·try dsimp only
     unfold ad7
     have e : ilt (i : Int) (N : Int) = true := by simp [ilt, h]
     rw [acB e, afX hix, agN (by simpa using hix)]
     have e2 : ine (gv x i) 1152921504606846976 = false := by simp [ine, hf]
     rw [aco e2, acl h (by omega)]
   ·refine ⟨((i : Int) + 1, w.set i true, q ++ [(i : Int)]), ⟨i + 1, h, by simp, by simpa using h2, ?_, by simp; omega, fun v hv => ?_, fun v h0 h1 => ?_, fun v h0 h1 => ?_⟩, by simp; omega, fun kn => ?_⟩
    ·rw [List.nodup_append]
     exact ⟨h3, by simp, fun a ha b hb => by simp at hb; subst hb; exact fun e => hnq (e ▸ ha)⟩
    ·rcases List.mem_append.1 hv with hv | hv
     ·exact ⟨(h5 v hv).1, by have := (h5 v hv).2; push_cast; omega⟩
     ·simp at hv; subst hv; push_cast; omega
    ·have := aLY (w := w) (u := (i : Int)) (by omega) h0 (by simpa using hiw) true
     rw [Int.toNat_natCast] at this
     show wv (w.set i true) v = true ↔ v ∈ q ++ [(i : Int)]
     rw [this]
     by_cases hv : v = i
     ·simp [hv]
     ·simp only [hv, if_false, List.mem_append, List.mem_singleton, or_false]
      exact h6 v h0 h1
    ·show v ∈ q ++ [(i : Int)] ↔ _
     by_cases hv : v = i
     ·subst hv; simp [hf]
     ·simp only [List.mem_append, List.mem_singleton, hv, or_false]
      exact h7 v h0 (by push_cast at h1; omega)
    ·try dsimp only
     unfold ad7
     have e : ilt (i : Int) (N : Int) = true := by simp [ilt, h]
     rw [acB e, afX hix, agN (by simpa using hix)]
     have e2 : ine (gv x i) 1152921504606846976 = true := by simp [ine, hf]
     rw [acB e2, acq (by simp only [List.length_singleton]; omega), Am.iff_true, afX hiw, aFg (by simpa using hiw), acl h (by omega), Int.toNat_natCast]
  ·refine .inl fun kn => ?_
   have : i = N := by omega
   subst this
   try dsimp only
   unfold ad7
   have e : ilt (i : Int) (i : Int) = false := by simp [ilt]
   rw [aco e]
   exact hK w q h2 h3 h5 h6 h7
 ·have : wv (List.replicate N false) v = false := by
   unfold wv
   rw [List.getElem?_replicate]
   split <;> rfl
  simp [this]
theorem aDB (hL : afN L N M) (hN : 1 ≤ N) {S : Int → Bool} (hS : ∀ v, S v = true → 0 ≤ v ∧ v < N) {w : List Bool} {q : List Int} (hw : w.length = N) (hq : q.Nodup) (hr : ∀ v ∈ q, 0 ≤ v ∧ v < N) (hwq : ∀ v : Int, 0 ≤ v → v < N → (wv w v = true ↔ v ∈ q)) (hqs : ∀ v : Int, 0 ≤ v → v < N → (v ∈ q ↔ gv (amz S N) v ≠ afx)) :
 aOA L (fun v => S v = true) N M 0 q [] (amz S N) w (List.replicate N 0) q := by
 have ht : ∀ v : Int, 0 ≤ v → v < N → gv (List.replicate N (0 : Int)) v = 0 := by
  intro v h0 h1
  unfold gv
  rw [List.getElem?_replicate]
  split <;> rfl
 have hg : ∀ v : Int, 0 ≤ v → v < N → (v ∈ q ↔ S v = true) := by
  intro v h0 h1
  rw [hqs v h0 h1, afY S h0 h1]
  cases S v <;> simp [afx]
 have hM := hL.m0
 refine ⟨by simp, ac3 S N, hw, by simp, hq, hr, hwq, fun v h0 h1 => ?_, fun v hv => ?_, fun vs v d hw hl => ?_, fun vs u d hw hl hu v m hlk => ?_, fun u h0 h1 hu hf v m hlk => ?_, fun v h0 h1 hf => ?_, fun v h0 h1 => ?_, fun v hv => ?_, fun v hv => ?_, by omega, fun _ => rfl⟩
 ·rw [ht v h0 h1]; omega
 ·have := hr v hv
  rw [ht v this.1 this.2]; omega
 ·cases hw with
  | nil hs =>
    have := hS v hs
    rw [afY S this.1 this.2, if_pos hs]; omega
  | step => simp at hl
 ·cases hw with
  | nil hs =>
    have := hS u hs
    exact (hu ((hg u this.1 this.2).2 hs)).elim
  | step => simp at hl
 ·rw [afY S h0 h1] at hf
  have := mt (hg u h0 h1).2 hu
  rw [if_neg this] at hf
  exact (hf rfl).elim
 ·rw [afY S h0 h1] at hf ⊢
  split at hf
  ·rename_i hs
   rw [if_pos hs]; exact ⟨[], .nil hs⟩
  ·exact (hf rfl).elim
 ·rw [afY S h0 h1]
  split
  ·exact .inr (by simp [hM])
  ·exact .inl rfl
 ·have h1 := hr v hv
  rw [afY S h1.1 h1.2, if_pos ((hg v h1.1 h1.2).1 hv)]; simp
 ·have h1 := hr v hv
  rw [afY S h1.1 h1.2, if_pos ((hg v h1.1 h1.2).1 hv)]; simp [afx]
structure Bad (L : List Lk) (N : Nat) (x : List Int) (w : List Bool) (t q : List Int) : Prop where
 lx : x.length = N
 lw : w.length = N
 lt : t.length = N
 nodup : q.Nodup
 rng : ∀ v ∈ q, 0 ≤ v ∧ v < N
 waits : ∀ v : Int, 0 ≤ v → v < N → (wv w v = true ↔ v ∈ q)
 t0 : ∀ v : Int, 0 ≤ v → v < N → 0 ≤ gv t v ∧ gv t v ≤ (N : Int) + 1
 bd : ∀ v : Int, 0 ≤ v → v < N → -2305843009213693952 ≤ gv x v ∧ gv x v ≤ 0
 rel : ∀ u : Int, 0 ≤ u → u < N → u ∉ q → ∀ v m, (u, v, m) ∈ L → gv x v ≤ gv x u + m
theorem aRn {r : Option ρ} {x : List Int} {w : List Bool} {t q : List Int} (hL : afN L N M) (hp : ¬ ∃ p, Pot L p) (k0 : (Val (.pair .bool (.pair (.slice tI) (.pair (.slice .bool) (.pair (.slice tI) (.slice tI)))))) → Option ρ)
 (hK : ∀ x w t q, k0 (false, x, w, t, q) = r) (h : Bad L N x w t q) :
 acm (fun (v64 : (Val (.pair (.slice tI) (.pair (.slice .bool) (.pair (.slice tI) (.slice tI)))))) kk69 => adx [] (ayE L) (N : Int) L v64.1 v64.2.1 v64.2.2.1 v64.2.2.2 (fun u65 u66 u67 u68 => kk69 (u65, u66, u67, u68)) k0) (x, w, t, q) = r := by
 refine afk (fun s : List Int × List Bool × List Int × List Int => Bad L N s.1 s.2.1 s.2.2.1 s.2.2.2) (fun s => aGJ N s.2.2.1) ?_ h
 rintro ⟨x, w, t, q⟩ h
 dsimp only at h ⊢
 have hN := hL.nodes
 cases q with
 | nil =>
   exfalso
   exact hp ⟨gv x, fun u v m hl => h.rel u (hL.inr _ hl).1.1 (hL.inr _ hl).1.2 (by simp) v m hl⟩
 | cons n rest =>
   have hnr := h.rng n (by simp)
   have hb := h.bd n hnr.1 hnr.2
   have ht := h.t0 n hnr.1 hnr.2
   have hrl : rest.length ≤ 1000000 := by
    have := aMl N (n :: rest) h.nodup h.rng
    simp only [List.length_cons] at this
    omega
   have hout := fun (kn : List Int → List Bool → List Int → List Int → Option ρ) => aMu (ρ := ρ) hL (least := ayE L) hnr h.lx h.lw h.lt hrl ⟨hb.1, by omega⟩ ⟨ht.1, by omega⟩ kn k0
   by_cases hlt : (N : Int) + 1 < gv t n + 1
   ·exact .inl fun kn => by rw [hout, if_pos hlt]; exact hK _ _ _ _
   ·have hw' : (w.set n.toNat false).length = N := by rw [List.length_set]; exact h.lw
    cases hr : akb n (ayE L) L x (w.set n.toNat false) rest with
    | mk b r' =>
    obtain ⟨x', w', q'⟩ := r'
    cases b with
    | false => exact .inl fun kn => by rw [hout, if_neg hlt, hr]; exact hK _ _ _ _
    | true =>
      have hnd := h.nodup
      rw [List.nodup_cons] at hnd
      have htl : n.toNat < t.length := by have := h.lt; omega
      have ha := ag5 hnr hL.inr hL.noloop h.lx hw' hnd.2 (fun v h0 h1 => by
       rw [aLY hnr.1 h0 (by have := h.lw; omega)]
       by_cases hv : v = n
       ·subst hv; simp [hnd.1]
       ·rw [if_neg hv, h.waits v h0 h1]
        simp [hv]) hr
      obtain ⟨l, hl, hlv⟩ := ha.new
      refine .inr ⟨(x', w', t.set n.toNat (gv t n + 1), q'), ⟨ha.lx, ha.lw, by rw [List.length_set]; exact h.lt, ha.nodup, fun v hv => ?_, ha.waits, fun v h0 h1 => ?_, fun v h0 h1 => ?_, fun u h0 h1 hu v m hlk => ?_⟩, aJk htl (by omega), fun kn => by rw [hout, if_neg hlt, hr]⟩
      ·dsimp only at hv
       rw [hl] at hv
       rcases List.mem_append.1 hv with hv | hv
       ·exact h.rng v (by simp [hv])
       ·exact (hlv v hv).1
      ·try dsimp only
       rw [apt hnr.1 h0 htl]
       have := h.t0 v h0 h1
       split <;> omega
      ·try dsimp only
       have h2 := h.bd v h0 h1
       rcases ha.chg v h0 h1 with g | ⟨_, g2, m, g3, g4, g5⟩
       ·rw [g]; exact h2
       ·have h3 := aFh (L := L) (fun l hl => (hL.most l hl).1) hL.m0
        have h4 : (L.length : Int) * M ≤ 400 * 4503599627370496 := Int.mul_le_mul (by have := hL.len; omega) hL.m1 hL.m0 (by omega)
        omega
      ·dsimp only at hu ⊢
       have hvr := (hL.inr _ hlk).2
       have heq : gv x' u = gv x u := by
        rcases ha.chg u h0 h1 with g | ⟨g, _⟩
        ·exact g
        ·exact (hu g).elim
       by_cases hun : u = n
       ·subst hun
        have h1 := ha.link v m hlk
        omega
       ·have hur : u ∉ n :: rest := by
         intro hc
         rcases List.mem_cons.1 hc with e | hc
         ·exact hun e
         ·exact hu (by rw [hl]; exact List.mem_append_left _ hc)
        have h2 := h.rel u h0 h1 hur v m hlk
        have := ha.le v hvr.1 hvr.2
        omega
end
def aOy (N : Nat) (v : Int) : Bool := decide (0 ≤ v) && decide (v < (N : Int))
def aPk (s : Int) (v : Int) : Bool := v == s
theorem aHy (N : Nat) : amz (aOy N) N = List.replicate N 0 := by
 refine aML (by simp [ac3]) fun v h0 h1 => ?_
 rw [ac3] at h1
 rw [afY _ h0 h1]
 have : aOy N v = true := by simp [aOy, h0, h1]
 rw [if_pos this]
 unfold gv
 rw [List.getElem?_replicate]
 split <;> rfl
def afZ (L : List Lk) (N : Nat) : List Int := ahh L N (amz (aOy N) N)
def adF (L : List Lk) (N : Nat) : Bool := decide (axR L (afZ L N) = afZ L N)
def alG (L : List Lk) (N : Nat) (s : Int) : List Int := ahh L N (amz (aPk s) N)
section
variable {L : List Lk} {N : Nat} {M : Int}
theorem aRH (hL : afN L N M) (hN : N ≤ 200) : N * M < afx := by
 have : (N : Int) * M ≤ 200 * 4503599627370496 := Int.mul_le_mul (by omega) hL.m1 hL.m0 (by omega)
 unfold afx
 omega
theorem ava {p : Int → Int} (hL : afN L N M) (hN : N ≤ 200) (hp : Pot L p) : aOC L (fun v => aOy N v = true) N (gv (afZ L N)) :=
 azl hp hL.inr (fun v h => by simpa [aOy] using h) (fun l hl => (hL.most l hl).2) hL.m0 (aRH hL hN) N (by omega)
theorem agi {p : Int → Int} (hL : afN L N M) (hN : N ≤ 200) (hp : Pot L p) {s : Int} (hs : 0 ≤ s ∧ s < N) : aOC L (fun v => aPk s v = true) N (gv (alG L N s)) :=
 azl hp hL.inr (fun v h => by simp [aPk] at h; subst h; exact hs) (fun l hl => (hL.most l hl).2) hL.m0 (aRH hL hN) N (by omega)
theorem aHT : ∀ {L : List Lk} {x : List Int}, (∀ u v m, (u, v, m) ∈ L → gv x u < afx → gv x v ≤ gv x u + m) → axR L x = x
 | [], x, _ => rfl
 | l :: t, x, h => by
   have h1 : ahO x l = x := by
    unfold ahO
    split
    ·rename_i hc
     have := h l.1 l.2.1 l.2.2 (by simp) hc.1
     omega
    ·rfl
   show axR t (ahO x l) = x
   rw [h1]
   exact aHT fun u v m hm => h u v m (by simp [hm])
theorem aeD (hL : afN L N M) (hN : N ≤ 200) : adF L N = true ↔ ∃ p, Pot L p := by
 unfold adF
 rw [decide_eq_true_eq]
 have hle : ∀ v : Int, 0 ≤ v → v < N → gv (afZ L N) v ≤ 0 := by
  intro v h0 h1
  have := asH hL.inr N (ac3 (aOy N) N) v h0
  rw [afY _ h0 h1, if_pos (by simp [aOy, h0, h1])] at this
  exact this
 constructor
 ·intro h
  refine ⟨gv (afZ L N), fun u v m hl => ?_⟩
  have hr := (hL.inr _ hl).1
  have := avi hL.inr (x := afZ L N) (by unfold afZ; rw [aen, ac3]) u v m hl (by have := hle u hr.1 hr.2; unfold afx; omega)
  rwa [h] at this
 ·rintro ⟨p, hp⟩
  have hd := ava hL hN hp
  exact aHT fun u v m hl hf => hd.pot hL.inr hl (by omega)
end
end Go.Proofs.ZzM
end
noncomputable section
namespace Go.Proofs.ZzM
open Go Go.Am
section
variable {ρ : Type} {L : List Lk} {N : Nat} {M : Int}
theorem auH (hN : N ≤ 1000) (x : Option ρ) : acX ((ile (0 : Int) (N : Int)) && (acP (Int.toNat (N : Int)))) x = x := by
 rw [Int.toNat_natCast, acq (by omega)]
 have : ((ile (0 : Int) (N : Int)) && true) = true := by simp [ile]
 rw [this, Am.iff_true]
theorem aKC (hL : afN L N M) (h1 : 1 ≤ N) (hN : N ≤ 200) (k0 : (Val (.pair .bool (.pair (.slice tI) (.pair (.slice .bool) (.pair (.slice tI) (.slice tI)))))) → Option ρ) {rT rF : Option ρ}
 (hT : adF L N = true → ∀ w t q, k0 (true, afZ L N, w, t, q) = rT) (hF : ∀ x w t q, k0 (false, x, w, t, q) = rF) :
 (acm (fun (v70 : (Val (.pair tI (.pair (.slice .bool) (.slice tI))))) kk74 => ad7 (N : Int) (List.replicate N (0 : Int)) v70.1 v70.2.1 v70.2.2 (fun u71 u72 u73 => kk74 (u71, u72, u73)) (fun z9 => acm (fun (v64 : (Val (.pair (.slice tI) (.pair (.slice .bool) (.pair (.slice tI) (.slice tI)))))) kk69 => adx [] (ayE L) (N : Int) L v64.1 v64.2.1 v64.2.2.1 v64.2.2.2 (fun u65 u66 u67 u68 => kk69 (u65, u66, u67, u68)) k0) ((List.replicate N (0 : Int)), z9.1, (List.replicate N (0 : Int)), z9.2))) ((0 : Int), (List.replicate N false), ([] : List Int))) = if adF L N then rT else rF := by
 refine aOS (by simp) (by omega) _ fun w q hw hq hr hwq hqs => ?_
 try dsimp only
 have hS : ∀ v, aOy N v = true → 0 ≤ v ∧ v < N := fun v h => by simpa [aOy] using h
 by_cases ho : adF L N = true
 ·rw [if_pos ho]
  obtain ⟨p, hp⟩ := (aeD hL hN).1 ho
  have hs := aDB hL h1 hS hw hq hr hwq (fun v a b => by rw [aHy]; exact hqs v a b)
  rw [aHy] at hs
  refine aHz hL (aRH hL hN) hp hS k0 (fun x w t q hx hd => ?_) hs
  have : x = afZ L N := by
   refine aML (by rw [hx]; unfold afZ; rw [aen, ac3]) fun v a b => ?_
   exact hd.uniq (ava hL hN hp) a (by omega)
  rw [this]; exact hT ho w t q
 ·rw [if_neg ho]
  refine aRn hL (fun hp => ho ((aeD hL hN).2 hp)) k0 hF ?_
  have hg : ∀ v, gv (List.replicate N (0 : Int)) v = 0 := by
   intro v
   unfold gv
   rw [List.getElem?_replicate]
   split <;> rfl
  refine ⟨by simp, hw, by simp, hq, hr, hwq, fun v a b => ?_, fun v a b => ?_, fun u a b hu v m hl => ?_⟩
  ·rw [hg]; omega
  ·rw [hg]; omega
  ·exact (hu ((hqs u a b).2 (by rw [hg]; unfold afx; omega))).elim
end
theorem shift_ok {ρ : Type} {x : List Int} (f : Int) (hx : x.length ≤ 1000) (hf : -2305843009213693952 ≤ f ∧ f ≤ 2305843009213693952) (hb : ∀ a ∈ x, -2305843009213693952 ≤ a ∧ a ≤ 2305843009213693952) (k0 : List Int → Option ρ) :
 acm (fun (v60 : (Val (.pair tI (.slice tI)))) kk63 => aga f (acD x) v60.1 v60.2 (fun u61 u62 => kk63 (u61, u62)) k0) ((0 : Int), x) = k0 (x.map fun a => a - f) := by
 refine adg x (fun i => (x.take i).map (fun a => a - f) ++ x.drop i) _ (by simp) (fun i a hi ha kn => ?_) (fun kn => ?_)
 ·try dsimp only
  unfold aga
  have hlen : ((x.take i).map (fun a => a - f) ++ x.drop i).length = x.length := by simp; omega
  have hget : ((x.take i).map (fun a => a - f) ++ x.drop i)[i]? = some a := by
   rw [List.getElem?_append_right (by simp; omega)]
   simp only [List.length_map, List.length_take, List.getElem?_drop]
   rw [← ha]; congr 1; omega
  have hi' : i < ((x.take i).map (fun a => a - f) ++ x.drop i).length := by omega
  have ha' := hb a (List.mem_of_getElem? ha)
  rw [acp hi, afX hi', aev hget, acu (by omega) (by omega), afX hi', aev hget, acl hi (by omega), Int.toNat_natCast, take_succ ha]
  congr 2
  rw [List.drop_eq_getElem_cons hi, List.map_append, List.append_assoc, List.set_append_right _ _ (by simp; omega)]
  have : i - (List.map (fun a => a - f) (List.take i x)).length = 0 := by simp; omega
  rw [this]
  have h1 : x[i] = a := by rw [List.getElem?_eq_getElem hi] at ha; simpa using ha
  simp [h1]
 ·try dsimp only
  unfold aga
  rw [acN]
  simp
section
variable {L : List Lk} {N : Nat} {M : Int}
theorem aRp (hL : afN L N M) (hN : N ≤ 200) (ho : adF L N = true) : ∀ a ∈ afZ L N, -2305843009213693952 ≤ a ∧ a ≤ 0 := by
 obtain ⟨p, hp⟩ := (aeD hL hN).1 ho
 have hd := ava hL hN hp
 intro a ha
 obtain ⟨i, hi, rfl⟩ := List.mem_iff_getElem.1 ha
 have hlen : (afZ L N).length = N := by unfold afZ; rw [aen, ac3]
 have h0 : gv (afZ L N) i = (afZ L N)[i] := by unfold gv; simp [hi]
 have hle := asH hL.inr N (ac3 (aOy N) N) (i : Int) (by omega)
 rw [afY _ (by omega) (by omega), if_pos (by simp [aOy]; omega)] at hle
 have hle' : gv (afZ L N) i ≤ 0 := hle
 obtain ⟨vs, hw⟩ := hd.att i (by omega) (by omega) (by unfold afx; omega)
 have h1 := hw.low' hp
 have h3 := aFh (L := L) (fun l hl => (hL.most l hl).1) hL.m0
 have h4 : (L.length : Int) * M ≤ 400 * 4503599627370496 := Int.mul_le_mul (by have := hL.len; omega) hL.m1 hL.m0 (by omega)
 omega
def solP (L : List Lk) (N : Nat) : List Int := (afZ L N).map fun a => a - gv (afZ L N) 0
theorem ars (hL : afN L N M) (h1 : 1 ≤ N) (hN : N ≤ 200) : ag8 ((N : Int), L) [] = some (if adF L N then (solP L N, true) else ([], false)) := by
 unfold ag8 aoZ
 try dsimp only
 rw [auH (by omega), auH (by omega), auH (by omega), Int.toNat_natCast]
 refine Eq.trans (aMG hL _) ?_
 refine Eq.trans (aKC hL h1 hN _ (rT := some (solP L N, true)) (rF := some ([], false)) (fun ho w t q => ?_) (fun x w t q => ?_)) ?_
 ·try dsimp only
  have hlen : (afZ L N).length = N := by unfold afZ; rw [aen, ac3]
  have hb := aRp hL hN ho
  have h0 : ilt (0 : Int) (adK (afZ L N)) = true := decide_eq_true (show (0 : Int) < ((afZ L N).length : Int) by omega)
  have hg : (afZ L N)[0]? = some (gv (afZ L N) 0) := aMK (v := 0) (show 0 < _ by omega)
  have hm := hb _ (List.mem_of_getElem? hg)
  rw [show (!true) = false from rfl, acO, adP h0, amE hg]
  exact shift_ok _ (by omega) ⟨hm.1, by omega⟩ (fun a ha => ⟨(hb a ha).1, by have := (hb a ha).2; omega⟩) _
 ·rfl
 ·cases adF L N <;> rfl
structure afu (L : List Lk) (N : Nat) : Prop where
 n1 : 1 ≤ N
 n60 : N ≤ 60
 len : L.length ≤ 300
 inr : InR L N
 noloop : ∀ l ∈ L, l.1 ≠ l.2.1
 most : ∀ l ∈ L, -4503599627370496 ≤ l.2.2 ∧ l.2.2 ≤ 4503599627370496
theorem afu.links (h : afu L N) : afN L N 4503599627370496 :=
 ⟨h.inr, h.noloop, h.most, by have := h.len; omega, by have := h.n60; omega, by omega, by omega⟩
theorem afu.sub {L' : List Lk} (h : afu L N) (hs : ∀ l ∈ L', l ∈ L) (hl : L'.length ≤ L.length) : afu L' N :=
 ⟨h.n1, h.n60, by have := h.len; omega, fun l hm => h.inr l (hs l hm), fun l hm => h.noloop l (hs l hm), fun l hm => h.most l (hs l hm)⟩
theorem azx (n : Int) (L : List Lk) (v : Int) : ak3 (n, L) v = some (decide (0 ≤ v) && decide (v < n)) := by
 unfold ak3 aFU ige
 by_cases h : 0 ≤ v
 ·have : decide (v ≥ 0) = true := by simpa using h
  rw [acB this]; simp [h]
 ·have : decide (v ≥ 0) = false := by simpa using h
  rw [aco this]; simp [h]
theorem ahI (h : afu L N) : aiT ((N : Int), L) = some (0, -1) := by
 have h1 := h.n1
 have h2 := h.n60
 have h3 := h.len
 unfold aiT aAk
 try dsimp only
 rw [aco (by simp [ilt]; omega), aco (by simp [igt]; omega), aco (by rw [acQ]; simp [igt]; omega)]
 refine Eq.trans (agd L (fun _ => false) (fun i => some (1, i)) (some (0, -1)) (fun i l hi hl kn => ?_) (fun kn => ?_)) ?_
 ·try dsimp only
  unfold akO
  have hm := List.mem_of_getElem? hl
  have a := h.inr l hm
  have b := h.noloop l hm
  have c := h.most l hm
  have e1 : (decide (0 ≤ l.1) && decide (l.1 < (N : Int))) = true := by simp [a.1.1, a.1.2]
  have e2 : (decide (0 ≤ l.2.1) && decide (l.2.1 < (N : Int))) = true := by simp [a.2.1, a.2.2]
  rw [acp hi, acj hl, azx, ab4, e1, azx, ab4, e2]
  simp only [Bool.not_true, acO, Bool.false_eq_true, if_false]
  rw [aco (by simp [ieq, b]), aco (by simp [ilt]; omega), aco (by simp [igt]; omega), acl hi (by omega)]
 ·try dsimp only
  unfold akO
  rw [acN]
 ·rw [List.findIdx?_eq_none_iff.2 (by simp)]
theorem apr {ρ : Type} {x : List Int} {v : Int} (h0 : 0 ≤ v) (h : v.toNat < x.length) (f : Int → Option ρ) : adU x v f = f (gv x v) := by
 obtain ⟨i, rfl⟩ := Int.eq_ofNat_of_zero_le h0
 exact acj (aMK h) f
end
end Go.Proofs.ZzM
end
noncomputable section
namespace Go.Proofs.ZzM
open Go Go.Am
section
variable {b : acv}
theorem asu (b : acv) (g : acS) : (acy b g).Pairwise (· < ·) := aKu _
theorem aJK (h : ado b) {g : acS} (hg : g ∈ b.2.1) : ∃ t, acy b g = g.2.1 :: t := by
 have h1 := asu b g
 have h2 := aiv (b := b) g
 have h3 : ∀ d ∈ acy b g, g.2.1 ≤ d := fun d hd => (h.day hg hd).1
 cases hd : acy b g with
 | nil => rw [hd] at h2; cases h2
 | cons a t =>
   rw [hd] at h1 h2 h3
   rw [List.pairwise_cons] at h1
   rcases List.mem_cons.1 h2 with e | e
   ·exact ⟨t, by rw [e]⟩
   ·have := h1.1 _ e
    have := h3 a (by simp)
    omega
def off (b : acv) (i : Nat) : Nat := ((b.2.1.take i).flatMap fun g => (acy b g).map fun d => ((g.1, d) : Int × Int)).length
theorem arD {i : Nat} {g : acS} (hg : b.2.1[i]? = some g) : acg b = ((b.2.1.take i).flatMap fun g => (acy b g).map fun d => ((g.1, d) : Int × Int)) ++ (((acy b g).map fun d => ((g.1, d) : Int × Int)) ++ ((b.2.1.drop (i + 1)).flatMap fun g => (acy b g).map fun d => ((g.1, d) : Int × Int))) := by
 obtain ⟨hi, rfl⟩ := List.getElem?_eq_some_iff.1 hg
 have h1 : b.2.1 = b.2.1.take i ++ (b.2.1[i] :: b.2.1.drop (i + 1)) := by
  rw [← List.drop_eq_getElem_cons hi, List.take_append_drop]
 unfold acg
 conv => lhs; rw [h1]
 rw [List.flatMap_append, List.flatMap_cons]
theorem aFf (h : ado b) {i : Nat} {g : acS} (hg : b.2.1[i]? = some g) {k : Nat} {d : Int} (hk : (acy b g)[k]? = some d) : agw (acg b) g.1 d = some (off b i + k) := by
 obtain ⟨hi, hgi⟩ := List.getElem?_eq_some_iff.1 hg
 obtain ⟨hkl, hkd⟩ := List.getElem?_eq_some_iff.1 hk
 unfold agw
 rw [arD hg, List.findIdx?_append, List.findIdx?_append]
 have h1 : List.findIdx? (fun n : Int × Int => decide (g.1 = n.1) && decide (d = n.2)) ((b.2.1.take i).flatMap fun g => (acy b g).map fun d => ((g.1, d) : Int × Int)) = none := by
  rw [List.findIdx?_eq_none_iff]
  intro x hx
  obtain ⟨g', hg', hx⟩ := List.mem_flatMap.1 hx
  obtain ⟨d', _, rfl⟩ := List.mem_map.1 hx
  obtain ⟨j, hj, rfl⟩ := List.mem_iff_getElem.1 hg'
  rw [List.length_take] at hj
  rw [List.getElem_take]
  have := (List.pairwise_iff_getElem.1 h.ids) j i (by omega) hi (by omega)
  rw [hgi] at this
  simp only [Bool.and_eq_false_iff, decide_eq_false_iff_not]
  exact .inl (by omega)
 have h2 : List.findIdx? (fun n : Int × Int => decide (g.1 = n.1) && decide (d = n.2)) ((acy b g).map fun d => ((g.1, d) : Int × Int)) = some k := by
  rw [List.findIdx?_eq_some_iff_getElem]
  refine ⟨by simpa using hkl, by simp [hkd], fun j hj => ?_⟩
  have := (List.pairwise_iff_getElem.1 (asu b g)) j k (by omega) hkl hj
  rw [hkd] at this
  simp only [List.getElem_map, Bool.and_eq_true, decide_eq_true_eq, not_and]
  intro _
  omega
 rw [h1, h2]
 simp only [Option.map_some, Option.some_or, Option.none_or]
 unfold off
 congr 1
 omega
theorem aRF {i : Nat} {g : acS} (hg : b.2.1[i]? = some g) {k : Nat} {d : Int} (hk : (acy b g)[k]? = some d) : (acg b)[off b i + k]? = some (g.1, d) := by
 obtain ⟨hkl, hkd⟩ := List.getElem?_eq_some_iff.1 hk
 rw [arD hg, List.getElem?_append_right (by unfold off; omega), List.getElem?_append_left (by unfold off; simp; omega)]
 unfold off
 simp [hk]
theorem aSv (h : ado b) {i : Nat} {g : acS} (hg : b.2.1[i]? = some g) : atP (acg b) [g.1] g.2.1 = (off b i : Int) + 1 := by
 obtain ⟨t, ht⟩ := aJK h (List.mem_of_getElem? hg)
 have := aFf h hg (k := 0) (d := g.2.1) (by rw [ht]; rfl)
 unfold atP
 simp only [this]
 rfl
theorem aTl (h : ado b) {i : Nat} {g : acS} (hg : b.2.1[i]? = some g) : off b i + (acy b g).length ≤ (acg b).length := by
 rw [arD hg]
 unfold off
 simp only [List.length_append, List.length_map]
 omega
theorem aRC {i : Nat} {g : acS} (hg : b.2.1[i]? = some g) : off b (i + 1) = off b i + (acy b g).length := by
 unfold off
 rw [take_succ hg, List.flatMap_append]
 simp
theorem aIb (h : ado b) {c : Cmp} (hc : c ∈ b.2.2.2.2.1) {x : Int} (hx : (x ∈ c.2.2.1 ∧ x ∉ c.2.2.2.1) ∨ (x ∈ c.2.2.2.1 ∧ x ∉ c.2.2.1)) : ∃ j, agw (acg b) x c.2.1 = some j := by
 have hm : x ∈ c.2.2.1 ++ c.2.2.2.1 := by rw [List.mem_append]; exact hx.imp (·.1) (·.1)
 obtain ⟨⟨g, hg, _⟩, _⟩ := h.pile hc hm
 obtain ⟨hgm, hgx⟩ := ak2 hg
 obtain ⟨i, hi, hgi⟩ := List.mem_iff_getElem.1 hgm
 have hd : c.2.1 ∈ acy b g := aiW.2 (.inr (.inl ⟨c, hc, by
  rw [hgx]
  rcases hx with ⟨h1, h2⟩ | ⟨h1, h2⟩
  ·have e1 : c.2.2.1.contains x = true := by simpa using h1
   have e2 : c.2.2.2.1.contains x = false := by simpa using h2
   rw [e1, e2]; simp
  ·have e1 : c.2.2.2.1.contains x = true := by simpa using h1
   have e2 : c.2.2.1.contains x = false := by simpa using h2
   rw [e1, e2]; simp, rfl⟩))
 obtain ⟨k, hk, hkd⟩ := List.mem_iff_getElem.1 hd
 have := aFf h (g := g) (i := i) (by rw [List.getElem?_eq_getElem hi, hgi]) (k := k) (d := c.2.1) (by rw [List.getElem?_eq_getElem hk, hkd])
 rw [hgx] at this
 exact ⟨_, this⟩
inductive aOt (b : acv) (p : List Int) (d : Int) (n : Int) : Prop
 | none : p = [] → n = 0 → aOt b p d n
 | one (x : Int) (j : Nat) : p = [x] → agw (acg b) x d = some j → n = (j : Int) + 1 → aOt b p d n
theorem aGX (h : ado b) {c : Cmp} (hc : c ∈ b.2.2.2.2.1) : aOt b (adb c.2.2.1 c.2.2.2.1) c.2.1 (cx b c) := by
 have hl := (h.lefts hc).1
 cases hp : adb c.2.2.1 c.2.2.2.1 with
 | nil => exact .none rfl (by unfold cx atP; rw [hp])
 | cons x t =>
   rw [hp] at hl
   have : t = [] := by cases t with | nil => rfl | cons => simp at hl
   subst this
   obtain ⟨j, hj⟩ := aIb h hc (x := x) (.inl (aiO.1 (by rw [hp]; simp)))
   exact .one x j rfl hj (by unfold cx atP; rw [hp]; simp only [hj])
theorem aBA (h : ado b) {c : Cmp} (hc : c ∈ b.2.2.2.2.1) : aOt b (adb c.2.2.2.1 c.2.2.1) c.2.1 (cy b c) := by
 have hl := (h.lefts hc).2.1
 cases hp : adb c.2.2.2.1 c.2.2.1 with
 | nil => exact .none rfl (by unfold cy atP; rw [hp])
 | cons x t =>
   rw [hp] at hl
   have : t = [] := by cases t with | nil => rfl | cons => simp at hl
   subst this
   obtain ⟨j, hj⟩ := aIb h hc (x := x) (.inr (aiO.1 (by rw [hp]; simp)))
   exact .one x j rfl hj (by unfold cy atP; rw [hp]; simp only [hj])
theorem aOt.rng {p : List Int} {d n : Int} (h : aOt b p d n) : 0 ≤ n ∧ n < ((acg b).length + 1 : Nat) := by
 rcases h with ⟨_, h⟩ | ⟨x, j, _, h1, h2⟩
 ·omega
 ·have := (ag0 h1).1
  omega
theorem aM2 (h : ado b) {c : Cmp} (hc : c ∈ b.2.2.2.2.1) : cx b c ≠ cy b c := by
 have hl := (h.lefts hc).2.2
 rcases aGX h hc with ⟨h1, h2⟩ | ⟨x, j, h1, h2, h3⟩
 ·rcases aBA h hc with ⟨g1, g2⟩ | ⟨y, k, g1, g2, g3⟩
  ·rw [h1, g1] at hl; simp at hl
  ·omega
 ·rcases aBA h hc with ⟨g1, g2⟩ | ⟨y, k, g1, g2, g3⟩
  ·omega
  ·intro e
   have : j = k := by omega
   subst this
   have e1 := (ag0 h2).2
   have e2 := (ag0 g2).2
   rw [e1] at e2
   simp only [Option.some.injEq, Prod.mk.injEq] at e2
   have m1 : x ∈ adb c.2.2.1 c.2.2.2.1 := by rw [h1]; simp
   have m2 : y ∈ adb c.2.2.2.1 c.2.2.1 := by rw [g1]; simp
   rw [e2.1] at m1
   exact (aiO.1 m1).2 (aiO.1 m2).1
theorem aJj (h : ado b) : (acs b).length = 2 * (acg b).length + 2 * b.2.2.2.2.1.length := by
 have h1 : ∀ l : List acS, (∀ g ∈ l, g ∈ b.2.1) → (l.flatMap (ac6 b)).length = 2 * (l.flatMap fun g => (acy b g).map fun d => ((g.1, d) : Int × Int)).length := by
  intro l
  induction l with
  | nil => intro _; rfl
  | cons g t ih =>
    intro hm
    have := ih fun g hg => hm g (by simp [hg])
    have hp := List.length_pos_of_mem (aiv (b := b) g)
    simp only [List.flatMap_cons, List.length_append, List.length_map, this]
    unfold ac6
    rw [List.length_append, agK _ _ (fun _ => rfl)]
    simp only [List.length_cons, List.length_nil]
    omega
 have h2 : ∀ l : List Cmp, (l.flatMap (acU b)).length = 2 * l.length := by
  intro l
  induction l with
  | nil => rfl
  | cons c t ih =>
    simp only [List.flatMap_cons, List.length_append, ih, acU, List.length_cons, List.length_nil]
    omega
 unfold acs
 rw [List.length_append, h1 _ fun _ h => h, h2]
 rfl
theorem adG (h : ado b) {i : Nat} {g : acS} (hg : b.2.1[i]? = some g) {l : Lk} : l ∈ ac6 b g ↔
 l = (0, (off b i : Int) + 1, g.2.2.1 + g.2.2.2.1.2) ∨ l = ((off b i : Int) + 1, 0, -(g.2.2.1 + g.2.2.2.1.1)) ∨
 ∃ (k : Nat) (d e : Int), (acy b g)[k]? = some d ∧ (acy b g)[k + 1]? = some e ∧ (l = ((off b i : Int) + k + 1, (off b i : Int) + k + 2, 0) ∨ l = ((off b i : Int) + k + 2, (off b i : Int) + k + 1, agV b g d e)) := by
 unfold ac6
 rw [aSv h hg]
 simp only [List.mem_append, List.mem_cons, List.not_mem_nil, or_false, List.mem_flatMap, List.mem_range]
 constructor
 ·rintro ((h1 | h1) | ⟨k, hk, h1⟩)
  ·exact .inl h1
  ·exact .inr (.inl h1)
  ·refine .inr (.inr ⟨k, (acy b g)[k], (acy b g)[k + 1], List.getElem?_eq_getElem (by omega), List.getElem?_eq_getElem (by omega), ?_⟩)
   rw [List.getElem?_eq_getElem (show k < (acy b g).length by omega), List.getElem?_eq_getElem (show k + 1 < (acy b g).length by omega)] at h1
   simp only [Option.getD_some] at h1
   have e1 : (off b i : Int) + 1 + k = (off b i : Int) + k + 1 := by omega
   have e2 : (off b i : Int) + k + 1 + 1 = (off b i : Int) + k + 2 := by omega
   rw [e1, e2] at h1
   exact h1
 ·rintro (h1 | h1 | ⟨k, d, e, hd, he, h1⟩)
  ·exact .inl (.inl h1)
  ·exact .inl (.inr h1)
  ·obtain ⟨h2, rfl⟩ := List.getElem?_eq_some_iff.1 hd
   obtain ⟨h3, rfl⟩ := List.getElem?_eq_some_iff.1 he
   refine .inr ⟨k, by omega, ?_⟩
   rw [hd, he]
   simp only [Option.getD_some]
   have e1 : (off b i : Int) + 1 + k = (off b i : Int) + k + 1 := by omega
   have e2 : (off b i : Int) + k + 1 + 1 = (off b i : Int) + k + 2 := by omega
   rw [e1, e2]
   exact h1
theorem ajJ {l : Lk} : l ∈ acs b ↔ (∃ (i : Nat) (g : acS), b.2.1[i]? = some g ∧ l ∈ ac6 b g) ∨ ∃ c ∈ b.2.2.2.2.1, l = (cy b c, cx b c, (ad3 b c).2) ∨ l = (cx b c, cy b c, -(ad3 b c).1) := by
 unfold acs
 simp only [List.mem_append, List.mem_flatMap, acU, List.mem_cons, List.not_mem_nil, or_false]
 constructor
 ·rintro (⟨g, hg, h⟩ | h)
  ·obtain ⟨i, hi, rfl⟩ := List.mem_iff_getElem.1 hg
   exact .inl ⟨i, _, List.getElem?_eq_getElem hi, h⟩
  ·exact .inr h
 ·rintro (⟨i, g, hg, h⟩ | h)
  ·exact .inl ⟨g, List.mem_of_getElem? hg, h⟩
  ·exact .inr h
theorem ado.sys (h : ado b) : afu (acs b) ((acg b).length + 1) := by
 have hN := h.nodes
 have hL := h.links
 have key : ∀ l ∈ acs b, ((0 ≤ l.1 ∧ l.1 < ((acg b).length + 1 : Nat)) ∧ (0 ≤ l.2.1 ∧ l.2.1 < ((acg b).length + 1 : Nat))) ∧ l.1 ≠ l.2.1 ∧ (-4503599627370496 ≤ l.2.2 ∧ l.2.2 ≤ 4503599627370496) := by
  intro l hl
  rcases ajJ.1 hl with ⟨i, g, hg, hl⟩ | ⟨c, hc, hl⟩
  ·have hgm := List.mem_of_getElem? hg
   have hr := h.gaugeR hgm
   have ho := aTl h hg
   have hp := List.length_pos_of_mem (aiv (b := b) g)
   have r1 := hr.2.2.2.2.2.1
   have r2 := hr.2.2.2.2.2.2.1
   rcases (adG h hg).1 hl with rfl | rfl | ⟨k, d, e, hd, he, h1⟩
   ·dsimp only; omega
   ·dsimp only; omega
   ·obtain ⟨h2, _⟩ := List.getElem?_eq_some_iff.1 he
    have d1 := h.day hgm (List.mem_of_getElem? hd)
    have lb := anm h hgm (t := e) d1.2.1
    rcases h1 with rfl | rfl
    ·dsimp only; omega
    ·dsimp only; omega
  ·have a := (aGX h hc).rng
   have b' := (aBA h hc).rng
   have ne := aM2 h hc
   have sb := azc h hc
   rcases hl with rfl | rfl
   ·dsimp only; omega
   ·dsimp only; omega
 exact ⟨by omega, by omega, by rw [aJj h]; omega, fun l hl => (key l hl).1, fun l hl => (key l hl).2.1, fun l hl => (key l hl).2.2⟩
end
end Go.Proofs.ZzM
end
noncomputable section
namespace Go.Proofs.ZzM
open Go Go.Am
theorem aQP {ρ : Type} : @am3 ρ = @afr ρ := rfl
theorem aQO {ρ : Type} : @am2 ρ = @ad7 ρ := rfl
theorem aQN {ρ : Type} : @am1 ρ = @adx ρ := rfl
theorem aJt {ρ : Type} {N : Nat} (hN : N ≤ 1000) (x : Option ρ) : acX ((ile (0 : Int) (N : Int)) && (acP N)) x = x := by
 have := auH hN x
 rwa [Int.toNat_natCast] at this
section
variable {L : List Lk} {N : Nat} {M : Int}
theorem aOR {s : Int} (hs : 0 ≤ s ∧ s < N) : (List.replicate N afx).set s.toNat 0 = amz (aPk s) N := by
 refine aML (by simp [ac3]) fun v h0 h1 => ?_
 have hv : v < N := by simpa using h1
 rw [afY _ h0 hv, apt hs.1 h0 (by simp; omega)]
 unfold aPk
 by_cases h : v = s
 ·simp [h]
 ·simp only [h, if_false, beq_iff_eq]
  unfold gv
  rw [List.getElem?_replicate]
  have : v.toNat < N := by omega
  simp [this]
theorem aQM (hL : afN L N M) (h1 : 1 ≤ N) (hN : N ≤ 200) (ho : adF L N = true) {s : Int} (hs : 0 ≤ s ∧ s < N) : aqc ((N : Int), L) [] s = some (alG L N s) := by
 obtain ⟨p, hp⟩ := (aeD hL hN).1 ho
 unfold aqc avV
 rw [aQP, aQO, aQN]
 dsimp only
 rw [auH (by omega), Int.toNat_natCast]
 refine adg (List.replicate N (0 : Int)) (fun i => List.replicate i afx ++ List.replicate (N - i) 0) _ (by simp) (fun i a hi ha kn => ?_) (fun kn => ?_)
 ·dsimp only
  unfold ajr
  have hiN : i < N := by simpa using hi
  have hl : i < (List.replicate i afx ++ List.replicate (N - i) (0 : Int)).length := by simp; omega
  rw [acp hi, afX hl, aev (List.getElem?_eq_getElem hl), acl hiN (by omega), Int.toNat_natCast]
  congr 2
  rw [List.set_append_right _ _ (by simp)]
  have : N - i = (N - (i + 1)) + 1 := by omega
  rw [this, List.length_replicate, Nat.sub_self, List.replicate_succ, List.set_cons_zero, List.replicate_succ']
  simp
 ·try dsimp only
  unfold ajr
  rw [acN]
  dsimp only
  have e0 : List.replicate (List.replicate N (0 : Int)).length afx ++ List.replicate (N - (List.replicate N (0 : Int)).length) 0 = List.replicate N afx := by simp
  rw [e0]
  have hlen : s.toNat < (List.replicate N afx).length := by simp; omega
  rw [show adK (List.replicate N afx) = ((N : Nat) : Int) by simp [adK], age hs.1 hs.2, agN hlen, aJt (by omega), aJt (by omega), aOR hs]
  refine Eq.trans (aMG hL _) ?_
  have hS : ∀ v, aPk s v = true → 0 ≤ v ∧ v < N := fun v h => by simp [aPk] at h; subst h; exact hs
  refine aOS (ac3 _ _) (by omega) _ fun w q hw hq hr hwq hqs => ?_
  have hs0 := aDB hL h1 hS hw hq hr hwq hqs
  refine aHz hL (aRH hL hN) hp hS _ (fun x w t q hx hd => ?_) hs0
  have : x = alG L N s := by
   refine aML (by rw [hx]; unfold alG; rw [aen, ac3]) fun v a b => ?_
   exact hd.uniq (agi hL hN hp hs) a (by omega)
  dsimp only
  rw [this]
def afv (L : List Lk) (N : Nat) (s t : Int) : Int × Int :=
 if !adF L N then (0, 9) else if gv (alG L N s) t = afx then (0, 5) else (gv (alG L N s) t, 0)
theorem aSw (h : afu L N) {ns : List Int} (hn : ∀ n ∈ ns, 0 ≤ n ∧ n < N) (hl : ns.length ≤ 1000) : auT ((N : Int), L) ns = some (if adF L N then 0 else 9) := by
 have h2 := h.n60
 unfold auT aAc
 rw [ahI h, ab4]
 dsimp only
 rw [aco (by rfl)]
 refine Eq.trans (agd ns (fun _ => false) (fun _ => some 1) (some (if adF L N then 0 else 9)) (fun i n hi hm kn => ?_) (fun kn => ?_)) ?_
 ·try dsimp only
  unfold akM
  have a := hn n (List.mem_of_getElem? hm)
  have e : (decide (0 ≤ n) && decide (n < (N : Int))) = true := by simp [a.1, a.2]
  rw [acp hi, acj hm, azx, ab4, e, acl hi (by omega)]
  simp
 ·try dsimp only
  unfold akM
  rw [acN, ars h.links h.n1 (by omega), ab4]
  cases adF L N <;> rfl
 ·rw [List.findIdx?_eq_none_iff.2 (by simp)]
theorem ayX (h : afu L N) {s t : Int} (hs : 0 ≤ s ∧ s < N) (ht : 0 ≤ t ∧ t < N) : akh ((N : Int), L) s t = some (afv L N s t) := by
 have h2 := h.n60
 unfold akh aAq afv
 rw [aSw h (fun n hn => by simp at hn; rcases hn with rfl | rfl <;> assumption) (by simp), ab4]
 by_cases ho : adF L N = true
 ·rw [if_pos ho, aco (by rfl), aQM h.links h.n1 (by omega) ho hs, ab4, apr ht.1 (by unfold alG; rw [aen, ac3]; omega), adX, if_neg (show ¬ (!adF L N) = true by simp [ho])]
  by_cases hf : gv (alG L N s) t = afx
  ·rw [if_pos (by simpa [ieq] using hf), if_pos hf]
  ·rw [if_neg (by simpa [ieq] using hf), if_neg hf]
 ·rw [if_neg ho, acB (by rfl), if_pos (show (!adF L N) = true by simpa using ho)]
end
end Go.Proofs.ZzM
end
noncomputable section
namespace Go.Proofs.ZzM
open Go Go.Am
def acn (b : acv) (c : Cmp) : acv := (b.1, b.2.1, b.2.2.1, b.2.2.2.1, b.2.2.2.2.1 ++ [c], b.2.2.2.2.2)
def af7 : acv := ((0, 0), [], [], [], [], [])
def aoi (b : acv) (c : Cmp) : acv × Int := if acz b ≠ 0 then (af7, acz b) else if acz (acn b c) ≠ 0 then (af7, acz (acn b c)) else (acn b c, 0)
theorem aPx {b : acv} (h : ado b) {c : Cmp} (hA : c.2.2.1.length ≤ 1000) (hB : c.2.2.2.1.length ≤ 1000) : ahG (acn b c) := by
 have hs := h.size
 have := h.nC
 refine ⟨hs.gauges, hs.uses, hs.loans, by simp [acn]; omega, hs.looks, fun d hd => ?_⟩
 rcases List.mem_append.1 (show d ∈ b.2.2.2.2.1 ++ [c] from hd) with hd | hd
 ·exact hs.piles d hd
 ·simp at hd; subst hd; exact ⟨hA, hB⟩
theorem aLR {b : acv} (hs : ahG b) (hr : ∀ g ∈ b.2.1, I64 g.2.2.2.2.1.1) {c : Cmp} (hA : c.2.2.1.length ≤ 1000) (hB : c.2.2.2.1.length ≤ 1000) : ahD b c = some (aoi b c) := by
 unfold ahD aGA aoi
 have h1 := hs.gauges; have h2 := hs.uses; have h3 := hs.loans; have h4 := hs.compares; have h5 := hs.looks
 rw [acq (by omega), Am.iff_true, acq (by omega), Am.iff_true, af5 hs hr, ab4]
 by_cases hc : acz b = 0
 ·have h := (acr b).1 hc
  rw [aco (by simp [ine, hc]), acq (by omega), Am.iff_true, acq (by omega), Am.iff_true, acq (by omega), Am.iff_true, acq (by omega), Am.iff_true, acq (by omega), Am.iff_true, if_neg (show ¬ (acz b ≠ 0) from fun h => h hc)]
  refine adg b.2.2.2.2.1 (fun _ => b.2.2.2.2.1) _ rfl (fun i d hi hd kn => ?_) (fun kn => ?_)
  ·dsimp only
   unfold ank
   obtain ⟨p1, p2⟩ := hs.piles d (List.mem_of_getElem? hd)
   have e1 : b.2.2.2.2.1.set i d = b.2.2.2.2.1 := by
    obtain ⟨h, rfl⟩ := List.getElem?_eq_some_iff.1 hd
    exact List.set_getElem_self h
   rw [acp hi, afX hi, aev hd, acq (by omega), Am.iff_true, acq (by omega), Am.iff_true, afX hi, aev hd, Int.toNat_natCast]
   rw [show (d.1, d.2.1, d.2.2.1, d.2.2.2) = d from rfl, e1, afX hi, amE hd, acl hi (by omega)]
   rw [show (d.1, d.2.1, d.2.2.1, d.2.2.2.1, d.2.2.2.2) = d from rfl, e1]
  ·try dsimp only
   unfold ank
   rw [acN]
   dsimp only
   rw [acq (by simp only [List.length_singleton]; omega), Am.iff_true]
   rw [show acV (b.1, b.2.1, b.2.2.1, b.2.2.2.1, b.2.2.2.2.1 ++ [c], b.2.2.2.2.2) = acV (acn b c) from rfl, af5 (aPx h hA hB) hr, ab4]
   by_cases hc2 : acz (acn b c) = 0
   ·rw [aco (by simp [ine, hc2]), if_neg (show ¬ (acz (acn b c) ≠ 0) from fun h => h hc2)]
    rfl
   ·rw [acB (by simp [ine, hc2]), if_pos hc2]
    rfl
 ·rw [acB (by simp [ine, hc]), if_pos hc]
  rfl
def ab7 (c : Cmp) : Cmp := (c.1, c.2.1, c.2.2.1, c.2.2.2.1, 0, c.2.2.2.2.2)
def awe (b : acv) (c : Cmp) : Int := aBI (adV b c).1 + (ag6 b c).1 - c.2.2.2.2.2.1
def aid (b : acv) (c : Cmp) : Int := (adV b c).2.1 / (adV b c).2.2 + (ag6 b c).2 + c.2.2.2.2.2.1
def ay9 (b : acv) (c : Cmp) (s : Int × Int) : (Int × Int) × Int := if aid b c < awe b c then ((0, 0), 5) else ((s.1 + awe b c, s.2 + aid b c), 0)
structure aSB (b : acv) (c : Cmp) : Prop where
 nums : aIa c = true
 r1 : amw (axP (ai2 b) (adb c.2.2.1 c.2.2.2.1)) 1000 100
 r2 : amw (axP (ai2 b) (adb c.2.2.2.1 c.2.2.1)) 1000 100
theorem ado.cmp {b : acv} (h : ado b) {c : Cmp} (hc : c ∈ b.2.2.2.2.1) : aSB b c := ⟨h.nums hc, (h.rates hc).1, (h.rates hc).2⟩
theorem awP {b : acv} (hf : 0 ≤ b.1.1 ∧ b.1.1 ≤ b.1.2 ∧ b.1.2 ≤ 1000000) {c : Cmp} (h : aSB b c) : amw (adV b c).1 2000000000 10000 ∧ amw (adV b c).2 2000000000 10000 ∧ (-3000000000 ≤ aBI (adV b c).1 + (ag6 b c).1 ∧ aBI (adV b c).1 + (ag6 b c).1 ≤ 3000000000) ∧
 (-3000000000 ≤ (adV b c).2.1 / (adV b c).2.2 + (ag6 b c).2 ∧ (adV b c).2.1 / (adV b c).2.2 + (ag6 b c).2 ≤ 3000000000) ∧ (0 ≤ c.2.2.2.2.2.1 ∧ c.2.2.2.2.2.1 ≤ 1073741824) := by
 have hn := (ahi c).1 h.nums
 have ha := aeZ hn.2.2.2.2.2.1
 have hb := aeZ hn.2.2.2.2.2.2
 obtain ⟨g1, g2⟩ := aFc (aER h.r1 h.r2) hn.2.2.2.2.1
 have fb := asr (b := b) (c := c) (by omega) (by omega) (by omega) (by omega) (by omega) (by omega)
 have q1 : amw (adV b c).1 2000000000 10000 := g1
 have q2 : amw (adV b c).2 2000000000 10000 := g2
 have c1 := awC q1
 have c2 := aso q2
 exact ⟨q1, q2, by omega, by omega, hn.2.2.2.1⟩
theorem aRr {b : acv} (hs : ahG b) (hf : 0 ≤ b.1.1 ∧ b.1.1 ≤ b.1.2 ∧ b.1.2 ≤ 1000000) {c : Cmp} (h : aSB b c) {s : Int × Int} (h1 : -2305843009213693952 ≤ s.1 ∧ s.1 ≤ 2305843009213693952) (h2 : -2305843009213693952 ≤ s.2 ∧ s.2 ≤ 2305843009213693952) : amr b c s = some (ay9 b c s) := by
 have hn := (ahi c).1 h.nums
 have ha := aeZ hn.2.2.2.2.2.1
 have hb := aeZ hn.2.2.2.2.2.2
 obtain ⟨q1, q2, b1, b2, b3⟩ := awP hf h
 unfold amr aAJ ay9 awe aid
 rw [aJy hs (by omega) (by omega) h.r1 h.r2 hn.2.2.2.2.1, ab4, aMT (by omega) (by omega) (by omega) (by omega) (by omega) (by omega), ab4, aQ4 q1.rat, ab4, aNm q2.rat, ab4]
 dsimp only
 rw [acu (by omega) (by omega), acu (by omega) (by omega), acu (by omega) (by omega), acu (by omega) (by omega), adX]
 by_cases hlt : (adV b c).2.1 / (adV b c).2.2 + (ag6 b c).2 + c.2.2.2.2.2.1 < aBI (adV b c).1 + (ag6 b c).1 - c.2.2.2.2.2.1
 ·rw [if_pos (by simpa [igt] using hlt), if_pos hlt]
 ·rw [if_neg (by simpa [igt] using hlt), if_neg hlt, acu (by omega) (by omega), acu (by omega) (by omega)]
def acF (b : acv) : List Lk := (acs b).take ((acs b).length - 2)
def acw (b : acv) (c : Cmp) : (Int × Int) × Int :=
 if (aoi b (ab7 c)).2 ≠ 0 then ((0, 0), (aoi b (ab7 c)).2) else
 if (afv (acF (acn b (ab7 c))) ((acg (acn b (ab7 c))).length + 1) (cy (acn b (ab7 c)) (ab7 c)) (cx (acn b (ab7 c)) (ab7 c))).2 ≠ 0 then
  ((0, 0), (afv (acF (acn b (ab7 c))) ((acg (acn b (ab7 c))).length + 1) (cy (acn b (ab7 c)) (ab7 c)) (cx (acn b (ab7 c)) (ab7 c))).2) else
 if (afv (acF (acn b (ab7 c))) ((acg (acn b (ab7 c))).length + 1) (cx (acn b (ab7 c)) (ab7 c)) (cy (acn b (ab7 c)) (ab7 c))).2 ≠ 0 then
  ((0, 0), (afv (acF (acn b (ab7 c))) ((acg (acn b (ab7 c))).length + 1) (cx (acn b (ab7 c)) (ab7 c)) (cy (acn b (ab7 c)) (ab7 c))).2) else
 ay9 b (ab7 c) (-(afv (acF (acn b (ab7 c))) ((acg (acn b (ab7 c))).length + 1) (cx (acn b (ab7 c)) (ab7 c)) (cy (acn b (ab7 c)) (ab7 c))).1,
  (afv (acF (acn b (ab7 c))) ((acg (acn b (ab7 c))).length + 1) (cy (acn b (ab7 c)) (ab7 c)) (cx (acn b (ab7 c)) (ab7 c))).1)
theorem aKh {L : List Lk} {N : Nat} (h : afu L N) {s t : Int} (hs : 0 ≤ s ∧ s < N) (ht : 0 ≤ t ∧ t < N) : -2305843009213693952 ≤ (afv L N s t).1 ∧ (afv L N s t).1 ≤ 2305843009213693952 := by
 unfold afv
 have h2 := h.n60
 split
 ·simp
 ·rename_i ho
  have ho' : adF L N = true := by simpa using ho
  obtain ⟨p, hp⟩ := (aeD h.links (by omega)).1 ho'
  have hd := agi h.links (by omega) hp hs
  split
  ·simp
  ·rename_i hne
   dsimp only
   have hb := hd.bd t ht.1 ht.2
   obtain ⟨vs, hw⟩ := hd.att t ht.1 ht.2 hne
   have h3 := hw.low' hp
   have h4 := aFh (L := L) (fun l hl => (h.most l hl).1) (M := 4503599627370496) (by omega)
   have h5 := h.len
   unfold afx at hb
   constructor <;> omega
theorem aEL {b : acv} (hs : ahG b) (hr : ∀ g ∈ b.2.1, I64 g.2.2.2.2.1.1) {c : Cmp} (hA : c.2.2.1.length ≤ 1000) (hB : c.2.2.2.1.length ≤ 1000) : akk b c = some (acw b c) := by
 unfold akk asf acw
 rw [show ahD b (c.1, c.2.1, c.2.2.1, c.2.2.2.1, 0, c.2.2.2.2.2) = ahD b (ab7 c) from rfl, aLR hs hr (c := ab7 c) hA hB, ab4]
 by_cases hw : (aoi b (ab7 c)).2 = 0
 ·rw [aco (by simp [ine, hw]), if_neg (show ¬ ((aoi b (ab7 c)).2 ≠ 0) from fun h => h hw)]
  -- the book is valid, and so is the greater one
  have hb : acz b = 0 := by
   unfold aoi at hw
   split at hw
   ·rename_i h; exact (h hw).elim
   ·rename_i h; simpa using h
  have hm : acz (acn b (ab7 c)) = 0 := by
   unfold aoi at hw
   rw [if_neg (by simp [hb])] at hw
   split at hw
   ·rename_i h; exact (h hw).elim
   ·rename_i h; simpa using h
  have he : aoi b (ab7 c) = (acn b (ab7 c), 0) := by
   unfold aoi
   rw [if_neg (by simp [hb]), if_neg (by simp [hm])]
  have g := (acr b).1 hb
  have gm := (acr _).1 hm
  have hmem : ab7 c ∈ (acn b (ab7 c)).2.2.2.2.1 := by simp [acn]
  have hN := gm.nodes
  have hll := aJj gm
  have hcl : (acn b (ab7 c)).2.2.2.2.1.length = b.2.2.2.2.1.length + 1 := by simp [acn]
  have hlk := gm.links
  have hsys : afu (acF (acn b (ab7 c))) ((acg (acn b (ab7 c))).length + 1) := gm.sys.sub (fun l hl => List.mem_of_mem_take hl) (by unfold acF; rw [List.length_take]; omega)
  have hx := (aGX gm hmem).rng
  have hy := (aBA gm hmem).rng
  have lA : c.2.2.1.length ≤ 1000 := hA
  rw [he]
  dsimp only
  rw [aMC gm, ab4]
  dsimp only
  rw [acQ, acu (by omega) (by omega)]
  have e1 : ((ile (0 : Int) (((acs (acn b (ab7 c))).length : Int) - 2)) && (ile (((acs (acn b (ab7 c))).length : Int) - 2) (adK (acs (acn b (ab7 c)))))) = true := by
   simp [ile, adK]; omega
  have e2 : (((acs (acn b (ab7 c))).length : Int) - 2).toNat = (acs (acn b (ab7 c))).length - 2 := by omega
  rw [adP e1, alx (by omega) (by omega), ab4, aQS _ _ _ (by dsimp only; omega), ab4, alx (by omega) (by omega), ab4, aQS _ _ _ (by dsimp only; omega), ab4, e2]
  have e3 : (((acg (acn b (ab7 c))).length : Int) + 1) = (((acg (acn b (ab7 c))).length + 1 : Nat) : Int) := by push_cast; rfl
  rw [e3]
  rw [show List.take ((acs (acn b (ab7 c))).length - 2) (acs (acn b (ab7 c))) = acF (acn b (ab7 c)) from rfl]
  dsimp only
  rw [show atP (acg (acn b (ab7 c))) (adb c.2.2.1 c.2.2.2.1) c.2.1 = cx (acn b (ab7 c)) (ab7 c) from rfl, show atP (acg (acn b (ab7 c))) (adb c.2.2.2.1 c.2.2.1) c.2.1 = cy (acn b (ab7 c)) (ab7 c) from rfl]
  rw [ayX hsys hy hx, ab4, ayX hsys hx hy]
  have b1 := aKh hsys hy hx
  have b2 := aKh hsys hx hy
  generalize hB1 : afv (acF (acn b (ab7 c))) ((acg (acn b (ab7 c))).length + 1) (cy (acn b (ab7 c)) (ab7 c)) (cx (acn b (ab7 c)) (ab7 c)) = B1 at b1 ⊢
  generalize hB2 : afv (acF (acn b (ab7 c))) ((acg (acn b (ab7 c))).length + 1) (cx (acn b (ab7 c)) (ab7 c)) (cy (acn b (ab7 c)) (ab7 c)) = B2 at b2 ⊢
  by_cases h1 : B1.2 = 0
  ·rw [aco (by simp [ine, h1]), if_neg (show ¬ (B1.2 ≠ 0) from fun h => h h1), ab4]
   by_cases h2 : B2.2 = 0
   ·rw [aco (by simp [ine, h2]), if_neg (show ¬ (B2.2 ≠ 0) from fun h => h h2), acu (by omega) (by omega)]
    have hck : aSB b (ab7 c) := ⟨(gm.cmp hmem).nums, (gm.cmp hmem).r1, (gm.cmp hmem).r2⟩
    rw [show amr b (c.1, c.2.1, c.2.2.1, c.2.2.2.1, 0, c.2.2.2.2.2) (0 - B2.1, B1.1) = amr b (ab7 c) (0 - B2.1, B1.1) from rfl, aRr g.size g.film hck (by dsimp only; omega) (by dsimp only; omega), ab4, Int.zero_sub]
   ·rw [acB (by simp [ine, h2]), if_pos h2]
  ·rw [acB (by simp [ine, h1]), if_pos h1]
 ·rw [acB (by simp [ine, hw]), if_pos hw]
end Go.Proofs.ZzM
end
noncomputable section
namespace Go.Proofs.ZzM
open Go Go.Am
structure In (b : acv) : Prop where
 size : ahG b
 num : ∀ g ∈ b.2.1, I64 g.2.2.2.2.1.1
def aHg (b : acv) : Sys × List (Int × Int) × Int := if acz b ≠ 0 then ((0, []), [], acz b) else ((((acg b).length : Int) + 1, acs b), aeM b, 0)
theorem ako {b : acv} (h : In b) : adw b = some (aHg b) := by
 unfold adw awb aHg
 rw [af5 h.size h.num, ab4]
 by_cases hc : acz b = 0
 ·rw [aco (by simp [ine, hc]), aMC ((acr b).1 hc), ab4, if_neg (show ¬ (acz b ≠ 0) from fun h => h hc)]
 ·rw [acB (by simp [ine, hc]), if_pos hc]
def cmp0 : Cmp := (0, 0, [], [], 0, 0, 0, 0)
def alH (b : acv) (i : Int) : Cmp × Int := if acz b ≠ 0 then (cmp0, acz b) else if i < 0 ∨ (b.2.2.2.2.1.length : Int) ≤ i then (cmp0, 1) else (b.2.2.2.2.1[i.toNat]?.getD cmp0, 0)
theorem aRg {b : acv} (h : In b) (i : Int) : auV b i = some (alH b i) := by
 unfold auV aAH alH
 rw [af5 h.size h.num, ab4]
 by_cases hc : acz b = 0
 ·rw [aco (by simp [ine, hc]), if_neg (show ¬ (acz b ≠ 0) from fun h => h hc), acQ]
  by_cases h1 : i < 0
  ·rw [acB (by simp [ilt, h1]), if_pos (.inl h1)]; rfl
  ·rw [aco (by simp [ilt]; omega)]
   by_cases h2 : (b.2.2.2.2.1.length : Int) ≤ i
   ·rw [acB (by simp [ige, h2]), if_pos (.inr h2)]; rfl
   ·rw [aco (by simp [ige]; omega), if_neg (by omega)]
    obtain ⟨j, rfl⟩ := Int.eq_ofNat_of_zero_le (show 0 ≤ i by omega)
    have hj : j < b.2.2.2.2.1.length := by omega
    rw [acj (List.getElem?_eq_getElem hj), Int.toNat_natCast, List.getElem?_eq_getElem hj]
    rfl
 ·rw [acB (by simp [ine, hc]), if_pos hc]; rfl
theorem aKm {b : acv} {i : Int} (h : (alH b i).2 = 0) : ado b ∧ (alH b i).1 ∈ b.2.2.2.2.1 ∧ b.2.2.2.2.1[i.toNat]? = some (alH b i).1 ∧ 0 ≤ i := by
 unfold alH at h ⊢
 split at h
 ·rename_i hc; exact (hc h).elim
 ·rename_i hc
  have hc0 : acz b = 0 := by simpa using hc
  split at h
  ·simp at h
  ·rename_i hi
   have hj : i.toNat < b.2.2.2.2.1.length := by omega
   rw [if_neg hc, if_neg hi, List.getElem?_eq_getElem hj]
   exact ⟨(acr b).1 hc0, List.getElem_mem hj, rfl, by omega⟩
def aSz (b : acv) (i : Int) : (Int × Int) × Int := if (alH b i).2 ≠ 0 then ((0, 0), (alH b i).2) else (ad3 b (alH b i).1, 0)
theorem aTV {b : acv} (h : In b) (i : Int) : ayT b i = some (aSz b i) := by
 unfold ayT aGC aSz
 rw [aRg h, ab4]
 by_cases hw : (alH b i).2 = 0
 ·obtain ⟨g, hm, _, _⟩ := aKm hw
  rw [aco (by simp [ine, hw]), g.says hm, ab4, if_neg (show ¬ ((alH b i).2 ≠ 0) from fun h => h hw)]
 ·rw [acB (by simp [ine, hw]), if_pos hw]
def exB : acv := ((0, 2), [(1, 0, 1000, (-5, 5), (1, 10), 1), (2, 0, 1000, (-50, 50), (1, 4), 0)], [(1, 10)], [(1, (20, 29), 3)], [(7, 10, [1], [2], -20, 1, 100, 200)], [])
theorem apD : In exB := ⟨⟨by decide, by decide, by decide, by decide, by decide, by decide⟩, by
 intro g hg
 simp [exB] at hg
 rcases hg with rfl | rfl <;> exact ⟨by decide, by decide⟩⟩
def exC : Cmp := (8, 10, [1], [2], 0, 0, 0, 0)
end Go.Proofs.ZzM
end
noncomputable section
namespace Go.Proofs.ZzM
open Go Go.Am
def amy (b : acv) (x d : Int) : Int := match agw (acg b) x d with | some j => (j : Int) + 1 | none => 0
def aEM (b : acv) (n : Int × Int) : Int × Int := if acz b ≠ 0 then (0, acz b) else if amy b n.1 n.2 = 0 then (0, 5) else (amy b n.1 n.2, 0)
theorem apP {b : acv} (h : In b) (n : Int × Int) : ady b n = some (aEM b n) := by
 have hl := aDQ h.size
 unfold ady aAY aEM
 rw [af5 h.size h.num, ab4]
 by_cases hc : acz b = 0
 ·rw [aco (by simp [ine, hc]), if_neg (show ¬ (acz b ≠ 0) from fun h => h hc), aFe h.size, ab4, show acR (acg b) n = acR (acg b) (n.1, n.2) from rfl, aKc (by omega), ab4]
  unfold amy
  cases hx : agw (acg b) n.1 n.2 with
  | none => rfl
  | some j =>
    have := (ag0 hx).1
    simp only
    rw [aco (by simp [ilt]), acu (by omega) (by omega), if_neg (by omega)]
 ·rw [acB (by simp [ine, hc]), if_pos hc]
end Go.Proofs.ZzM
end
noncomputable section
namespace Go.Proofs.ZzM
open Go Go.Am
def ahd (b : acv) (n : Int × Int) : acv := (b.1, b.2.1, b.2.2.1, b.2.2.2.1, b.2.2.2.2.1, b.2.2.2.2.2 ++ [n])
theorem aPK {b : acv} (h : ado b) (n : Int × Int) : ahG (ahd b n) := by
 have hs := h.size
 have := h.nK
 exact ⟨hs.gauges, hs.uses, hs.loans, hs.compares, by simp [ahd]; omega, hs.piles⟩
def ayr (b : acv) (n : Int × Int) : acv × Int := if acz b ≠ 0 then (af7, acz b) else if acz (ahd b n) ≠ 0 then (af7, acz (ahd b n)) else (ahd b n, 0)
theorem aLV {b : acv} (h : In b) (n : Int × Int) : ae2 b n = some (ayr b n) := by
 have hs := h.size
 have h1 := hs.gauges; have h2 := hs.uses; have h3 := hs.loans; have h4 := hs.compares; have h5 := hs.looks
 unfold ae2 aGE ayr
 rw [af5 hs h.num, ab4]
 by_cases hc : acz b = 0
 ·have hg := (acr b).1 hc
  rw [aco (by simp [ine, hc]), acq (by omega), Am.iff_true, acq (by omega), Am.iff_true, acq (by omega), Am.iff_true, acq (by omega), Am.iff_true, acq (by omega), Am.iff_true, if_neg (show ¬ (acz b ≠ 0) from fun h => h hc)]
  refine adg b.2.2.2.2.1 (fun _ => b.2.2.2.2.1) _ rfl (fun i d hi hd kn => ?_) (fun kn => ?_)
  ·dsimp only
   unfold anl
   obtain ⟨p1, p2⟩ := hs.piles d (List.mem_of_getElem? hd)
   have e1 : b.2.2.2.2.1.set i d = b.2.2.2.2.1 := by
    obtain ⟨h, rfl⟩ := List.getElem?_eq_some_iff.1 hd
    exact List.set_getElem_self h
   rw [acp hi, afX hi, aev hd, acq (by omega), Am.iff_true, acq (by omega), Am.iff_true, afX hi, aev hd, Int.toNat_natCast]
   rw [show (d.1, d.2.1, d.2.2.1, d.2.2.2) = d from rfl, e1, afX hi, amE hd, acl hi (by omega)]
   rw [show (d.1, d.2.1, d.2.2.1, d.2.2.2.1, d.2.2.2.2) = d from rfl, e1]
  ·try dsimp only
   unfold anl
   rw [acN]
   dsimp only
   rw [acq (by simp only [List.length_singleton]; omega), Am.iff_true]
   rw [show acV (b.1, b.2.1, b.2.2.1, b.2.2.2.1, b.2.2.2.2.1, b.2.2.2.2.2 ++ [n]) = acV (ahd b n) from rfl, af5 (aPK hg n) h.num, ab4]
   by_cases hc2 : acz (ahd b n) = 0
   ·rw [aco (by simp [ine, hc2]), if_neg (show ¬ (acz (ahd b n) ≠ 0) from fun h => h hc2)]
    rfl
   ·rw [acB (by simp [ine, hc2]), if_pos hc2]
    rfl
 ·rw [acB (by simp [ine, hc]), if_pos hc]
  rfl
end Go.Proofs.ZzM
end
noncomputable section
namespace Go.Proofs.ZzM
open Go Go.Am
section
variable {b : acv}
theorem aTm : off b b.2.1.length = (acg b).length := by unfold off acg; rw [List.take_length]
theorem aRD : ∀ n, n ≤ b.2.1.length → ∀ j, j < off b n → ∃ (i : Nat) (g : acS) (k : Nat), b.2.1[i]? = some g ∧ k < (acy b g).length ∧ j = off b i + k := by
 intro n
 induction n with
 | zero => intro _ j hj; simp [off] at hj
 | succ n ih =>
   intro hn j hj
   have hg : b.2.1[n]? = some b.2.1[n] := List.getElem?_eq_getElem (by omega)
   rw [aRC hg] at hj
   by_cases h : j < off b n
   ·exact ih (by omega) j h
   ·exact ⟨n, _, j - off b n, hg, by omega, by omega⟩
theorem aDR {v : Int} (h0 : 1 ≤ v) (h1 : v < ((acg b).length + 1 : Nat)) : ∃ (i : Nat) (g : acS) (k : Nat), b.2.1[i]? = some g ∧ k < (acy b g).length ∧ v = (off b i : Int) + k + 1 := by
 obtain ⟨i, g, k, h2, h3, h4⟩ := aRD (b := b) b.2.1.length (Nat.le_refl _) (v - 1).toNat (by rw [aTm]; omega)
 exact ⟨i, g, k, h2, h3, by omega⟩
def GL (b : acv) (L : List Lk) : Prop := ∀ (i : Nat) (g : acS), b.2.1[i]? = some g → ∀ l ∈ ac6 b g, l ∈ L
theorem aMM : GL b (acs b) := fun i g hg l hl => ajJ.2 (.inl ⟨i, g, hg, hl⟩)
theorem aOP {L : List Lk} (h : ado b) (hL : GL b L) {v : Int} (h0 : 0 ≤ v) (h1 : v < ((acg b).length + 1 : Nat)) : ∃ vs d, Wl L (fun u => u = 0) vs v d ∧ d ≤ 4503599627370496 := by
 by_cases hv : v = 0
 ·exact ⟨[], 0, .nil hv, by omega⟩
 obtain ⟨i, g, k, hg, hk, rfl⟩ := aDR (by omega) h1
 have hr := h.gaugeR (List.mem_of_getElem? hg)
 have r1 := hr.2.2.2.2.2.1
 have r2 := hr.2.2.2.2.2.2.1
 have key : ∀ k : Nat, k < (acy b g).length → ∃ vs, Wl L (fun u => u = 0) vs ((off b i : Int) + k + 1) (g.2.2.1 + g.2.2.2.1.2) := by
  intro k
  induction k with
  | zero =>
    intro _
    have hw : Wl L (fun u => u = 0) [0] ((off b i : Int) + 1) (0 + (g.2.2.1 + g.2.2.2.1.2)) := Wl.step (.nil rfl) (hL i g hg _ ((adG h hg).2 (.inl rfl)))
    rw [Int.zero_add] at hw
    exact ⟨[0], by simpa using hw⟩
  | succ k ih =>
    intro hk
    obtain ⟨vs, hw⟩ := ih (by omega)
    have hw' := Wl.step hw (hL i g hg _ ((adG h hg).2 (.inr (.inr ⟨k, _, _, List.getElem?_eq_getElem (show k < _ by omega), List.getElem?_eq_getElem hk, .inl rfl⟩))))
    rw [Int.add_zero] at hw'
    have e : (off b i : Int) + ((k + 1 : Nat) : Int) + 1 = (off b i : Int) + k + 2 := by push_cast; omega
    exact ⟨_, by rw [e]; exact hw'⟩
 obtain ⟨vs, hw⟩ := key k hk
 exact ⟨vs, _, hw, by omega⟩
theorem aHv {L : List Lk} (h : ado b) (hL : GL b L) {v : Int} (h0 : 0 ≤ v) (h1 : v < ((acg b).length + 1 : Nat)) : ∃ vs d, Wl L (fun u => u = v) vs 0 d ∧ d ≤ 4503599627370496 := by
 by_cases hv : v = 0
 ·exact ⟨[], 0, .nil hv.symm, by omega⟩
 obtain ⟨i, g, k, hg, hk, rfl⟩ := aDR (by omega) h1
 have hgm := List.mem_of_getElem? hg
 have hr := h.gaugeR hgm
 have r1 := hr.2.2.2.2.2.1
 have r2 := hr.2.2.2.2.2.2.1
 have hd := aGW h hgm
 have key : ∀ m : Nat, m ≤ k → ∃ vs d, Wl L (fun u => u = (off b i : Int) + k + 1) vs ((off b i : Int) + (k - m : Nat) + 1) d ∧ d ≤ m * (12 * (20001 * 1048576) + 40 * 1048576) := by
  intro m
  induction m with
  | zero => intro _; exact ⟨[], 0, .nil (by simp), by simp⟩
  | succ m ih =>
    intro hm
    obtain ⟨vs, d, hw, hd⟩ := ih (by omega)
    have e1 : ((k - m : Nat) : Int) = ((k - (m + 1) : Nat) : Int) + 1 := by omega
    have hl : (((off b i : Int) + (k - (m + 1) : Nat) + 2, (off b i : Int) + (k - (m + 1) : Nat) + 1, agV b g ((acy b g)[k - (m + 1)]'(by omega)) ((acy b g)[k - (m + 1) + 1]'(by omega))) : Lk) ∈ L :=
     hL i g hg _ ((adG h hg).2 (.inr (.inr ⟨k - (m + 1), _, _, List.getElem?_eq_getElem (by omega), List.getElem?_eq_getElem (by omega), .inr rfl⟩)))
    have hb := anm h hgm (f := (acy b g)[k - (m + 1)]'(by omega)) (t := (acy b g)[k - (m + 1) + 1]'(by omega)) (h.day hgm (List.getElem_mem _)).2.1
    have e2 : (off b i : Int) + (k - m : Nat) + 1 = (off b i : Int) + (k - (m + 1) : Nat) + 2 := by omega
    rw [e2] at hw
    exact ⟨_, _, .step hw hl, by push_cast; omega⟩
 obtain ⟨vs, d, hw, hdb⟩ := key k (Nat.le_refl _)
 have e : (off b i : Int) + (k - k : Nat) + 1 = (off b i : Int) + 1 := by omega
 rw [e] at hw
 have hw' := Wl.step hw (hL i g hg _ ((adG h hg).2 (.inr (.inl rfl))))
 exact ⟨_, _, hw', by omega⟩
end
structure au5 (L : List Lk) (N : Nat) : Prop where
 to : ∀ v : Int, 0 ≤ v → v < N → ∃ vs d, Wl L (fun u => u = 0) vs v d ∧ d ≤ 4503599627370496
 from' : ∀ v : Int, 0 ≤ v → v < N → ∃ vs d, Wl L (fun u => u = v) vs 0 d ∧ d ≤ 4503599627370496
theorem ado.tied {b : acv} (h : ado b) : au5 (acs b) ((acg b).length + 1) := ⟨fun v h0 h1 => aOP h aMM h0 h1, fun v h0 h1 => aHv h aMM h0 h1⟩
theorem ado.tiedL {b : acv} {L : List Lk} (h : ado b) (hL : GL b L) : au5 L ((acg b).length + 1) := ⟨fun v h0 h1 => aOP h hL h0 h1, fun v h0 h1 => aHv h hL h0 h1⟩
section
variable {L : List Lk} {N : Nat}
theorem aH9 {L : List Lk} {s : Int} {vs : List Int} {v d : Int} : Wl L (fun v => aPk s v = true) vs v d ↔ Wl L (fun u => u = s) vs v d :=
 ⟨fun h => h.mono fun u hu => by simpa [aPk] using hu, fun h => h.mono fun u hu => by simpa [aPk] using hu⟩
theorem aLO (h : afu L N) (ho : adF L N = true) {v : Int} (h0 : 0 ≤ v) (h1 : v < N) : gv (alG L N v) v = 0 := by
 have h2 := h.n60
 obtain ⟨p, hp⟩ := (aeD h.links (by omega)).1 ho
 have hd := agi h.links (by omega) hp (s := v) ⟨h0, h1⟩
 have h3 := hd.low v [] 0 (.nil (by simp [aPk]))
 obtain ⟨vs, hw⟩ := hd.att v h0 h1 (by unfold afx; omega)
 obtain ⟨s, hs, hx⟩ := (aH9.1 hw).pot hp
 subst hs
 omega
end
theorem aOq {b : acv} : ∀ i, i ≤ b.2.2.2.2.1.length → ((b.2.2.2.2.1.take i).flatMap (acU b)).length = 2 * i ∧ (((b.2.2.2.2.1.take i).mapIdx fun i _ => [((3 : Int), (i : Int)), ((3 : Int), (i : Int))]).flatten).length = 2 * i := by
 intro i
 induction i with
 | zero => intro _; simp
 | succ i ih =>
   intro hi
   have ih := ih (by omega)
   have hg : b.2.2.2.2.1[i]? = some b.2.2.2.2.1[i] := List.getElem?_eq_getElem hi
   rw [ahW _ hg, take_succ hg, List.flatMap_append, List.flatten_append, List.length_append, List.length_append]
   simp only [List.flatMap_cons, List.flatMap_nil, List.append_nil, List.flatten_cons, List.flatten_nil, acU, List.length_cons, List.length_nil]
   omega
end Go.Proofs.ZzM
end
noncomputable section
namespace Go.Proofs.ZzM
open Go Go.Am
section
variable {L : List Lk} {N : Nat}
theorem au6 (h : afu L N) : adt ((N : Int), L) = some (adF L N, 0) := by
 have h2 := h.n60
 unfold adt alr
 rw [ahI h, ab4]
 dsimp only
 rw [aco (by rfl), ars h.links h.n1 (by omega), ab4]
 cases adF L N <;> rfl
end
end Go.Proofs.ZzM
end
noncomputable section
namespace Go.Proofs.ZzM
open Go Go.Am
def afW (b : acv) (n : Int × Int) : acv × Int := if amy b n.1 n.2 ≠ 0 then (b, 0) else if acz (ahd b n) ≠ 0 then (af7, acz (ahd b n)) else (ahd b n, 0)
def aeA : acv → List (Int × Int) → acv × Int
 | b, [] => (b, 0)
 | b, n :: t => if (afW b n).2 ≠ 0 then (af7, (afW b n).2) else aeA (afW b n).1 t
def ads (b : acv) (ns : List (Int × Int)) : acv × Int :=
 if acz b ≠ 0 then (af7, acz b) else if (aeA b ns).2 ≠ 0 then (af7, (aeA b ns).2) else
 if adF (acs (aeA b ns).1) ((acg (aeA b ns).1).length + 1) then ((aeA b ns).1, 0) else (af7, 9)
theorem ay2 {b : acv} (h : ado b) {n : Int × Int} (e : (afW b n).2 = 0) : ado (afW b n).1 := by
 unfold afW at e ⊢
 split
 ·exact h
 ·rename_i h1
  rw [if_neg h1] at e
  split
  ·rename_i h2
   rw [if_pos h2] at e
   exact absurd e h2
  ·rename_i h2
   exact (acr _).1 (by simpa using h2)
theorem ay3 {b : acv} {n : Int × Int} (e : (afW b n).2 = 0) : (afW b n).1.2.1 = b.2.1 := by
 unfold afW at e ⊢
 split
 ·rfl
 ·rename_i h1
  rw [if_neg h1] at e
  split
  ·rename_i h2
   rw [if_pos h2] at e
   exact absurd e h2
  ·rfl
theorem aze : ∀ {ns : List (Int × Int)} {b : acv}, ado b → (aeA b ns).2 = 0 → ado (aeA b ns).1
 | [], b, h, _ => h
 | n :: t, b, h, e => by
   unfold aeA at e ⊢
   split
   ·rename_i h1; rw [if_pos h1] at e; exact absurd e h1
   ·rename_i h1
    rw [if_neg h1] at e
    exact aze (ay2 h (by simpa using h1)) e
theorem amA : ∀ {ns : List (Int × Int)} {b : acv}, (aeA b ns).2 = 0 → (aeA b ns).1.2.1 = b.2.1
 | [], b, _ => rfl
 | n :: t, b, e => by
   unfold aeA at e ⊢
   split
   ·rename_i h1; rw [if_pos h1] at e; exact absurd e h1
   ·rename_i h1
    rw [if_neg h1] at e
    rw [amA e, ay3 (by simpa using h1)]
theorem ado.inn {b : acv} (h : ado b) (hn : ∀ g ∈ b.2.1, I64 g.2.2.2.2.1.1) : In b := ⟨h.size, hn⟩
theorem agj {b : acv} (h : ado b) : aHg b = ((((acg b).length : Int) + 1, acs b), aeM b, 0) := by
 unfold aHg
 rw [if_neg (by simp [(acr b).2 h])]
theorem anG {b : acv} (h : ado b) (n : Int × Int) : aEM b n = if amy b n.1 n.2 = 0 then (0, 5) else (amy b n.1 n.2, 0) := by
 unfold aEM
 rw [if_neg (by simp [(acr b).2 h])]
abbrev Flat : Type := Int × Int × List acS × List (Int × Int) × List ayV × List Cmp × List (Int × Int)
def flat (b : acv) : Flat := (b.1.1, b.1.2, b.2.1, b.2.2.1, b.2.2.2.1, b.2.2.2.2.1, b.2.2.2.2.2)
theorem apv (b : acv) : (((flat b).1, (flat b).2.1), (flat b).2.2) = b := rfl
section
variable {ρ : Type}
def aS9 (ns : List (Int × Int)) (E1 : Int × Flat → Option ρ) (K1 : Flat → Option ρ) (b : acv) : Option ρ :=
 acm (fun (v : Int × Flat) kk => ac9 (acD ns) ns v.1 v.2.1 v.2.2.1 v.2.2.2.1 v.2.2.2.2.1 v.2.2.2.2.2.1 v.2.2.2.2.2.2.1 v.2.2.2.2.2.2.2 (fun u1 u2 u3 u4 u5 u6 u7 u8 => kk (u1, u2, u3, u4, u5, u6, u7, u8)) (fun z => E1 z) (fun z => K1 z)) ((0 : Int), b.1.1, b.1.2, b.2.1, b.2.2.1, b.2.2.2.1, b.2.2.2.2.1, b.2.2.2.2.2)
theorem aO4 {ns : List (Int × Int)} (hl : ns.length ≤ 1000) {E1 : Int × Flat → Option ρ} {K1 : Flat → Option ρ} (R : Int → Option ρ) (h1 : ∀ z, z.1 ≠ 0 → E1 z = R z.1) {b : acv} (hg : ado b) (hn : ∀ g ∈ b.2.1, I64 g.2.2.2.2.1.1) :
 aS9 ns E1 K1 b = if (aeA b ns).2 ≠ 0 then R (aeA b ns).2 else K1 (flat (aeA b ns).1) := by
 unfold aS9
 refine ayM ns (fun (i : Nat) (s : Flat) (t : List (Int × Int)) => if (aeA ((s.1, s.2.1), s.2.2) t).2 ≠ 0 then R (aeA ((s.1, s.2.1), s.2.2) t).2 else K1 (flat (aeA ((s.1, s.2.1), s.2.2) t).1))
  (fun i s => ado ((s.1, s.2.1), s.2.2) ∧ ∀ g ∈ s.2.2.1, I64 g.2.2.2.2.1.1) (fun s hs kn => ?_) (fun i n t s hd hi ha hs kn hk => ?_) (s := flat b) ⟨hg, hn⟩
 ·dsimp only
  unfold ac9
  rw [acN]
  rfl
 ·dsimp only
  unfold ac9
  obtain ⟨hs1, hs2⟩ := hs
  have hin : In ((s.1, s.2.1), s.2.2) := hs1.inn hs2
  rw [acp hi, afX hi, aev ha]
  rw [show ady ((s.1, s.2.1), s.2.2.1, s.2.2.2.1, s.2.2.2.2.1, s.2.2.2.2.2.1, s.2.2.2.2.2.2) n = ady ((s.1, s.2.1), s.2.2) n from rfl, apP hin, ab4]
  rw [show ae2 ((s.1, s.2.1), s.2.2.1, s.2.2.2.1, s.2.2.2.2.1, s.2.2.2.2.2.1, s.2.2.2.2.2.2) n = ae2 ((s.1, s.2.1), s.2.2) n from rfl, aLV hin, ab4]
  rw [anG hs1]
  generalize hB : (((s.1, s.2.1), s.2.2) : acv) = B at hs1 hin ⊢
  have hu : aeA B (n :: t) = if (afW B n).2 ≠ 0 then (af7, (afW B n).2) else aeA (afW B n).1 t := rfl
  rw [hu]
  by_cases h0 : amy B n.1 n.2 = 0
  ·rw [if_pos h0, aco (by rfl)]
   by_cases h2 : acz (ahd B n) = 0
   ·have e : afW B n = (ahd B n, 0) := by unfold afW; rw [if_neg (by simp [h0]), if_neg (by simp [h2])]
    have e2 : ayr B n = (ahd B n, 0) := by unfold ayr; rw [if_neg (by simp [(acr B).2 hs1]), if_neg (by simp [h2])]
    rw [e2, e, aco (by rfl), acl hi (by omega), if_neg (show ¬ ((0 : Int) ≠ 0) by simp)]
    subst hB
    exact hk (s.1, s.2.1, s.2.2.1, s.2.2.2.1, s.2.2.2.2.1, s.2.2.2.2.2.1, s.2.2.2.2.2.2 ++ [n]) ⟨(acr _).1 h2, hs2⟩
   ·have e : afW B n = (af7, acz (ahd B n)) := by unfold afW; rw [if_neg (by simp [h0]), if_pos h2]
    have e2 : ayr B n = (af7, acz (ahd B n)) := by unfold ayr; rw [if_neg (by simp [(acr B).2 hs1]), if_pos h2]
    rw [e2, e, acB (by simp [ine, h2]), if_pos h2, if_pos h2]
    exact h1 _ h2
  ·have e : afW B n = (B, 0) := by unfold afW; rw [if_pos h0]
   rw [if_neg h0, acB (by rfl), acl hi (by omega), e, if_neg (show ¬ ((0 : Int) ≠ 0) by simp)]
   subst hB
   exact hk s ⟨hs1, hs2⟩
theorem amD {b : acv} (hI : In b) {ns : List (Int × Int)} (hl : ns.length ≤ 1000) {E0 : Int → Option ρ} {E1 : Int × Flat → Option ρ} {E2 : Flat → Sys × List (Int × Int) × Int → Option ρ} {E3 : Flat → Sys × List (Int × Int) × Int → Bool × Int → Option ρ}
 {K : Flat → Sys × List (Int × Int) × Int → Bool × Int → Option ρ} (R : Int → Option ρ) (h0 : ∀ e, e ≠ 0 → E0 e = R e) (h1 : ∀ z, z.1 ≠ 0 → E1 z = R z.1) (h3 : ∀ z s r, E3 z s r = R 9) :
 ab8 (acV b) (fun r1 => ifb (ine r1 (0 : Int)) (E0 r1) (aS9 ns E1 (fun z8 => ab8 (adw ((z8.1, z8.2.1), z8.2.2)) fun r9 => ifb (ine r9.2.2 (0 : Int)) (E2 z8 r9) (ab8 (adt r9.1) fun r10 => ifb (!r10.1) (E3 z8 r9 r10) (K z8 r9 r10))) b)) =
 if (ads b ns).2 ≠ 0 then R (ads b ns).2 else K (flat (ads b ns).1) ((((acg (ads b ns).1).length : Int) + 1, acs (ads b ns).1), aeM (ads b ns).1, 0) (true, 0) := by
 rw [af5 hI.size hI.num, ab4]
 unfold ads
 by_cases hc : acz b = 0
 ·have hg := (acr b).1 hc
  rw [aco (by simp [ine, hc]), if_neg (show ¬ (acz b ≠ 0) from fun h => h hc), aO4 hl R h1 hg hI.num]
  by_cases hr : (aeA b ns).2 = 0
  ·rw [if_neg (show ¬ ((aeA b ns).2 ≠ 0) from fun h => h hr), if_neg (show ¬ ((aeA b ns).2 ≠ 0) from fun h => h hr)]
   have hB := aze hg hr
   have hBn : ∀ g ∈ (aeA b ns).1.2.1, I64 g.2.2.2.2.1.1 := by rw [amA hr]; exact hI.num
   generalize (aeA b ns).1 = B at hB hBn ⊢
   rw [apv, ako (hB.inn hBn), ab4, agj hB, aco (by rfl)]
   dsimp only
   rw [show (((acg B).length : Int) + 1) = (((acg B).length + 1 : Nat) : Int) by push_cast; rfl, au6 hB.sys, ab4]
   cases ho : adF (acs B) ((acg B).length + 1) with
   | true =>
     rw [if_neg (by simp)]
     simp only [Bool.not_true, acO]
     push_cast
     rfl
   | false =>
     rw [if_pos (by simp)]
     simp only [Bool.not_false, aee]
     rw [h3]
     rfl
  ·rw [if_pos hr, if_pos hr, if_pos hr]
 ·rw [acB (by simp [ine, hc]), h0 _ hc, if_pos hc, if_pos hc]
end
end Go.Proofs.ZzM
end
noncomputable section
namespace Go.Proofs.ZzM
open Go Go.Am
def aKn (b : acv) (id day : Int) : Bool := b.2.2.1.any fun u => u.1 == id && u.2 == day
def aQo (b : acv) (g : acS) (d : Int) : Int := match ayq b g.1 d with | some l => l.2.2 | none => if aKn b g.1 d then g.2.2.2.2.2 else 0
theorem aPN (l : ayV) (id : Int) {f t : Int} (hft : f ≤ t) : (if l.1 = id ∧ 0 < adh l f (t + 1) then adh l f (t + 1) * l.2.2 else 0) = (if l.1 = id ∧ 0 < adh l f t then adh l f t * l.2.2 else 0) + (if l.1 = id ∧ l.2.1.1 ≤ t ∧ t ≤ l.2.1.2 then l.2.2 else 0) := by
 by_cases hid : l.1 = id
 ·by_cases h1 : l.2.1.1 ≤ t ∧ t ≤ l.2.1.2
  ·have e : adh l f (t + 1) = adh l f t + 1 := by unfold adh; omega
   have p : 0 ≤ adh l f t := by unfold adh; omega
   rw [e, if_pos ⟨hid, by omega⟩, if_pos (show l.1 = id ∧ l.2.1.1 ≤ t ∧ t ≤ l.2.1.2 from ⟨hid, h1⟩), Int.add_mul, Int.one_mul]
   by_cases hp : 0 < adh l f t
   ·rw [if_pos ⟨hid, hp⟩]
   ·rw [if_neg (fun h => hp h.2)]
    have : adh l f t = 0 := by omega
    rw [this]
    omega
  ·rw [if_neg (show ¬ (l.1 = id ∧ l.2.1.1 ≤ t ∧ t ≤ l.2.1.2) from fun h => h1 h.2), Int.add_zero]
   by_cases hlo : l.2.1.1 ≤ t
   ·have e : adh l f (t + 1) = adh l f t := by unfold adh; omega
    rw [e]
   ·have p1 : ¬ 0 < adh l f (t + 1) := by unfold adh; omega
    have p2 : ¬ 0 < adh l f t := by unfold adh; omega
    rw [if_neg (fun h => p1 h.2), if_neg (fun h => p2 h.2)]
 ·rw [if_neg (fun h => hid h.1), if_neg (fun h => hid h.1), if_neg (fun h => hid h.1)]
  rfl
theorem aEb (id : Int) {f t : Int} (hft : f ≤ t) : ∀ {x : List ayV}, x.Pairwise (fun a c => ¬ (a.1 = c.1 ∧ a.2.1.1 ≤ c.2.1.2 ∧ c.2.1.1 ≤ a.2.1.2)) →
 adC id f (t + 1) x = adC id f t x + (match x.find? (fun l => l.1 == id && inP t l.2.1.1 l.2.1.2) with | some l => l.2.2 | none => 0)
 | [], _ => rfl
 | l :: r, hp => by
   rw [List.pairwise_cons] at hp
   have ih := aEb id hft hp.2
   simp only [adC]
   rw [ih, aPN l id hft, List.find?_cons]
   by_cases hm : l.1 = id ∧ l.2.1.1 ≤ t ∧ t ≤ l.2.1.2
   ·have e : (l.1 == id && inP t l.2.1.1 l.2.1.2) = true := by simp [inP, hm.1, hm.2.1, hm.2.2]
    have hn : r.find? (fun l => l.1 == id && inP t l.2.1.1 l.2.1.2) = none := by
     rw [List.find?_eq_none]
     intro c hc hcm
     simp only [inP, Bool.and_eq_true, beq_iff_eq, decide_eq_true_eq] at hcm
     exact hp.1 c hc ⟨by rw [hm.1, hcm.1], by omega, by omega⟩
    rw [if_pos hm, e, hn]
    simp only
    omega
   ·have e : (l.1 == id && inP t l.2.1.1 l.2.1.2) = false := by
     rw [Bool.eq_false_iff]
     intro h
     simp only [inP, Bool.and_eq_true, beq_iff_eq, decide_eq_true_eq] at h
     exact hm h
    rw [if_neg hm, e]
    simp only
    omega
section
variable {b : acv}
theorem ado.apart (h : ado b) : b.2.2.2.1.Pairwise (fun a c => ¬ (a.1 = c.1 ∧ a.2.1.1 ≤ c.2.1.2 ∧ c.2.1.1 ≤ a.2.1.2)) := by
 rw [List.pairwise_iff_getElem]
 intro i j hi hj hij ⟨h1, h2, h3⟩
 have hz := h.loans j _ (List.getElem?_eq_getElem hj)
 unfold aLm at hz
 have hany : (b.2.2.2.1.take j).any (fun x => x.1 == b.2.2.2.1[j].1 && (decide (x.2.1.1 ≤ b.2.2.2.1[j].2.1.2) && decide (b.2.2.2.1[j].2.1.1 ≤ x.2.1.2))) = true := by
  rw [List.any_eq_true]
  exact ⟨b.2.2.2.1[i], List.mem_iff_getElem.2 ⟨i, by rw [List.length_take]; omega, by rw [List.getElem_take]⟩, by simp [h1, h2, h3]⟩
 rw [hany] at hz
 (repeat' split at hz) <;> first | omega | simp_all
theorem ado.notUsed (h : ado b) {id d : Int} {l : ayV} (hl : ayq b id d = some l) : aKn b id d = false := by
 have hm := List.mem_of_find?_eq_some hl
 have hp := List.find?_some hl
 simp only [inP, Bool.and_eq_true, beq_iff_eq, decide_eq_true_eq] at hp
 obtain ⟨j, hj, rfl⟩ := List.mem_iff_getElem.1 hm
 have hz := h.loans j _ (List.getElem?_eq_getElem hj)
 rw [Bool.eq_false_iff]
 intro hu
 obtain ⟨u, hu, hue⟩ := List.any_eq_true.1 hu
 simp only [Bool.and_eq_true, beq_iff_eq] at hue
 have hany : b.2.2.1.any (fun u => u.1 == b.2.2.2.1[j].1 && inP u.2 b.2.2.2.1[j].2.1.1 b.2.2.2.1[j].2.1.2) = true := by
  rw [List.any_eq_true]
  exact ⟨u, hu, by simp only [inP, Bool.and_eq_true, beq_iff_eq, decide_eq_true_eq]; exact ⟨by rw [hue.1, hp.1], by omega, by omega⟩⟩
 unfold aLm at hz
 rw [hany] at hz
 (repeat' split at hz) <;> first | omega | simp_all
theorem aHp {id f t : Int} (hft : f ≤ t) : aKi (afV b id f (t + 1)) = aKi (afV b id f t) ++ if aKn b id t then [t] else [] := by
 have hm : ∀ t x, x ∈ afV b id f t ↔ aKn b id x = true ∧ f ≤ x ∧ x < t := by
  intro t x
  unfold afV aKn
  simp only [List.mem_map, List.mem_filter, List.any_eq_true, inP, Bool.and_eq_true, beq_iff_eq, decide_eq_true_eq]
  constructor
  ·rintro ⟨u, ⟨h1, h2, h3, h4⟩, rfl⟩
   exact ⟨⟨u, h1, h2, rfl⟩, h3, by omega⟩
  ·rintro ⟨⟨u, h1, h2, rfl⟩, h3, h4⟩
   exact ⟨u, ⟨h1, h2, h3, by omega⟩, rfl⟩
 refine aTT (aKu _) ?_ fun x => ?_
 ·rw [List.pairwise_append]
  refine ⟨aKu _, by split <;> simp, fun a ha c hc => ?_⟩
  rw [apW, hm] at ha
  split at hc
  ·rw [List.mem_singleton] at hc; omega
  ·cases hc
 ·rw [apW, hm, List.mem_append, apW, hm]
  by_cases hu : aKn b id t = true
  ·rw [if_pos hu, List.mem_singleton]
   constructor
   ·rintro ⟨h1, h2, h3⟩
    by_cases he : x = t
    ·exact .inr he
    ·exact .inl ⟨h1, h2, by omega⟩
   ·rintro (⟨h1, h2, h3⟩ | rfl)
    ·exact ⟨h1, h2, by omega⟩
    ·exact ⟨hu, hft, by omega⟩
  ·rw [if_neg hu]
   constructor
   ·rintro ⟨h1, h2, h3⟩
    refine .inl ⟨h1, h2, ?_⟩
    by_cases he : x = t
    ·rw [he] at h1; exact absurd h1 hu
    ·omega
   ·rintro (⟨h1, h2, h3⟩ | h)
    ·exact ⟨h1, h2, by omega⟩
    ·cases h
theorem aJd (h : ado b) (g : acS) {f t : Int} (hft : f ≤ t) : agV b g f (t + 1) = agV b g f t + aQo b g t := by
 unfold agV aQo
 rw [aEb g.1 hft h.apart, aHp hft]
 show adC g.1 f t b.2.2.2.1 + (match ayq b g.1 t with | some l => l.2.2 | none => 0) + _ = _
 cases ha : ayq b g.1 t with
 | some l =>
   rw [h.notUsed ha]
   simp only [Bool.false_eq_true, if_false, List.append_nil]
   omega
 | none =>
   simp only
   cases aKn b g.1 t with
   | true => simp only [if_true, List.length_append, List.length_singleton, Int.natCast_add, Int.add_mul]; omega
   | false => simp only [Bool.false_eq_true, if_false, List.append_nil]; omega
theorem aJe (g : acS) {f t : Int} (hft : t ≤ f) : agV b g f t = 0 := by
 unfold agV
 have h1 : ∀ x : List ayV, adC g.1 f t x = 0 := by
  intro x
  induction x with
  | nil => rfl
  | cons l r ih =>
    simp only [adC]
    rw [ih, if_neg (by unfold adh; omega)]
    rfl
 have h2 : afV b g.1 f t = [] := by
  unfold afV
  rw [List.filter_eq_nil_iff.2 fun u hu hc => by
   simp only [inP, Bool.and_eq_true, beq_iff_eq, decide_eq_true_eq] at hc
   omega]
  rfl
 rw [h1, h2]
 have h3 : aKi ([] : List Int) = [] := rfl
 rw [h3]
 simp
end
end Go.Proofs.ZzM
end
noncomputable section
namespace Go.Proofs.ZzM
open Go Go.Am
section
variable {b : acv}
theorem ayL (h : ado b) (g : acS) {f t u : Int} (h1 : f ≤ t) (h2 : t ≤ u) : agV b g f u = agV b g f t + agV b g t u := by
 obtain ⟨n, rfl⟩ : ∃ n : Nat, u = t + n := ⟨(u - t).toNat, by omega⟩
 clear h2
 induction n with
 | zero => simp [aJe]
 | succ n ih =>
   have e : t + ((n + 1 : Nat) : Int) = (t + n) + 1 := by omega
   rw [e, aJd h g (show f ≤ t + (n : Int) by omega), aJd h g (show t ≤ t + (n : Int) by omega), ih]
   omega
theorem asg (h : ado b) {g : acS} (hg : g ∈ b.2.1) {f t : Int} (hf : 0 ≤ f) : 0 ≤ agV b g f t := (anm h hg hf).1
def aeE (b : acv) (id d : Int) : Int := match agw (acg b) id d with | some j => (j : Int) + 1 | none => 0
theorem akx (h : ado b) {i : Nat} {g : acS} (hg : b.2.1[i]? = some g) {k : Nat} {d : Int} (hk : (acy b g)[k]? = some d) : aeE b g.1 d = (off b i : Int) + k + 1 := by
 unfold aeE
 rw [aFf h hg hk]
 simp only
 omega
structure akp (b : acv) (p : Int → Int) (g : acS) : Prop where
 hi : p (aeE b g.1 g.2.1) ≤ p 0 + (g.2.2.1 + g.2.2.2.1.2)
 lo : p 0 + (g.2.2.1 + g.2.2.2.1.1) ≤ p (aeE b g.1 g.2.1)
 down : ∀ d e, d ∈ acy b g → e ∈ acy b g → d ≤ e → p (aeE b g.1 e) ≤ p (aeE b g.1 d)
 loss : ∀ d e, d ∈ acy b g → e ∈ acy b g → d ≤ e → p (aeE b g.1 d) ≤ p (aeE b g.1 e) + agV b g d e
theorem ajv (h : ado b) {i : Nat} {g : acS} (hg : b.2.1[i]? = some g) {p : Int → Int} : (∀ l ∈ ac6 b g, p l.2.1 ≤ p l.1 + l.2.2) ↔ akp b p g := by
 have hgm := List.mem_of_getElem? hg
 obtain ⟨tl, htl⟩ := aJK h hgm
 have h0 : aeE b g.1 g.2.1 = (off b i : Int) + 1 := by
  have := akx h hg (k := 0) (d := g.2.1) (by rw [htl]; rfl)
  rw [this]
  omega
 constructor
 ·intro hl
  have e1 := hl _ ((adG h hg).2 (.inl rfl))
  have e2 := hl _ ((adG h hg).2 (.inr (.inl rfl)))
  simp only at e1 e2
  have step : ∀ (k : Nat) (d e : Int), (acy b g)[k]? = some d → (acy b g)[k + 1]? = some e → p (aeE b g.1 e) ≤ p (aeE b g.1 d) ∧ p (aeE b g.1 d) ≤ p (aeE b g.1 e) + agV b g d e := by
   intro k d e hd he
   have a1 := hl _ ((adG h hg).2 (.inr (.inr ⟨k, d, e, hd, he, .inl rfl⟩)))
   have a2 := hl _ ((adG h hg).2 (.inr (.inr ⟨k, d, e, hd, he, .inr rfl⟩)))
   simp only at a1 a2
   rw [akx h hg hd, akx h hg he]
   have e3 : (off b i : Int) + ((k + 1 : Nat) : Int) + 1 = (off b i : Int) + k + 2 := by omega
   rw [e3]
   exact ⟨by omega, a2⟩
  have pair : ∀ (n k : Nat) (d e : Int), (acy b g)[k]? = some d → (acy b g)[k + n]? = some e → p (aeE b g.1 e) ≤ p (aeE b g.1 d) ∧ p (aeE b g.1 d) ≤ p (aeE b g.1 e) + agV b g d e := by
   intro n
   induction n with
   | zero =>
     intro k d e hd he
     rw [Nat.add_zero, hd] at he
     cases he
     rw [aJe g (Int.le_refl _)]
     omega
   | succ n ih =>
     intro k d e hd he
     have hlt := (List.getElem?_eq_some_iff.1 he).1
     have hm : (acy b g)[k + n]? = some ((acy b g)[k + n]'(by omega)) := List.getElem?_eq_getElem (by omega)
     obtain ⟨a1, a2⟩ := ih k d _ hd hm
     obtain ⟨a3, a4⟩ := step (k + n) _ e hm he
     have o1 : d ≤ (acy b g)[k + n]'(by omega) := by
      obtain ⟨hkl, hkd⟩ := List.getElem?_eq_some_iff.1 hd
      rcases Nat.eq_zero_or_pos n with rfl | hn
      ·rw [← hkd]; exact Int.le_of_eq (by congr 1)
      ·have := (List.pairwise_iff_getElem.1 (asu b g)) k (k + n) hkl (by omega) (by omega)
       rw [hkd] at this; omega
     have o2 : (acy b g)[k + n]'(by omega) ≤ e := by
      obtain ⟨hel, hee⟩ := List.getElem?_eq_some_iff.1 he
      have := (List.pairwise_iff_getElem.1 (asu b g)) (k + n) (k + (n + 1)) (by omega) hel (by omega)
      rw [hee] at this; omega
     have := ayL h g o1 o2
     omega
  have any : ∀ d e, d ∈ acy b g → e ∈ acy b g → d ≤ e → p (aeE b g.1 e) ≤ p (aeE b g.1 d) ∧ p (aeE b g.1 d) ≤ p (aeE b g.1 e) + agV b g d e := by
   intro d e hd he hde
   obtain ⟨k, hk, rfl⟩ := List.mem_iff_getElem.1 hd
   obtain ⟨m, hm, rfl⟩ := List.mem_iff_getElem.1 he
   have hkm : k ≤ m := by
    rcases Nat.lt_or_ge m k with hlt | hge
    ·have := (List.pairwise_iff_getElem.1 (asu b g)) m k hm hk hlt; omega
    ·exact hge
   exact pair (m - k) k _ _ (List.getElem?_eq_getElem hk) (by rw [show k + (m - k) = m by omega]; exact List.getElem?_eq_getElem hm)
  exact ⟨by rw [h0]; omega, by rw [h0]; omega, fun d e hd he hde => (any d e hd he hde).1, fun d e hd he hde => (any d e hd he hde).2⟩
 ·intro hf l hl
  rcases (adG h hg).1 hl with rfl | rfl | ⟨k, d, e, hd, he, rfl | rfl⟩
  ·have := hf.hi; rw [h0] at this; simp only; omega
  ·have := hf.lo; rw [h0] at this; simp only; omega
  ·have hde : d ≤ e := by
    obtain ⟨a1, a2⟩ := List.getElem?_eq_some_iff.1 hd
    obtain ⟨a3, a4⟩ := List.getElem?_eq_some_iff.1 he
    have := (List.pairwise_iff_getElem.1 (asu b g)) k (k + 1) a1 a3 (by omega)
    rw [a2, a4] at this; omega
   have := hf.down d e (List.mem_of_getElem? hd) (List.mem_of_getElem? he) hde
   rw [akx h hg hd, akx h hg he] at this
   have e3 : (off b i : Int) + ((k + 1 : Nat) : Int) + 1 = (off b i : Int) + k + 2 := by omega
   rw [e3] at this
   simp only
   omega
  ·have hde : d ≤ e := by
    obtain ⟨a1, a2⟩ := List.getElem?_eq_some_iff.1 hd
    obtain ⟨a3, a4⟩ := List.getElem?_eq_some_iff.1 he
    have := (List.pairwise_iff_getElem.1 (asu b g)) k (k + 1) a1 a3 (by omega)
    rw [a2, a4] at this; omega
   have := hf.loss d e (List.mem_of_getElem? hd) (List.mem_of_getElem? he) hde
   rw [akx h hg hd, akx h hg he] at this
   have e3 : (off b i : Int) + ((k + 1 : Nat) : Int) + 1 = (off b i : Int) + k + 2 := by omega
   rw [e3] at this
   simp only
   exact this
theorem aE4 (h : ado b) {p : Int → Int} : Pot (acs b) p ↔ (∀ g ∈ b.2.1, akp b p g) ∧ ∀ c ∈ b.2.2.2.2.1, p (cx b c) ≤ p (cy b c) + (ad3 b c).2 ∧ p (cy b c) + (ad3 b c).1 ≤ p (cx b c) := by
 constructor
 ·intro hp
  refine ⟨fun g hg => ?_, fun c hc => ?_⟩
  ·obtain ⟨i, hi, rfl⟩ := List.mem_iff_getElem.1 hg
   exact (ajv h (List.getElem?_eq_getElem hi)).1 fun l hl => hp l.1 l.2.1 l.2.2 (ajJ.2 (.inl ⟨i, _, List.getElem?_eq_getElem hi, hl⟩))
  ·have a1 := hp _ _ _ (ajJ.2 (.inr ⟨c, hc, .inl rfl⟩))
   have a2 := hp _ _ _ (ajJ.2 (.inr ⟨c, hc, .inr rfl⟩))
   omega
 ·rintro ⟨hg, hc⟩ u v m hl
  rcases ajJ.1 hl with ⟨i, g, hig, hl⟩ | ⟨c, hcm, hl⟩
  ·exact (ajv h hig).2 (hg g (List.mem_of_getElem? hig)) (u, v, m) hl
  ·obtain ⟨a1, a2⟩ := hc c hcm
   rcases hl with hl | hl
   ·obtain ⟨rfl, rfl, rfl⟩ : u = cy b c ∧ v = cx b c ∧ m = (ad3 b c).2 := by simpa using hl
    exact a1
   ·obtain ⟨rfl, rfl, rfl⟩ : u = cx b c ∧ v = cy b c ∧ m = -(ad3 b c).1 := by simpa using hl
    omega
end
end Go.Proofs.ZzM
end
noncomputable section
namespace Go.Proofs.ZzM
open Go Go.Am
def aSK : List Int → Int
 | [] => 0
 | [a] => a
 | a :: b :: t => max a (aSK (b :: t))
theorem aIi : ∀ {l : List Int}, l ≠ [] → (∀ a ∈ l, a ≤ aSK l) ∧ aSK l ∈ l
 | [], h => absurd rfl h
 | [a], _ => ⟨fun x hx => by rw [List.mem_singleton] at hx; rw [hx]; exact Int.le_refl _, by simp [aSK]⟩
 | a :: b :: t, _ => by
   obtain ⟨h1, h2⟩ := aIi (l := b :: t) (by simp)
   have e : aSK (a :: b :: t) = max a (aSK (b :: t)) := rfl
   rw [e]
   constructor
   ·intro x hx
    rcases List.mem_cons.1 hx with rfl | hx
    ·omega
    ·have := h1 x hx; omega
   ·rcases Int.le_total a (aSK (b :: t)) with h | h
    ·rw [Int.max_eq_right h]; exact List.mem_cons_of_mem _ h2
    ·rw [Int.max_eq_left h]; exact List.mem_cons_self
section
variable {b : acv}
def azj (b : acv) (f : Int → Int → Int) (z : Int) (v : Int) : Int := if v = 0 then z else match (acg b)[(v - 1).toNat]? with | some n => f n.1 n.2 | none => 0
theorem aix (f : Int → Int → Int) (z : Int) : azj b f z 0 = z := by unfold azj; rw [if_pos rfl]
theorem aor (h : ado b) (f : Int → Int → Int) (z : Int) {g : acS} (hg : g ∈ b.2.1) {d : Int} (hd : d ∈ acy b g) : azj b f z (aeE b g.1 d) = f g.1 d := by
 obtain ⟨i, hi, rfl⟩ := List.mem_iff_getElem.1 hg
 obtain ⟨k, hk, rfl⟩ := List.mem_iff_getElem.1 hd
 have hgi := List.getElem?_eq_getElem hi
 have hdk := List.getElem?_eq_getElem hk
 rw [akx h hgi hdk]
 unfold azj
 have e : ((off b i : Int) + k + 1 - 1).toNat = off b i + k := by omega
 rw [if_neg (by omega), e, aRF hgi hdk]
def ayp (b : acv) (l : List Int) (d : Int) : Int := match l with | [] => 0 | x :: _ => aeE b x d
theorem aNd (l : List Int) (d : Int) : atP (acg b) l d = ayp b l d := by
 unfold atP ayp aeE
 cases l <;> rfl
theorem awy (c : Cmp) : cx b c = ayp b (adb c.2.2.1 c.2.2.2.1) c.2.1 := aNd _ _
theorem awx (c : Cmp) : cy b c = ayp b (adb c.2.2.2.1 c.2.2.1) c.2.1 := aNd _ _
theorem aju (h : ado b) {c : Cmp} (hc : c ∈ b.2.2.2.2.1) {x : Int} (hx : x ∈ adb c.2.2.1 c.2.2.2.1 ∨ x ∈ adb c.2.2.2.1 c.2.2.1) : ∃ g ∈ b.2.1, g.1 = x ∧ c.2.1 ∈ acy b g := by
 have hx' : (x ∈ c.2.2.1 ∧ x ∉ c.2.2.2.1) ∨ (x ∈ c.2.2.2.1 ∧ x ∉ c.2.2.1) := by
  rcases hx with hx | hx
  ·exact .inl (aiO.1 hx)
  ·exact .inr (aiO.1 hx)
 have hm : x ∈ c.2.2.1 ++ c.2.2.2.1 := by rw [List.mem_append]; exact hx'.imp (·.1) (·.1)
 obtain ⟨⟨g, hg, _⟩, _⟩ := h.pile hc hm
 obtain ⟨hgm, hid⟩ := ak2 hg
 refine ⟨g, hgm, hid, aiW.2 (.inr (.inl ⟨c, hc, ?_, rfl⟩))⟩
 rw [hid]
 intro he
 rw [Bool.eq_iff_iff, List.contains_iff_mem, List.contains_iff_mem] at he
 rcases hx' with ⟨a, e⟩ | ⟨a, e⟩
 ·exact e (he.1 a)
 ·exact e (he.2 a)
def fill (b : acv) (p : Int → Int) (g : acS) (d : Int) : Int := aSK ((acy b g).map fun e => if d ≤ e then p (aeE b g.1 e) else p (aeE b g.1 e) - agV b g e d)
theorem aBl {p : Int → Int} {g : acS} (d : Int) : (∀ e ∈ acy b g, (if d ≤ e then p (aeE b g.1 e) else p (aeE b g.1 e) - agV b g e d) ≤ fill b p g d) ∧ ∃ e ∈ acy b g, fill b p g d = if d ≤ e then p (aeE b g.1 e) else p (aeE b g.1 e) - agV b g e d := by
 have hne : ((acy b g).map fun e => if d ≤ e then p (aeE b g.1 e) else p (aeE b g.1 e) - agV b g e d) ≠ [] := by
  intro h
  have := List.map_eq_nil_iff.1 h
  have h2 := aiv (b := b) g
  rw [this] at h2
  cases h2
 obtain ⟨h1, h2⟩ := aIi hne
 refine ⟨fun e he => h1 _ (List.mem_map.2 ⟨e, he, rfl⟩), ?_⟩
 obtain ⟨e, he, hx⟩ := List.mem_map.1 h2
 exact ⟨e, he, hx.symm⟩
theorem ayP (h : ado b) {p : Int → Int} {g : acS} (hg : g ∈ b.2.1) (hf : akp b p g) {d : Int} (hd : d ∈ acy b g) : fill b p g d = p (aeE b g.1 d) := by
 obtain ⟨h1, e, he, h2⟩ := aBl (b := b) (p := p) (g := g) d
 have h3 := h1 d hd
 rw [if_pos (Int.le_refl _)] at h3
 have h4 : fill b p g d ≤ p (aeE b g.1 d) := by
  rw [h2]
  split
  ·rename_i hde
   exact hf.down d e hd he hde
  ·rename_i hde
   have := hf.loss e d he hd (by omega)
   omega
 omega
theorem auM (h : ado b) {p : Int → Int} {g : acS} (hg : g ∈ b.2.1) (hf : akp b p g) {d e : Int} (h0 : g.2.1 ≤ d) (hde : d ≤ e) : fill b p g e ≤ fill b p g d ∧ fill b p g d ≤ fill b p g e + agV b g d e := by
 obtain ⟨a1, x, hx, a2⟩ := aBl (b := b) (p := p) (g := g) d
 obtain ⟨b1, y, hy, b2⟩ := aBl (b := b) (p := p) (g := g) e
 have hm := (h.gaugeR hg).2.2.2.2.1
 have hl := asg h hg (f := d) (t := e) (by omega)
 have dx := h.day hg hx
 have dy := h.day hg hy
 constructor
 ·have q := a1 y hy
  rw [b2]
  by_cases c1 : e ≤ y
  ·rw [if_pos c1]
   rw [if_pos (by omega)] at q
   exact q
  ·rw [if_neg c1]
   by_cases c2 : d ≤ y
   ·rw [if_pos c2] at q
    have := asg h hg (f := y) (t := e) dy.2.1
    omega
   ·rw [if_neg c2] at q
    have := ayL h g (f := y) (t := d) (u := e) (by omega) hde
    omega
 ·have q := b1 x hx
  rw [a2]
  by_cases c1 : d ≤ x
  ·rw [if_pos c1]
   by_cases c2 : e ≤ x
   ·rw [if_pos c2] at q
    omega
   ·rw [if_neg c2] at q
    have := ayL h g (f := d) (t := x) (u := e) c1 (by omega)
    have := asg h hg (f := d) (t := x) (by omega)
    omega
  ·rw [if_neg c1]
   rw [if_neg (by omega)] at q
   have := ayL h g (f := x) (t := d) (u := e) (by omega) hde
   omega
end
end Go.Proofs.ZzM
end
noncomputable section
namespace Go.Proofs.ZzM
open Go Go.Am
section
variable {b : acv} {c : Cmp}
theorem aBb : acF (acn b c) = (acn b c).2.1.flatMap (ac6 (acn b c)) ++ b.2.2.2.2.1.flatMap (acU (acn b c)) := by
 unfold acF
 have e : acs (acn b c) = ((acn b c).2.1.flatMap (ac6 (acn b c)) ++ b.2.2.2.2.1.flatMap (acU (acn b c))) ++ acU (acn b c) c := by
  unfold acs
  rw [show (acn b c).2.2.2.2.1 = b.2.2.2.2.1 ++ [c] from rfl, List.flatMap_append, List.append_assoc]
  simp
 rw [e, List.length_append, show (acU (acn b c) c).length = 2 from rfl, Nat.add_sub_cancel, List.take_left]
theorem ayO (h' : ado (acn b c)) {p : Int → Int} : Pot (acF (acn b c)) p ↔ (∀ g ∈ b.2.1, akp (acn b c) p g) ∧ ∀ d ∈ b.2.2.2.2.1, p (cx (acn b c) d) ≤ p (cy (acn b c) d) + (ad3 b d).2 ∧ p (cy (acn b c) d) + (ad3 b d).1 ≤ p (cx (acn b c) d) := by
 rw [aBb]
 constructor
 ·intro hp
  refine ⟨fun g hg => ?_, fun d hd => ?_⟩
  ·obtain ⟨i, hi, rfl⟩ := List.mem_iff_getElem.1 hg
   exact (ajv h' (i := i) (List.getElem?_eq_getElem hi)).1 fun l hl => hp l.1 l.2.1 l.2.2 (List.mem_append.2 (.inl (List.mem_flatMap.2 ⟨_, List.getElem_mem hi, hl⟩)))
  ·have a1 := hp (cy (acn b c) d) (cx (acn b c) d) (ad3 (acn b c) d).2 (List.mem_append.2 (.inr (List.mem_flatMap.2 ⟨d, hd, by simp [acU]⟩)))
   have a2 := hp (cx (acn b c) d) (cy (acn b c) d) (-(ad3 (acn b c) d).1) (List.mem_append.2 (.inr (List.mem_flatMap.2 ⟨d, hd, by simp [acU]⟩)))
   have e : ad3 (acn b c) d = ad3 b d := rfl
   rw [e] at a1 a2
   omega
 ·rintro ⟨hg, hc⟩ u v m hl
  rcases List.mem_append.1 hl with hl | hl
  ·obtain ⟨g, hgm, hl⟩ := List.mem_flatMap.1 hl
   obtain ⟨i, hi, rfl⟩ := List.mem_iff_getElem.1 hgm
   exact (ajv h' (i := i) (List.getElem?_eq_getElem hi)).2 (hg _ hgm) (u, v, m) hl
  ·obtain ⟨d, hd, hl⟩ := List.mem_flatMap.1 hl
   obtain ⟨a1, a2⟩ := hc d hd
   have e : ad3 (acn b c) d = ad3 b d := rfl
   simp only [acU, List.mem_cons, List.not_mem_nil, or_false, e] at hl
   rcases hl with hl | hl
   ·obtain ⟨rfl, rfl, rfl⟩ : u = cy (acn b c) d ∧ v = cx (acn b c) d ∧ m = (ad3 b d).2 := by simpa using hl
    exact a1
   ·obtain ⟨rfl, rfl, rfl⟩ : u = cx (acn b c) d ∧ v = cy (acn b c) d ∧ m = -(ad3 b d).1 := by simpa using hl
    omega
theorem aiV {g : acS} {d : Int} (hd : d ∈ acy b g) : d ∈ acy (acn b c) g := by
 rcases aiW.1 hd with e | ⟨x, hx, h1, h2⟩ | hn
 ·exact aiW.2 (.inl e)
 ·exact aiW.2 (.inr (.inl ⟨x, List.mem_append.2 (.inl hx), h1, h2⟩))
 ·exact aiW.2 (.inr (.inr hn))
theorem aPG (g : acS) (f t : Int) : agV (acn b c) g f t = agV b g f t := rfl
theorem awF {b' : acv} (h' : ado b') {l : List Int} {day : Int} (f : Int → Int → Int) (z : Int) (hl : ∀ x ∈ l, ∃ g ∈ b'.2.1, g.1 = x ∧ day ∈ acy b' g) : azj b' f z (ayp b' l day) = match l with | [] => z | x :: _ => f x day := by
 unfold ayp
 cases l with
 | nil => exact aix f z
 | cons x t =>
   obtain ⟨g, hg, rfl, hd⟩ := hl x (by simp)
   exact aor h' f z hg hd
theorem aPi (h : ado b) (h' : ado (acn b c)) : (∃ p, Pot (acs b) p) ↔ ∃ p, Pot (acF (acn b c)) p := by
 constructor
 ·rintro ⟨p, hp⟩
  obtain ⟨hg, hc⟩ := (aE4 h).1 hp
  let f : Int → Int → Int := fun id d => match ahy b id with | some g => fill b p g d | none => 0
  have hfv : ∀ g ∈ b.2.1, ∀ d, f g.1 d = fill b p g d := fun g hgm d => by
   show (match ahy b g.1 with | some g => fill b p g d | none => 0) = _
   rw [asl h.ids hgm]
  have hq : ∀ g ∈ b.2.1, ∀ d ∈ acy (acn b c) g, azj (acn b c) f (p 0) (aeE (acn b c) g.1 d) = fill b p g d := fun g hgm d hd => by
   rw [aor h' f (p 0) hgm hd, hfv g hgm d]
  refine ⟨azj (acn b c) f (p 0), (ayO h').2 ⟨fun g hgm => ?_, fun d hd => ?_⟩⟩
  ·have gf := hg g hgm
   have hmade : g.2.1 ∈ acy b g := aiv g
   have e0 := hq g hgm g.2.1 (aiv g)
   rw [ayP h hgm gf hmade] at e0
   refine ⟨?_, ?_, fun x y hx hy hxy => ?_, fun x y hx hy hxy => ?_⟩
   ·rw [e0, aix]; exact gf.hi
   ·rw [e0, aix]; exact gf.lo
   ·rw [hq g hgm x hx, hq g hgm y hy]
    exact (auM h hgm gf (h'.day hgm hx).1 hxy).1
   ·rw [hq g hgm x hx, hq g hgm y hy, aPG]
    exact (auM h hgm gf (h'.day hgm hx).1 hxy).2
  ·have key : ∀ l : List Int, (∀ x ∈ l, ∃ g ∈ b.2.1, g.1 = x ∧ d.2.1 ∈ acy b g) → azj (acn b c) f (p 0) (ayp (acn b c) l d.2.1) = p (ayp b l d.2.1) := by
    intro l hl
    rw [awF h' f (p 0) (fun x hx => by obtain ⟨g, q1, q2, q3⟩ := hl x hx; exact ⟨g, q1, q2, aiV q3⟩)]
    cases l with
    | nil => rfl
    | cons x t =>
      obtain ⟨g, q1, rfl, q3⟩ := hl x (by simp)
      show f g.1 d.2.1 = p (aeE b g.1 d.2.1)
      rw [hfv g q1, ayP h q1 (hg g q1) q3]
   rw [awy, awx, key _ (fun x hx => aju h hd (.inl hx)), key _ (fun x hx => aju h hd (.inr hx)), ← awy, ← awx]
   exact hc d hd
 ·rintro ⟨p, hp⟩
  obtain ⟨hg, hc⟩ := (ayO h').1 hp
  let f : Int → Int → Int := fun id d => p (aeE (acn b c) id d)
  have hq : ∀ g ∈ b.2.1, ∀ d ∈ acy b g, azj b f (p 0) (aeE b g.1 d) = p (aeE (acn b c) g.1 d) := fun g hgm d hd => aor h f (p 0) hgm hd
  refine ⟨azj b f (p 0), (aE4 h).2 ⟨fun g hgm => ?_, fun d hd => ?_⟩⟩
  ·have gf := hg g hgm
   have e0 := hq g hgm g.2.1 (aiv g)
   refine ⟨?_, ?_, fun x y hx hy hxy => ?_, fun x y hx hy hxy => ?_⟩
   ·rw [e0, aix]; exact gf.hi
   ·rw [e0, aix]; exact gf.lo
   ·rw [hq g hgm x hx, hq g hgm y hy]
    exact gf.down x y (aiV hx) (aiV hy) hxy
   ·rw [hq g hgm x hx, hq g hgm y hy]
    exact gf.loss x y (aiV hx) (aiV hy) hxy
  ·have key : ∀ l : List Int, (∀ x ∈ l, ∃ g ∈ b.2.1, g.1 = x ∧ d.2.1 ∈ acy b g) → azj b f (p 0) (ayp b l d.2.1) = p (ayp (acn b c) l d.2.1) := by
    intro l hl
    rw [awF h f (p 0) hl]
    cases l <;> rfl
   rw [awy, awx, key _ (fun x hx => aju h hd (.inl hx)), key _ (fun x hx => aju h hd (.inr hx)), ← awy, ← awx]
   exact hc d hd
end
end Go.Proofs.ZzM
end
noncomputable section
namespace Go.Proofs.ZzM
open Go Go.Am
section
variable {L : List Lk} {N : Nat}
theorem Wl.app {u v : Int} {vs : List Int} {d : Int} (h1 : Wl L (fun x => x = u) vs v d) {ws : List Int} {w e : Int} (h2 : Wl L (fun x => x = v) ws w e) : ∃ xs, Wl L (fun x => x = u) xs w (d + e) := by
 induction h2 with
 | nil h => subst h; exact ⟨vs, by rw [Int.add_zero]; exact h1⟩
 | step hw hx ih =>
   obtain ⟨xs, hi⟩ := ih
   have := Wl.step hi hx
   rw [Int.add_assoc] at this
   exact ⟨_, this⟩
def dst (L : List Lk) (N : Nat) (s t : Int) : Int := gv (alG L N s) t
theorem aQj (h : afu L N) (ht : au5 L N) (ho : adF L N = true) {s t : Int} (hs : 0 ≤ s ∧ s < N) (hv : 0 ≤ t ∧ t < N) : dst L N s t ≤ 9007199254740992 := by
 have h2 := h.n60
 obtain ⟨p, hp⟩ := (aeD h.links (by omega)).1 ho
 obtain ⟨vs, d, hw, hd⟩ := ht.from' s hs.1 hs.2
 obtain ⟨ws, e, hx, he⟩ := ht.to t hv.1 hv.2
 obtain ⟨xs, hy⟩ := Wl.app hw hx
 have := (agi h.links (by omega) hp hs).low t xs _ (aH9.2 hy)
 unfold dst
 omega
theorem aMY (h : afu L N) (ht : au5 L N) (ho : adF L N = true) {s t : Int} (hs : 0 ≤ s ∧ s < N) (hv : 0 ≤ t ∧ t < N) : dst L N s t ≠ afx := by
 have := aQj h ht ho hs hv
 unfold afx
 omega
theorem aQi (h : afu L N) (ht : au5 L N) (ho : adF L N = true) {s : Int} (hs : 0 ≤ s ∧ s < N) : Pot L (dst L N s) := by
 have h2 := h.n60
 obtain ⟨p, hp⟩ := (aeD h.links (by omega)).1 ho
 intro u v m hl
 have hr := h.inr _ hl
 exact (agi h.links (by omega) hp hs).pot h.inr hl (aMY h ht ho hs hr.1)
theorem aMX (h : afu L N) (ho : adF L N = true) {s : Int} (hs : 0 ≤ s ∧ s < N) : dst L N s s = 0 := aLO h ho hs.1 hs.2
theorem ass (h : afu L N) (ht : au5 L N) (ho : adF L N = true) {s t : Int} (hs : 0 ≤ s ∧ s < N) (hv : 0 ≤ t ∧ t < N) {p : Int → Int} (hp : Pot L p) : p t - p s ≤ dst L N s t := by
 have h2 := h.n60
 obtain ⟨vs, hw⟩ := (agi h.links (by omega) hp hs).att t hv.1 hv.2 (aMY h ht ho hs hv)
 obtain ⟨u, hu, hx⟩ := (aH9.1 hw).pot hp
 subst hu
 exact hx
theorem aQk (h : afu L N) (ht : au5 L N) (ho : adF L N = true) {x y : Int} (hx : 0 ≤ x ∧ x < N) (hy : 0 ≤ y ∧ y < N) {t : Int} (h1 : -(dst L N x y) ≤ t) (h2 : t ≤ dst L N y x) : ∃ p, Pot L p ∧ p x - p y = t := by
 refine ⟨fun v => min (dst L N y v) (dst L N x v + t), fun u v m hl => ?_, ?_⟩
 ·have a1 := aQi h ht ho hy u v m hl
  have a2 := aQi h ht ho hx u v m hl
  show min _ _ ≤ min _ _ + m
  omega
 ·have e1 := aMX h ho hx
  have e2 := aMX h ho hy
  show min (dst L N y x) (dst L N x x + t) - min (dst L N y y) (dst L N x y + t) = t
  omega
theorem aBw (h : afu L N) (ht : au5 L N) (ho : adF L N = true) {x y : Int} (hx : 0 ≤ x ∧ x < N) (hy : 0 ≤ y ∧ y < N) : -(dst L N x y) ≤ dst L N y x := by
 have h2 := h.n60
 obtain ⟨p, hp⟩ := (aeD h.links (by omega)).1 ho
 have a1 := ass h ht ho hx hy hp
 have a2 := ass h ht ho hy hx hp
 omega
theorem aMZ (h : afu L N) (ht : au5 L N) (ho : adF L N = true) {s t : Int} (hs : 0 ≤ s ∧ s < N) (hv : 0 ≤ t ∧ t < N) : -9007199254740992 ≤ dst L N s t ∧ dst L N s t ≤ 9007199254740992 := by
 have a1 := aQj h ht ho hs hv
 have a2 := aQj h ht ho hv hs
 have a3 := aBw h ht ho hv hs
 omega
theorem aqn (h : afu L N) (ht : au5 L N) {s t : Int} (hs : 0 ≤ s ∧ s < N) (hv : 0 ≤ t ∧ t < N) : afv L N s t = if adF L N then (dst L N s t, 0) else (0, 9) := by
 unfold afv
 by_cases ho : adF L N = true
 ·have hne := aMY h ht ho hs hv
  unfold dst at hne ⊢
  rw [if_neg (by simp [ho]), if_neg hne, if_pos ho]
 ·rw [if_pos (by simpa using ho), if_neg ho]
end
section
variable {b : acv} {c : Cmp}
theorem aTw (h' : ado (acn b c)) : GL (acn b c) (acF (acn b c)) := by
 intro i g hg l hl
 rw [aBb]
 exact List.mem_append.2 (.inl (List.mem_flatMap.2 ⟨g, List.mem_of_getElem? hg, hl⟩))
theorem afR (h' : ado (acn b c)) : au5 (acF (acn b c)) ((acg (acn b c)).length + 1) := h'.tiedL (aTw h')
theorem afK (h' : ado (acn b c)) : afu (acF (acn b c)) ((acg (acn b c)).length + 1) :=
 h'.sys.sub (fun l hl => List.mem_of_mem_take hl) (by unfold acF; rw [List.length_take]; omega)
theorem ahw (h : ado b) (h' : ado (acn b c)) : adF (acF (acn b c)) ((acg (acn b c)).length + 1) = adF (acs b) ((acg b).length + 1) := by
 have n1 := h.sys.n60
 have n2 := (afK h').n60
 rw [Bool.eq_iff_iff, aeD (afK h').links (by omega), aeD h.sys.links (by omega)]
 exact (aPi h h').symm
theorem ajp : c ∈ (acn b c).2.2.2.2.1 := by simp [acn]
theorem aob (h' : ado (acn b c)) : 0 ≤ cx (acn b c) c ∧ cx (acn b c) c < ((acg (acn b c)).length + 1 : Nat) := (aGX h' ajp).rng
theorem aoa (h' : ado (acn b c)) : 0 ≤ cy (acn b c) c ∧ cy (acn b c) c < ((acg (acn b c)).length + 1 : Nat) := (aBA h' ajp).rng
def dLo (b : acv) (c : Cmp) : Int := -(dst (acF (acn b c)) ((acg (acn b c)).length + 1) (cx (acn b c) c) (cy (acn b c) c))
def dHi (b : acv) (c : Cmp) : Int := dst (acF (acn b c)) ((acg (acn b c)).length + 1) (cy (acn b c) c) (cx (acn b c) c)
theorem aB2 (h : ado b) (h' : ado (acn b (ab7 c))) : acw b c = if adF (acs b) ((acg b).length + 1) then ay9 b (ab7 c) (dLo b (ab7 c), dHi b (ab7 c)) else ((0, 0), 9) := by
 have e : aoi b (ab7 c) = (acn b (ab7 c), 0) := by
  unfold aoi
  rw [if_neg (by simp [(acr b).2 h]), if_neg (by simp [(acr _).2 h'])]
 unfold acw
 rw [e, aqn (afK h') (afR h') (aoa h') (aob h'), aqn (afK h') (afR h') (aob h') (aoa h'), ahw h h']
 by_cases ho : adF (acs b) ((acg b).length + 1) = true
 ·rw [if_pos ho, if_pos ho, if_pos ho]
  rfl
 ·rw [if_neg ho, if_neg ho, if_neg ho]
  rfl
theorem agr (hp : (acw b c).2 = 0) : ado b ∧ ado (acn b (ab7 c)) := by
 have hw : (aoi b (ab7 c)).2 = 0 := by
  unfold acw at hp
  by_cases hw : (aoi b (ab7 c)).2 = 0
  ·exact hw
  ·rw [if_pos hw] at hp; exact hp
 unfold aoi at hw
 by_cases hb : acz b = 0
 ·rw [if_neg (by simp [hb])] at hw
  by_cases hm : acz (acn b (ab7 c)) = 0
  ·exact ⟨(acr b).1 hb, (acr _).1 hm⟩
  ·rw [if_pos hm] at hw; exact absurd hw hm
 ·rw [if_pos hb] at hw; exact absurd hw hb
theorem aKr {s : Int × Int} (h : (ay9 b c s).2 = 0) : awe b c ≤ aid b c ∧ ay9 b c s = ((s.1 + awe b c, s.2 + aid b c), 0) := by
 unfold ay9 at h ⊢
 split at h
 ·simp at h
 ·rename_i hl
  rw [if_neg hl]
  exact ⟨by omega, rfl⟩
end
end Go.Proofs.ZzM
end