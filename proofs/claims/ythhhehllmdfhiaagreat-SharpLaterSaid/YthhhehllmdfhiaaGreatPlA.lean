/- lemmas -/
import Derived.Test.YthhhehllmdfhiaaGreatAmF
import Derived.Test.YthhhehllmdfhiaaGreatMdTA
set_option linter.all false
set_option linter.unusedSectionVars false
set_option linter.unusedVariables false
set_option linter.unusedSimpArgs false
noncomputable section
namespace Go.Am
section
variable {ρ : Type}
def fk {α β : Type} (e : Nat → α → Option β) : Nat → List α → Option β
 | _, [] => none
 | i, a :: t => match e i a with
   | some b => some b
   | none => fk e (i + 1) t
theorem pQ {α β : Type} (l : List α) (e : Nat → α → Option β) (k0 : β → Option ρ) (k1 : Option ρ) {f : Int → (Int → Option ρ) → Option ρ}
 (h : ∀ (i : Nat) (a : α), i < l.length → l[i]? = some a → ∀ kn, f i kn = match e i a with | some b => k0 b | none => kn ((i : Int) + 1))
 (hn : ∀ kn, f l.length kn = k1) : bt f 0 = match fk e 0 l with | some b => k0 b | none => k1 := by
 refine WK l (fun i t => match fk e i t with | some b => k0 b | none => k1) hn fun i a t hd hi ha kn hk => ?_
 rw [h i a hi ha kn, hk, fk]
 cases e i a <;> rfl
theorem cD {α σ : Type} (l : List α) (g : Nat → σ) (r : Option ρ) {f : Int × σ → (Int × σ → Option ρ) → Option ρ} {s0 : σ} (h0 : g 0 = s0)
 (h : ∀ (i : Nat) (a : α), i < l.length → l[i]? = some a → ∀ kn, f (i, g i) kn = kn ((i : Int) + 1, g (i + 1)))
 (hn : ∀ kn, f (l.length, g l.length) kn = r) : bt f (0, s0) = r := by
 subst h0
 have hs : ∀ s, (s = g 0) → bt f (0, s) = r := fun s e => Nw l (fun _ _ _ => r) (fun i s => s = g i) (fun s hs kn => by rw [hs]; exact hn kn) (fun i a t s hd hi ha hI kn hk => by
  rw [hI, h i a hi ha kn]; exact hk _ rfl) e
 exact hs _ rfl
theorem br {i n : Nat} (h : i < n) (hn : n ≤ 1000000000) (f : Int → Option ρ) : ck ((i : Int) + 1) f = f ((i : Int) + 1) := bz (by omega) (by omega) f
theorem ifb_lt {i n : Nat} (h : i < n) (x y : Option ρ) : ifb (ilt (i : Int) (Yl n)) x y = x := by simp [dp, FT, h]
theorem bU (n : Nat) (x y : Option ρ) : ifb (ilt (n : Int) (Yl n)) x y = y := by simp [dp, FT]
theorem bv {α : Type} {l : List α} {i : Nat} (h : i < l.length) (x y : Option ρ) : ifb (ilt (i : Int) (bE l)) x y = x := ifb_lt h x y
theorem HJ {α : Type} (p : α → Bool) : ∀ (i : Nat) (l : List α), fk (fun i a => bif p a then some (i : Int) else none) i l = (l.findIdx? p).map fun j => ((i + j : Nat) : Int)
 | _, [] => rfl
 | i, a :: t => by
   simp only [fk, List.findIdx?_cons]
   cases hp : p a with
   | true => simp
   | false =>
     simp only [cond_false, Bool.false_eq_true, if_false]
     rw [HJ p (i + 1) t]
     cases t.findIdx? p with
     | none => rfl
     | some j => simp only [Option.map_some]; congr 1; omega
theorem kw {α β : Type} {e : Nat → α → Option β} : ∀ {i : Nat} {l : List α}, fk e i l = none ↔ ∀ j a, l[j]? = some a → e (i + j) a = none
 | _, [] => by simp [fk]
 | i, a :: t => by
   simp only [fk]
   constructor
   ·intro h j b hb
    cases he : e i a with
    | some c => rw [he] at h; cases h
    | none =>
      rw [he] at h
      cases j with
      | zero => simp at hb; subst hb; simpa using he
      | succ j => have := (kw.1 h) j b (by simpa using hb); rw [← this]; congr 1; omega
   ·intro h
    have h0 := h 0 a (by simp)
    simp only [Nat.add_zero] at h0
    rw [h0]
    exact kw.2 fun j b hb => by have := h (j + 1) b (by simpa using hb); rw [← this]; congr 1; omega
theorem take_succ {α : Type} {l : List α} {i : Nat} {a : α} (h : l[i]? = some a) : l.take (i + 1) = l.take i ++ [a] := by rw [List.take_succ, h]; rfl
end
end Go.Am
end
noncomputable section
namespace Go.Proofs.ZzM
open Go Go.Am
section
variable {ρ : Type}
theorem gW {τ : Type} {f : τ → (τ → Option ρ) → Option ρ} {r : Option ρ} (I : τ → Prop) (μ : τ → Nat)
 (h : ∀ x, I x → (∀ kn, f x kn = r) ∨ ∃ y, I y ∧ μ y < μ x ∧ ∀ kn, f x kn = kn y) {x : τ} (hx : I x) : bt f x = r :=
 pR (F := fun _ => r) I μ (fun x hx kn hk => by
  rcases h x hx with h1 | ⟨y, h1, h2, h3⟩
  ·exact h1 kn
  ·rw [h3, hk y h1 h2]) hx
theorem hO {α : Type} (l : List α) (p : α → Bool) (k0 : Int → Option ρ) (k1 : Option ρ) {f : Int → (Int → Option ρ) → Option ρ}
 (h : ∀ (i : Nat) (a : α), i < l.length → l[i]? = some a → ∀ kn, f i kn = if p a then k0 i else kn ((i : Int) + 1))
 (hn : ∀ kn, f l.length kn = k1) : bt f 0 = match l.findIdx? p with | some j => k0 j | none => k1 := by
 rw [pQ l (fun i a => bif p a then some (i : Int) else none) k0 k1 (fun i a hi ha kn => by rw [h i a hi ha kn]; cases p a <;> rfl) hn, HJ]
 cases l.findIdx? p with
 | none => rfl
 | some j => simp
theorem ip {α : Type} (l : List α) (p : α → Bool) (k0 : Int → Option ρ) (K k1 : Option ρ) {f : Int → (Int → Option ρ) → Option ρ} (hK : ∀ j : Nat, k0 j = K)
 (h : ∀ (i : Nat) (a : α), i < l.length → l[i]? = some a → ∀ kn, f i kn = if p a then k0 i else kn ((i : Int) + 1))
 (hn : ∀ kn, f l.length kn = k1) : bt f 0 = if l.any p then K else k1 := by
 rw [hO l p k0 k1 h hn]
 cases hf : l.findIdx? p with
 | none =>
   have : l.any p = false := by
    rw [List.any_eq_false]
    intro x hx
    have := List.findIdx?_eq_none_iff.1 hf x hx
    simp [this]
   simp [this]
 | some j =>
   have : l.any p = true := by
    have := List.findIdx?_eq_some_iff_getElem.1 hf
    obtain ⟨hj, hp, _⟩ := this
    exact List.any_eq_true.2 ⟨_, List.getElem_mem hj, hp⟩
   simp [this, hK]
end
abbrev b9 : Type := Int × Int × Int × (Int × Int) × ((Int × Int) × Int)
abbrev Ix : Type := Int × ((Int × Int) × Int)
abbrev Cmp : Type := Int × Int × List Int × List Int × Int × (Int × (Int × Int))
abbrev bH : Type := (Int × Int) × List b9 × List (Int × Int) × List Ix × List Cmp × List (Int × Int)
abbrev Sys : Type := Int × List (Int × Int × Int)
abbrev Maker : Type := bH × List (Int × Int) × Sys × List (Int × Int)
section
variable {ρ : Type}
theorem bI {b : Bool} (h : b = true) (x y : Option ρ) : ifb b x y = x := by rw [h]; rfl
theorem bu {b : Bool} (h : b = false) (x y : Option ρ) : ifb b x y = y := by rw [h]; rfl
end
def I64 (n : Int) : Prop := -9223372036854775808 ≤ n ∧ n ≤ 9223372036854775807
def inP (n lo hi : Int) : Bool := decide (lo ≤ n) && decide (n ≤ hi)
def NL (n : Int) : Bool := inP n 0 20000
def nv (s : Int × Int) (lo hi : Int) : Bool := decide (lo ≤ s.1) && (decide (s.1 ≤ s.2) && decide (s.2 ≤ hi))
theorem fV (n lo hi : Int) : cM n lo hi = some (inP n lo hi) := by
 unfold cM B8 inP ile
 cases decide (lo ≤ n) <;> rfl
theorem E5 (n : Int) : jK n = some (NL n) := by
 unfold jK Hf
 rw [fV]; rfl
theorem Au (s : Int × Int) (lo hi : Int) : fu s lo hi = some (nv s lo hi) := by
 unfold fu Ce nv ile
 cases decide (lo ≤ s.1) <;> cases decide (s.1 ≤ s.2) <;> rfl
theorem Ly {n : Int} (h : I64 n) : oq n = some (n.natAbs : Int) := by
 obtain ⟨h1, h2⟩ := h
 unfold oq ML
 by_cases hn : n < 0
 ·have : ilt n 0 = true := by simpa using hn
  rw [bI this]
  congr 1
  simp only [IntKind.wrap, IntKind.bits, IntKind.signed]
  simp
  omega
 ·have : ilt n 0 = false := by simpa using hn
  rw [bu this]
  congr 1
  simp only [IntKind.wrap, IntKind.bits, IntKind.signed]
  simp
  omega
theorem Z2 (a b : Nat) : HO a b = some ((Nat.gcd a b : Nat) : Int) := by
 unfold HO R0
 refine gW (fun x : Int × Int => ∃ c d : Nat, x = ((c : Int), (d : Int)) ∧ Nat.gcd c d = Nat.gcd a b) (fun x => x.2.toNat) ?_ ⟨a, b, rfl, rfl⟩
 rintro x ⟨c, d, rfl, hg⟩
 cases d with
 | zero =>
   refine .inl fun kn => ?_
   rw [Nat.gcd_zero_right] at hg
   unfold vg
   simp [hg, ine]
 | succ d =>
   refine .inr ⟨(((d + 1 : Nat) : Int), ((c % (d + 1) : Nat) : Int)), ⟨d + 1, c % (d + 1), rfl, ?_⟩, ?_, fun kn => ?_⟩
   ·rw [← hg, Nat.gcd_comm c (d + 1), Nat.gcd_rec (d + 1) c, Nat.gcd_comm]
   ·have := Nat.mod_lt c (Nat.succ_pos d)
    simp only [Int.toNat_natCast]
    omega
   ·unfold vg
    have h1 : ine ((d + 1 : Nat) : Int) 0 = true := by simp [ine]; omega
    have h2 : ff ((d + 1 : Nat) : Int) 0 = false := by simp [ff]; omega
    simp only [h1, bI bu h2]
    congr 1
def IH (r : Int × Int) : Bool :=
 decide (1 ≤ r.2) && (decide (r.2 ≤ 2147483647) && (decide ((r.1.natAbs : Int) ≤ 2147483647) && decide (Nat.gcd r.1.natAbs r.2.natAbs = 1)))
theorem N4 {r : Int × Int} (h : I64 r.1) : pZ r = some (IH r) := by
 unfold pZ GV IH
 by_cases h1 : 1 ≤ r.2
 ·by_cases h2 : r.2 ≤ 2147483647
  ·have h3 : I64 r.2 := ⟨by omega, by omega⟩
   have e1 : ige r.2 1 = true := by simp [ige, h1]
   have e2 : ile r.2 2147483647 = true := by simp [ile, h2]
   rw [bI e1, bI e2, Ly h, aW]
   by_cases h4 : (r.1.natAbs : Int) ≤ 2147483647
   ·have e4 : ile (r.1.natAbs : Int) 2147483647 = true := by simp [ile, h4]
    rw [bI e4, aW, Ly h3, aW, Z2, aW]
    congr 1
    rw [Bool.eq_iff_iff]
    simp only [ieq, beq_iff_eq, h1, h2, h4, decide_true, Bool.true_and, decide_eq_true_eq]
    omega
   ·have e4 : ile (r.1.natAbs : Int) 2147483647 = false := by simp [ile]; omega
    rw [bu e4]
    simp [h4]
  ·have e1 : ige r.2 1 = true := by simp [ige, h1]
   have e2 : ile r.2 2147483647 = false := by simp [ile]; omega
   rw [bI e1, bu e2]
   simp [h2]
 ·have e1 : ige r.2 1 = false := by simp [ige]; omega
  rw [bu e1]
  simp [h1]
def wH (g : b9) : Bool :=
 IH g.2.2.2.2.1 && inP g.2.2.2.2.1.1 (-1000) 1000 && decide (g.2.2.2.2.1.2 ≤ 100) && inP g.1 1 1099511627776 && NL g.2.1 && inP g.2.2.1 1 1125899906842624 && nv g.2.2.2.1 (-1073741824) 1073741824 && inP g.2.2.2.2.2 0 1048576
theorem U1 {g : b9} (h : I64 g.2.2.2.2.1.1) : rr g = some (wH g) := by
 unfold rr xF wH
 rw [N4 h, fV, fV, E5, fV, Au, fV]
 generalize IH g.2.2.2.2.1 = x1
 generalize inP g.2.2.2.2.1.1 (-1000) 1000 = x2
 generalize inP g.1 1 1099511627776 = x3
 generalize NL g.2.1 = x4
 generalize inP g.2.2.1 1 1125899906842624 = x5
 generalize nv g.2.2.2.1 (-1073741824) 1073741824 = x6
 generalize inP g.2.2.2.2.2 0 1048576 = x7
 unfold ile
 generalize decide (g.2.2.2.2.1.2 ≤ 100) = x8
 cases x1 <;> cases x2 <;> cases x3 <;> cases x4 <;> cases x5 <;> cases x6 <;> cases x8 <;> rfl
end Go.Proofs.ZzM
end
noncomputable section
namespace Go.Proofs.ZzM
open Go Go.Am
section
variable {ρ : Type}
theorem Qs {α : Type} {l : List α} {i : Nat} {a : α} (h0 : 0 < i) (h : l[i - 1]? = some a) (f : α → Option ρ) : dI l ((i : Int) - 1) f = f a := by
 have : ((i : Int) - 1) = ((i - 1 : Nat) : Int) := by omega
 rw [this, bp h]
theorem XD {i : Nat} (h : 0 < i) (hn : i ≤ 1000000000) (f : Int → Option ρ) : ck ((i : Int) - 1) f = f ((i : Int) - 1) := bz (by omega) (by omega) f
theorem gO {i n : Nat} (h : i < n) (x : Option ρ) : ca ((ile 0 (i : Int)) && (ilt (i : Int) (n : Int))) x = x := by
 have : ((ile 0 (i : Int)) && (ilt (i : Int) (n : Int))) = true := by simp [ile, ilt, h]
 rw [this, Am.iff_true]
theorem eJ {α : Type} {l : List α} {i : Nat} {a : α} (h : l[i]? = some a) (f : α → Option ρ) : gg l (Int.toNat (i : Int)) f = f a := by
 rw [Int.toNat_natCast]; exact qo h f
end
def Ik {α : Type} (key : α → Int) (l : List α) (i : Nat) (a : α) : Bool :=
 decide (0 < i) && (l[i - 1]?).any fun q => decide (key a ≤ key q)
theorem OJ {α : Type} {l : List α} {i : Nat} (hi : i < l.length) (h0 : 0 < i) : ∃ q, l[i - 1]? = some q :=
 ⟨l[i - 1], List.getElem?_eq_getElem (by omega)⟩
theorem Ug {α : Type} (key : α → Int) (l : List α) : (∀ i a, l[i]? = some a → Ik key l i a = false) ↔ l.Pairwise (fun a b => key a < key b) := by
 rw [List.pairwise_iff_getElem]
 constructor
 ·intro h
  have step : ∀ i (h1 : i + 1 < l.length), key l[i] < key l[i + 1] := by
   intro i h1
   have := h (i + 1) l[i + 1] (List.getElem?_eq_getElem h1)
   simp only [Ik, Nat.add_sub_cancel, Nat.succ_pos, decide_true, Bool.true_and, List.getElem?_eq_getElem (show i < l.length by omega), Option.any_some, decide_eq_false_iff_not] at this
   omega
  intro i j hi hj hij
  induction j with
  | zero => omega
  | succ j ih =>
    have := step j hj
    rcases Nat.lt_or_ge i j with hlt | hge
    ·have := ih (by omega) hlt; omega
    ·have : i = j := by omega
     subst this; assumption
 ·intro h i a ha
  obtain ⟨hi, rfl⟩ := List.getElem?_eq_some_iff.1 ha
  unfold Ik
  cases i with
  | zero => rfl
  | succ i =>
    have := h i (i + 1) (by omega) hi (by omega)
    simp only [Nat.add_sub_cancel, Nat.succ_pos, decide_true, Bool.true_and, List.getElem?_eq_getElem (show i < l.length by omega), Option.any_some, decide_eq_false_iff_not]
    omega
def uq (l : List b9) (i : Nat) (g : b9) : Option Int :=
 if !wH g then some 1 else if Ik (fun g => g.1) l i g then some 6 else none
def lN (b : bH) : Int := (fk (uq b.2.1) 0 b.2.1).getD 0
theorem JY {b : bH} (hr : ∀ g ∈ b.2.1, I64 g.2.2.2.2.1.1) (hn : b.2.1.length ≤ 1000) : eZ b = some (lN b) := by
 unfold eZ mZ
 refine Eq.trans (pQ b.2.1 (uq b.2.1) some (some 0) (fun i a hi ha kn => ?_) (fun kn => ?_)) ?_
 ·try dsimp only
  unfold gV
  rw [bv hi, bp ha, U1 (hr a (List.mem_of_getElem? ha)), aW]
  unfold uq
  cases hg : wH a with
  | false => simp
  | true =>
    simp only [Bool.not_true, bX, Bool.false_eq_true, if_false]
    rcases Nat.eq_zero_or_pos i with h0 | h0
    ·subst h0
     have : igt ((0 : Nat) : Int) 0 = false := by simp [igt]
     rw [bu this, br hi (by omega)]
     simp [Ik]
    ·obtain ⟨q, hq⟩ := OJ hi h0
     have h1 : igt (i : Int) 0 = true := by simp [igt]; omega
     rw [bI h1, XD h0 (by omega), Qs h0 hq]
     simp only [Ik, h0, decide_true, Bool.true_and, hq, Option.any_some]
     unfold ile
     cases h2 : decide (a.1 ≤ q.1) with
     | true => simp
     | false =>
       rw [bX, br hi (by omega)]
       simp
 ·try dsimp only
  unfold gV
  rw [bU]
 ·unfold lN
  cases fk (uq b.2.1) 0 b.2.1 <;> rfl
def Ox (l : List b9) : List (Int × b9) := l.foldl (fun m g => EU (k := tI) (v := bj) g.1 g m) []
def jl (b : bH) : List (Int × b9) := Ox b.2.1
theorem uV {b : bH} (hn : b.2.1.length ≤ 1000) : df b = some (jl b) := by
 unfold df xC
 refine cD b.2.1 (fun i => Ox (b.2.1.take i)) _ rfl (fun i a hi ha kn => ?_) (fun kn => ?_)
 ·try dsimp only
  unfold kL
  rw [bv hi, bp ha, br hi (by omega), take_succ ha]
  simp only [Ox, List.foldl_append, List.foldl_cons, List.foldl_nil]
 ·try dsimp only
  unfold kL
  rw [bU, List.take_length]
  rfl
theorem Pe (x y : Int) (g : b9) : ∀ m : List (Int × b9), mJ (k := tI) (v := bj) x (EU (k := tI) (v := bj) y g m) = if x = y then some g else mJ (k := tI) (v := bj) x m
 | [] => by
   unfold EU mJ i5 mJ
   by_cases h : x = y <;> simp [h]
 | e :: m => by
   unfold EU
   by_cases h : y = e.1
   ·have : i5 tI y e.1 = true := by simp [i5, h]
    rw [this]
    try dsimp only
    unfold mJ i5
    by_cases h2 : x = y
    ·simp [h2]
    ·have : ¬ x = e.1 := fun h3 => h2 (h3.trans h.symm)
     simp [h2, this]
   ·have : i5 tI y e.1 = false := by simp [i5, h]
    rw [this]
    try dsimp only
    have ih := Pe x y g m
    unfold mJ
    by_cases h2 : x = e.1
    ·have : i5 tI x e.1 = true := by simp [i5, h2]
     rw [this]
     have : ¬ x = y := fun h3 => h (h3.symm.trans h2)
     simp [this]
    ·have : i5 tI x e.1 = false := by simp [i5, h2]
     rw [this]
     exact ih
def iB (b : bH) (id : Int) : Option b9 := b.2.1.find? fun g => g.1 == id
theorem RG (x : Int) (l : List b9) : mJ (k := tI) (v := bj) x (Ox l) = l.reverse.find? fun g => g.1 == x := by
 unfold Ox
 rw [← List.foldr_reverse]
 induction l.reverse with
 | nil => rfl
 | cons g t ih =>
   rw [List.foldr_cons, Pe, ih, List.find?_cons]
   by_cases h : x = g.1
   ·simp [h]
   ·have : (g.1 == x) = false := by simp; exact fun h2 => h h2.symm
    simp [h, this]
theorem QE {l : List b9} (h : l.Pairwise fun a b => a.1 < b.1) (x : Int) : l.reverse.find? (fun g => g.1 == x) = l.find? fun g => g.1 == x := by
 induction l with
 | nil => rfl
 | cons g t ih =>
   rw [List.pairwise_cons] at h
   rw [List.reverse_cons, List.find?_append, ih h.2, List.find?_cons]
   by_cases hx : g.1 = x
   ·have : t.find? (fun g => g.1 == x) = none := List.find?_eq_none.2 fun y hy => by have : g.1 < y.1 := h.1 y hy; simp; omega
    rw [this]; simp [hx]
   ·have : (g.1 == x) = false := by simp [hx]
    simp [this]
theorem Bq {b : bH} (h : b.2.1.Pairwise fun a b => a.1 < b.1) (x : Int) : mJ (k := tI) (v := bj) x (jl b) = iB b x := by
 unfold jl iB
 rw [RG, QE h]
def oz (s : List (Int × b9)) (id day : Int) : Int :=
 match mJ (k := tI) (v := bj) id s with
 | some g => if day < g.2.1 then 4 else 0
 | none => 5
theorem RI (s : List (Int × b9)) (id day : Int) : gM s id day = some (oz s id day) := by
 unfold gM oP oz
 cases h : mJ (k := tI) (v := bj) id s with
 | none => simp only [ED, h]
 | some g =>
   simp only [ED, h]
   rw [dp]
   by_cases h2 : day < g.2.1 <;> simp [h2]
def Yu (s : List (Int × b9)) (id day : Int) : Int := if !NL day then 1 else oz s id day
theorem OT (s : List (Int × b9)) (id day : Int) : dw id day s = some (Yu s id day) := by
 unfold dw xE Yu
 rw [E5, aW, RI, aW]
 cases NL day <;> rfl
def Sl (b : bH) (s : List (Int × b9)) (i : Nat) (l : Ix) : Int :=
 if !nv l.2.1 0 20000 then 1 else if !inP l.2.2 0 1048576 then 1 else if oz s l.1 l.2.1.1 != 0 then oz s l.1 l.2.1.1 else
 if (b.2.2.2.1.take i).any (fun x => x.1 == l.1 && (decide (x.2.1.1 ≤ l.2.1.2) && decide (l.2.1.1 ≤ x.2.1.2))) then 9 else
 if b.2.2.1.any (fun u => u.1 == l.1 && inP u.2 l.2.1.1 l.2.1.2) then 9 else 0
theorem QO {b : bH} (hn : b.2.2.2.1.length ≤ 1000) (hu : b.2.2.1.length ≤ 1000) (s : List (Int × b9)) {i : Nat} {l : Ix} (hl : b.2.2.2.1[i]? = some l) : fB b s i = some (Sl b s i l) := by
 unfold fB re Sl
 have hi : i < b.2.2.2.1.length := (List.getElem?_eq_some_iff.1 hl).1
 rw [bp hl, Au, aW, fV, aW, RI, aW]
 cases nv l.2.1 0 20000 with
 | false => rfl
 | true =>
 cases inP l.2.2 0 1048576 with
 | false => rfl
 | true =>
 cases hm : (oz s l.1 l.2.1.1 != 0) with
 | true =>
   have : ine (oz s l.1 l.2.1.1) 0 = true := hm
   simp [this]
 | false =>
 have hm' : ine (oz s l.1 l.2.1.1) 0 = false := hm
 have hg : ((ile (0 : Int) (i : Int)) && (ile (i : Int) (dt b.2.2.2.1))) = true := by simp [ile, dt]; omega
 simp only [Bool.not_true, bX, hm', Bool.false_eq_true, if_false]
 rw [dA hg, Int.toNat_natCast]
 have inner : ∀ (k : Int → Option Int), bt (fun (v : Int) kk => ft b.2.2.1 (bE b.2.2.1) l.1 l.2.1.1 l.2.1.2 v (fun u => kk u) (fun z => ifb (ige z 0) (k 9) (k 0)) (fun _ => k 0)) (0 : Int) = if b.2.2.1.any (fun u => u.1 == l.1 && inP u.2 l.2.1.1 l.2.1.2) then k 9 else k 0 := by
  intro k
  refine ip b.2.2.1 _ (fun z => ifb (ige z 0) (k 9) (k 0)) (k 9) (k 0) (fun j => ?_) (fun j a hj ha kn => ?_) (fun kn => ?_)
  ·have : ige (j : Int) 0 = true := by simp [ige]
   rw [bI this]
  ·try dsimp only
   unfold ft
   rw [bv hj, bp ha, fV, aW, br hj (by omega)]
   cases h1 : (a.1 == l.1) with
   | false =>
     have : ieq a.1 l.1 = false := h1
     simp [this]
   | true =>
     have : ieq a.1 l.1 = true := h1
     rw [this]
     cases inP a.2 l.2.1.1 l.2.1.2 <;> simp
  ·try dsimp only
   unfold ft
   rw [bU]
 rw [inner]
 refine Eq.trans (ip (b.2.2.2.1.take i) (fun x => x.1 == l.1 && (decide (x.2.1.1 ≤ l.2.1.2) && decide (l.2.1.1 ≤ x.2.1.2))) (fun z => ifb (ige z 0) (some 9) (if b.2.2.1.any (fun u => u.1 == l.1 && inP u.2 l.2.1.1 l.2.1.2) then some 9 else some 0)) (some 9) (if b.2.2.1.any (fun u => u.1 == l.1 && inP u.2 l.2.1.1 l.2.1.2) then some 9 else some 0) (fun j => ?_) (fun j a hj ha kn => ?_) (fun kn => ?_)) ?_
 ·have : ige (j : Int) 0 = true := by simp [ige]
  rw [bI this]
 ·try dsimp only
  unfold iO
  have hj' : j ≤ 1000 := by rw [List.length_take] at hj; omega
  rw [bv hj, bp ha, br hj (by rw [List.length_take]; omega)]
  cases h1 : (a.1 == l.1) with
  | false =>
    have : ieq a.1 l.1 = false := h1
    simp [this]
  | true =>
    have : ieq a.1 l.1 = true := h1
    rw [this]
    cases h2 : decide (a.2.1.1 ≤ l.2.1.2) <;> cases h3 : decide (l.2.1.1 ≤ a.2.1.2) <;> simp [ile, h2, h3, dp] <;> simp_all
 ·try dsimp only
  unfold iO
  rw [bU]
 ·cases List.any (b.2.2.2.1.take i) _ <;> cases b.2.2.1.any _ <;> rfl
end Go.Proofs.ZzM
end
noncomputable section
namespace Go.Proofs.ZzM
open Go Go.Am
theorem Yh {l : List Int} (hn : l.length ≤ 1000000) (x : Int) : iu l x = some (match l.findIdx? (· == x) with | some j => (j : Int) | none => -1) := by
 unfold iu j9
 refine Eq.trans (hO l (· == x) some (some (-1)) (fun i a hi ha kn => ?_) (fun kn => ?_)) ?_
 ·try dsimp only
  unfold fS
  rw [bv hi, bp ha, br hi (by omega), dp]
  by_cases h : x = a
  ·subst h; simp [ieq]
  ·have h2 : ¬ a = x := fun e => h e.symm
   simp [ieq, h, h2]
 ·try dsimp only
  unfold fS
  rw [bU]
 ·cases l.findIdx? (· == x) <;> rfl
theorem lC {l : List Int} (hn : l.length ≤ 1000000) (x : Int) : cY l x = some (l.contains x) := by
 unfold cY iA
 rw [Yh hn, aW]
 congr 1
 cases h : l.findIdx? (· == x) with
 | none =>
   have : l.contains x = false := by
    rw [Bool.eq_false_iff]
    intro hc
    have := List.findIdx?_eq_none_iff.1 h x (by simpa using hc)
    simp at this
   rw [this]; rfl
 | some j =>
   obtain ⟨hj, hp, _⟩ := List.findIdx?_eq_some_iff_getElem.1 h
   have : l.contains x = true := by
    have h2 : l[j] = x := by simpa using hp
    rw [← h2]; simp
   rw [this]
   simp [ige]
def cw (a b : List Int) : List Int := a.filter fun x => !b.contains x
theorem oR {a b : List Int} (ha : a.length ≤ 1000000) (hb : b.length ≤ 1000000) : eA a b = some (cw a b) := by
 unfold eA M9
 rw [bw (by omega), Am.iff_true]
 have second : ∀ z : Nat, z < a.length → cw (a.take z) b = a.take z → b.contains (a[z]?.getD 0) = true →
  bt (fun (v13 : (Val (.pair tI (.pair tI (.slice tI))))) kk17 => i0 b v13.1 v13.2.1 v13.2.2 (fun u14 u15 u16 => kk17 (u14, u15, u16)) (fun z12 => ca ((ile (0 : Int) z12.1) && (ile z12.1 (dt z12.2))) (ca ((ile (0 : Int) z12.1) && (ile z12.1 (dt (List.take (Int.toNat z12.1) z12.2 ++ List.replicate (List.length z12.2 - (Int.toNat z12.1)) (0 : Int) ++ List.drop ((Int.toNat z12.1) + (List.length z12.2 - (Int.toNat z12.1))) z12.2)))) (some (List.take (Int.toNat z12.1) (List.drop 0 (List.take (Int.toNat z12.1) z12.2 ++ List.replicate (List.length z12.2 - (Int.toNat z12.1)) (0 : Int) ++ List.drop ((Int.toNat z12.1) + (List.length z12.2 - (Int.toNat z12.1))) z12.2))))))) ((z : Int), ((z : Int) + 1), a) = some (cw a b) := by
  intro z hz hp hc
  refine gW (fun x : Int × Int × List Int => ∃ i j : Nat, x.1 = i ∧ x.2.1 = j ∧ i < j ∧ j ≤ a.length ∧ x.2.2.length = a.length ∧ x.2.2.take i = cw (a.take j) b ∧ x.2.2.drop j = a.drop j) (fun x => a.length - x.2.1.toNat) ?_
   ⟨z, z + 1, rfl, by simp, by omega, by omega, rfl, ?_, rfl⟩
  ·rintro ⟨x1, x2, s⟩ ⟨i, j, h1, h2, hij, hja, hl, ht, hd⟩
   simp only at h1 h2 hl ht hd
   subst h1 h2
   rcases Nat.lt_or_ge j a.length with hj | hj
   ·refine .inr ?_
    have hsj : s[j]? = some a[j] := by
     have h3 : (s.drop j)[0]? = (a.drop j)[0]? := by rw [hd]
     rw [List.getElem?_drop, List.getElem?_drop] at h3
     simpa [List.getElem?_eq_getElem hj] using h3
    have hjs : j < s.length := by omega
    have hta : cw (a.take (j + 1)) b = cw (a.take j) b ++ if b.contains a[j] then [] else [a[j]] := by
     rw [take_succ (List.getElem?_eq_getElem hj), cw, cw, List.filter_append]
     congr 1
     cases h : b.contains a[j] with
     | true => simp only [List.filter_cons, h, Bool.not_true, Bool.false_eq_true, if_false, List.filter_nil, if_true]
     | false => simp only [List.filter_cons, h, Bool.not_false, Bool.false_eq_true, if_false, List.filter_nil, if_true]
    cases h : b.contains a[j] with
    | true =>
      refine ⟨(i, (j : Int) + 1, s), ⟨i, j + 1, rfl, by simp, by omega, by omega, hl, ?_, ?_⟩, by simp; omega, fun kn => ?_⟩
      ·rw [hta, h]; simpa using ht
      ·have := congrArg (List.drop 1) hd
       simpa [List.drop_drop, Nat.add_comm] using this
      ·try dsimp only
       unfold i0
       rw [bv hjs, gO hjs, eJ hsj, lC hb, aW, h]
       simp only [Bool.not_true, bX]
       rw [br hjs (by omega)]
    | false =>
      have his : i < s.length := by omega
      refine ⟨((i : Int) + 1, (j : Int) + 1, s.set i a[j]), ⟨i + 1, j + 1, by simp, by simp, by omega, by omega, by simpa using hl, ?_, ?_⟩, by simp; omega, fun kn => ?_⟩
      ·show List.take (i + 1) (s.set i a[j]) = _
       rw [hta, h, List.take_succ, List.getElem?_set, List.take_set_of_le (Nat.le_refl i), ht]
       simp [his]
      ·show List.drop (j + 1) (s.set i a[j]) = _
       rw [List.drop_set_of_lt (by omega)]
       have := congrArg (List.drop 1) hd
       simpa [List.drop_drop, Nat.add_comm] using this
      ·try dsimp only
       unfold i0
       rw [bv hjs, gO hjs, eJ hsj, lC hb, aW, h]
       simp only [Bool.not_false, ez]
       rw [gO his, eJ (List.getElem?_eq_getElem his), br his (by omega), br hjs (by omega), Int.toNat_natCast]
   ·refine .inl fun kn => ?_
    have hje : j = s.length := by omega
    try dsimp only
    unfold i0
    rw [hje, bU]
    dsimp only
    have g1 : ((ile (0 : Int) (i : Int)) && (ile (i : Int) (dt s))) = true := by simp [ile, dt]; omega
    rw [dA g1]
    have g2 : ((ile (0 : Int) (i : Int)) && (ile (i : Int) (dt (List.take (Int.toNat (i : Int)) s ++ List.replicate (List.length s - (Int.toNat (i : Int))) (0 : Int) ++ List.drop ((Int.toNat (i : Int)) + (List.length s - (Int.toNat (i : Int)))) s)))) = true := by
     simp [ile, dt]; omega
    rw [dA g2, Int.toNat_natCast, List.drop_zero, List.append_assoc, List.take_append_of_le_length (by simp; omega), List.take_take, Nat.min_self, ht]
    rw [List.take_of_length_le (by omega)]
  ·show List.take z a = cw (a.take (z + 1)) b
   have hz' : a[z]? = some a[z] := List.getElem?_eq_getElem hz
   rw [take_succ hz', cw, List.filter_append]
   rw [hz'] at hc
   simp only [Option.getD_some] at hc
   have : List.filter (fun x => !b.contains x) [a[z]] = [] := by simp only [List.filter_cons, hc, Bool.not_true, Bool.false_eq_true, if_false, List.filter_nil]
   rw [this, List.append_nil]
   exact hp.symm
 refine Eq.trans (hO a (fun x => b.contains x) (fun z4 => ifb (ieq z4 (-1 : Int)) (some a) (ck (z4 + (1 : Int)) fun n5 => bt (fun (v13 : (Val (.pair tI (.pair tI (.slice tI))))) kk17 => i0 b v13.1 v13.2.1 v13.2.2 (fun u14 u15 u16 => kk17 (u14, u15, u16)) (fun z12 => ca ((ile (0 : Int) z12.1) && (ile z12.1 (dt z12.2))) (ca ((ile (0 : Int) z12.1) && (ile z12.1 (dt (List.take (Int.toNat z12.1) z12.2 ++ List.replicate (List.length z12.2 - (Int.toNat z12.1)) (0 : Int) ++ List.drop ((Int.toNat z12.1) + (List.length z12.2 - (Int.toNat z12.1))) z12.2)))) (some (List.take (Int.toNat z12.1) (List.drop 0 (List.take (Int.toNat z12.1) z12.2 ++ List.replicate (List.length z12.2 - (Int.toNat z12.1)) (0 : Int) ++ List.drop ((Int.toNat z12.1) + (List.length z12.2 - (Int.toNat z12.1))) z12.2))))))) (z4, n5, a))) (some a) (fun i x hi hx kn => ?_) (fun kn => ?_)) ?_
 ·try dsimp only
  unfold qZ
  rw [bv hi, gO hi, eJ hx, lC hb, aW, br hi (by omega), dp]
 ·try dsimp only
  unfold qZ
  rw [bU]
 ·cases h : a.findIdx? (fun x => b.contains x) with
  | none =>
    have : cw a b = a := by
     rw [cw, List.filter_eq_self]
     intro x hx
     have := List.findIdx?_eq_none_iff.1 h x hx
     simpa using this
    rw [this]
  | some z =>
    obtain ⟨hz, hc, hlt⟩ := List.findIdx?_eq_some_iff_getElem.1 h
    have h1 : ieq (z : Int) (-1) = false := by simp [ieq]
    try dsimp only
    rw [bu h1, br hz (by omega)]
    refine second z hz ?_ ?_
    ·rw [cw, List.filter_eq_self]
     intro x hx
     obtain ⟨j, hj, rfl⟩ := List.mem_iff_getElem.1 hx
     rw [List.length_take] at hj
     rw [List.getElem_take]
     have := hlt j (by omega)
     simpa using this
    ·rw [List.getElem?_eq_getElem hz]; exact hc
def D6 (l : List Int) (i : Nat) (a : Int) : Option Bool := if !inP a 1 1099511627776 then some false else if Ik (fun x => x) l i a then some false else none
def lY (l : List Int) : Bool := match fk (D6 l) 0 l with | some _ => false | none => decide (l.length ≤ 6)
theorem As {l : List Int} (hn : l.length ≤ 1000000) : ky l = some (lY l) := by
 unfold ky Cd
 refine Eq.trans (pQ l (D6 l) some (some (decide (l.length ≤ 6))) (fun i a hi ha kn => ?_) (fun kn => ?_)) ?_
 ·try dsimp only
  unfold l6
  rw [bv hi, bp ha, fV, aW]
  unfold D6
  cases inP a 1 1099511627776 with
  | false => rfl
  | true =>
    simp only [Bool.not_true, bX, Bool.false_eq_true, if_false]
    rcases Nat.eq_zero_or_pos i with h0 | h0
    ·subst h0
     have : igt ((0 : Nat) : Int) 0 = false := by simp [igt]
     rw [bu this, br hi (by omega)]
     simp [Ik]
    ·obtain ⟨q, hq⟩ := OJ hi h0
     have h1 : igt (i : Int) 0 = true := by simp [igt]; omega
     rw [bI h1, XD h0 (by omega), Qs h0 hq]
     simp only [Ik, h0, decide_true, Bool.true_and, hq, Option.any_some]
     unfold ile
     cases h2 : decide (a ≤ q) with
     | true => rfl
     | false =>
       rw [bX, br hi (by omega)]
       rfl
 ·try dsimp only
  unfold l6
  rw [bU, b8]
  simp [ile]
  omega
 ·have hb : ∀ x, fk (D6 l) 0 l = some x → x = false := by
   have : ∀ (m : List Int) (j : Nat) (x : Bool), fk (D6 l) j m = some x → x = false := by
    intro m
    induction m with
    | nil => intro j x h; cases h
    | cons a m ih =>
      intro j x h
      unfold fk at h
      cases hp : D6 l j a with
      | none => rw [hp] at h; exact ih _ _ h
      | some y =>
        rw [hp] at h
        cases h
        unfold D6 at hp
        split at hp
        ·cases hp; rfl
        ·split at hp
         ·cases hp; rfl
         ·cases hp
   exact this l 0
  unfold lY
  cases h : fk (D6 l) 0 l with
  | none => rfl
  | some x => rw [hb x h]
theorem OO (l : List Int) : lY l = true ↔ (∀ x ∈ l, 1 ≤ x ∧ x ≤ 1099511627776) ∧ l.Pairwise (· < ·) ∧ l.length ≤ 6 := by
 have h0 : fk (D6 l) 0 l = none ↔ (∀ x ∈ l, 1 ≤ x ∧ x ≤ 1099511627776) ∧ l.Pairwise (· < ·) := by
  rw [kw, ← Ug (fun x => x) l]
  constructor
  ·intro h
   have h1 : ∀ (j : Nat) (a : Int), l[j]? = some a → inP a 1 1099511627776 = true ∧ Ik (fun x => x) l j a = false := by
    intro j a ha
    have := h j a ha
    rw [Nat.zero_add] at this
    unfold D6 at this
    split at this
    ·cases this
    ·split at this
     ·cases this
     ·rename_i h1 h2
      exact ⟨by simpa using h1, by simpa using h2⟩
   refine ⟨fun x hx => ?_, fun i a ha => (h1 i a ha).2⟩
   obtain ⟨j, hj, rfl⟩ := List.mem_iff_getElem.1 hx
   have := (h1 j l[j] (List.getElem?_eq_getElem hj)).1
   simpa [inP] using this
  ·rintro ⟨h1, h2⟩ j a ha
   rw [Nat.zero_add]
   have h3 := h1 a (List.mem_of_getElem? ha)
   have : inP a 1 1099511627776 = true := by simpa [inP] using h3
   simp [D6, this, h2 j a ha]
 unfold lY
 cases h : fk (D6 l) 0 l with
 | none =>
   obtain ⟨h1, h2⟩ := h0.1 h
   simp only [decide_eq_true_eq]
   exact ⟨fun h3 => ⟨h1, h2, h3⟩, fun h3 => h3.2.2⟩
 | some x =>
   constructor
   ·intro h2; cases h2
   ·rintro ⟨h1, h2, h3⟩
    rw [h0.2 ⟨h1, h2⟩] at h; cases h
theorem Yi {a b : List Int} (ha : a.length ≤ 1000000) (hb : b.length ≤ 1000000) : bL [a, b] = some (a ++ b) := by
 have hk : ∀ n : Nat, n ≤ 4000000 → ∀ (f : Int → Option (List Int)), ck (n : Int) f = f n := fun n h f => bz (by omega) (by omega) f
 have second : bt (fun (v9 : (Val (.pair tI (.slice tI)))) kk12 => bQ [a, b] (bE [a, b]) v9.1 v9.2 (fun u10 u11 => kk12 (u10, u11)) (fun z8 => some z8)) ((0 : Int), ([] : List Int)) = some (a ++ b) := by
  refine cD [a, b] (fun i => ([a, b].take i).flatten) (some (a ++ b)) (f := fun (v9 : (Val (.pair tI (.slice tI)))) kk12 => bQ [a, b] (bE [a, b]) v9.1 v9.2 (fun u10 u11 => kk12 (u10, u11)) (fun z8 => some z8)) rfl (fun i x hi hx kn => ?_) (fun kn => ?_)
  ·try dsimp only
   unfold bQ
   rw [bv hi, bp hx, br hi (by simp), take_succ hx, List.flatten_append]
   have : bW ((List.take i [a, b]).flatten.length + x.length) = true := by
    refine bw ?_
    have h1 : x.length ≤ 1000000 := by
     have := List.mem_of_getElem? hx
     simp at this
     rcases this with rfl | rfl <;> assumption
    have h2 : (List.take i [a, b]).flatten.length ≤ 2000000 := by
     have : i = 0 ∨ i = 1 := by simp at hi; omega
     rcases this with rfl | rfl <;> simp <;> omega
    omega
   rw [dA this]
   simp
  ·try dsimp only
   unfold bQ
   rw [bU]
   simp
 unfold bL gT
 refine gW (fun x : Int × Int => ∃ i : Nat, i ≤ 2 ∧ x = ((([a, b].take i).flatten.length : Int), (i : Int))) (fun x => 2 - x.2.toNat) ?_ ⟨0, by omega, rfl⟩
 rintro x ⟨i, hi, rfl⟩
 rcases Nat.lt_or_ge i 2 with h2 | h2
 ·refine .inr ⟨((([a, b].take (i + 1)).flatten.length : Int), (i : Int) + 1), ⟨i + 1, h2, by simp⟩, by simp; omega, fun kn => ?_⟩
  have hi' : i < [a, b].length := h2
  obtain ⟨x, hx⟩ : ∃ x, [a, b][i]? = some x := ⟨_, List.getElem?_eq_getElem hi'⟩
  have hxl : x.length ≤ 1000000 := by
   have := List.mem_of_getElem? hx
   simp at this
   rcases this with rfl | rfl <;> assumption
  have h3 : (List.take i [a, b]).flatten.length ≤ 2000000 := by
   have : i = 0 ∨ i = 1 := by omega
   rcases this with rfl | rfl <;> simp <;> omega
  try dsimp only
  unfold dh
  rw [bv hi', bp hx, b8]
  have e1 : (((List.take i [a, b]).flatten.length : Int) + (x.length : Int)) = ((List.take i [a, b]).flatten.length + x.length : Nat) := by omega
  rw [e1, hk _ (by omega)]
  have : ilt ((((List.take i [a, b]).flatten.length + x.length : Nat)) : Int) 0 = false := by simp [ilt]; omega
  rw [bu this, br hi' (by simp), take_succ hx]
  simp
 ·refine .inl fun kn => ?_
  obtain rfl : i = 2 := by omega
  try dsimp only
  unfold dh
  rw [show ((2 : Nat) : Int) = (([a, b].length : Nat) : Int) from rfl, bU]
  have e1 : ((List.take 2 [a, b]).flatten.length : Int) = ((a.length + b.length : Nat) : Int) := by simp
  have e2 : ilt (((a.length + b.length : Nat)) : Int) 0 = false := by simp [ilt]; omega
  rw [e1]
  dsimp only
  rw [bu e2, Int.sub_zero, hk _ (by omega)]
  rcases Nat.eq_zero_or_pos (a.length + b.length) with h0 | h0
  ·have : igt (((a.length + b.length : Nat)) : Int) 0 = false := by simp [igt]; omega
   rw [bu this]
   exact second
  ·have : igt (((a.length + b.length : Nat)) : Int) 0 = true := by simp [igt]; omega
   rw [bI this]
   have : ((ilt (0 : Int) (((a.length + b.length : Nat)) : Int)) && (bW (Int.toNat (((a.length + b.length : Nat)) : Int)))) = true := by
    rw [Int.toNat_natCast, bw (by omega)]
    simp [ilt]; omega
   rw [dA this]
   have : ile 0 (dt (List.replicate (Int.toNat (((a.length + b.length : Nat)) : Int)) (0 : Int))) = true := by simp [ile]
   rw [dA this]
   exact second
def EI (b : bH) (id day : Int) : Option Ix := b.2.2.2.1.find? fun l => l.1 == id && inP day l.2.1.1 l.2.1.2
theorem TX {α : Type} (p : α → Bool) : ∀ l : List α, l.find? p = (match l.findIdx? p with | some j => l[j]? | none => none)
 | [] => rfl
 | a :: l => by
   rw [List.find?_cons, List.findIdx?_cons]
   cases h : p a with
   | true => simp
   | false =>
     simp only [Bool.false_eq_true, if_false]
     rw [TX p l]
     cases l.findIdx? p <;> simp
theorem aa3 {b : bH} (hn : b.2.2.2.1.length ≤ 1000) (id day : Int) : vr b id day = some (match EI b id day with | some l => (l, true) | none => ((0, (0, 0), 0), false)) := by
 unfold vr Nl
 refine Eq.trans (hO b.2.2.2.1 (fun l => l.1 == id && inP day l.2.1.1 l.2.1.2) (fun z5 => ifb (ilt z5 (0 : Int)) (some (((0 : Int), ((0 : Int), (0 : Int)), (0 : Int)), false)) (dI b.2.2.2.1 z5 fun e6 => some (e6, true))) (some ((0, (0, 0), 0), false)) (fun i a hi ha kn => ?_) (fun kn => ?_)) ?_
 ·try dsimp only
  unfold rf
  rw [bv hi, bp ha, fV, aW, br hi (by omega)]
  cases h1 : (a.1 == id) with
  | false =>
    have : ieq a.1 id = false := h1
    simp [this]
  | true =>
    have : ieq a.1 id = true := h1
    rw [this]
    cases inP day a.2.1.1 a.2.1.2 <;> simp
 ·try dsimp only
  unfold rf
  rw [bU]
 ·unfold EI
  rw [TX]
  cases h : b.2.2.2.1.findIdx? (fun l => l.1 == id && inP day l.2.1.1 l.2.1.2) with
  | none => rfl
  | some j =>
    obtain ⟨hj, _, _⟩ := List.findIdx?_eq_some_iff_getElem.1 h
    have : ilt (j : Int) 0 = false := by simp [ilt]
    try dsimp only
    rw [bu this, bp (List.getElem?_eq_getElem hj), List.getElem?_eq_getElem hj]
end Go.Proofs.ZzM
end
noncomputable section
namespace Go.Proofs.ZzM
open Go Go.Am
def aaH (a : Int) : List Int → List Int
 | [] => [a]
 | b :: t => if a ≤ b then a :: b :: t else b :: aaH a t
def KV : List Int → List Int
 | [] => []
 | a :: t => aaH a (KV t)
def sJ (p : Option Int) : List Int → List Int
 | [] => []
 | a :: t => if p = some a then sJ (some a) t else a :: sJ (some a) t
def Rb (l : List Int) : List Int := sJ none (KV l)
theorem Hx (a : Int) : ∀ l, (aaH a l).Perm (a :: l)
 | [] => List.Perm.refl _
 | b :: t => by
   unfold aaH
   split
   ·exact List.Perm.refl _
   ·exact ((Hx a t).cons b).trans (List.Perm.swap a b t)
theorem rj : ∀ l, (KV l).Perm l
 | [] => List.Perm.refl _
 | a :: t => (Hx a _).trans ((rj t).cons a)
theorem Hw (a : Int) : ∀ {l : List Int}, l.Pairwise (· ≤ ·) → (aaH a l).Pairwise (· ≤ ·)
 | [], _ => by simp [aaH]
 | b :: t, h => by
   rw [List.pairwise_cons] at h
   unfold aaH
   split
   ·rename_i hab
    refine List.pairwise_cons.2 ⟨fun x hx => ?_, List.pairwise_cons.2 h⟩
    rcases List.mem_cons.1 hx with rfl | hx
    ·exact hab
    ·have := h.1 x hx; omega
   ·rename_i hab
    refine List.pairwise_cons.2 ⟨fun x hx => ?_, Hw a h.2⟩
    rcases List.mem_cons.1 ((Hx a t).mem_iff.1 hx) with rfl | hx
    ·omega
    ·exact h.1 x hx
theorem ri : ∀ l : List Int, (KV l).Pairwise (· ≤ ·)
 | [] => List.Pairwise.nil
 | a :: t => Hw a (ri t)
theorem YA (l : List Int) : yh l = KV l := by
 have h1 : (yh l).Pairwise (· ≤ ·) := by
  have := List.pairwise_mergeSort (le := fun a b : Int => decide (a ≤ b)) (fun a b c h1 h2 => by simp at *; omega) (fun a b => by simp; omega) l
  exact this.imp fun h => by simpa using h
 exact List.Perm.eq_of_pairwise (le := (· ≤ ·)) (fun a b _ _ h1 h2 => by omega) h1 (ri l) ((List.mergeSort_perm l _).trans (rj l).symm)
theorem J6 (a : Int) : ∀ (l : List Int) (p : Option Int), sJ p (l ++ [a]) = sJ p l ++ (if (match l.getLast? with | some b => some b | none => p) = some a then [] else [a])
 | [], p => by simp only [List.nil_append, sJ, List.getLast?_nil]; rfl
 | b :: t, p => by
   have ih := J6 a t (some b)
   have e : (match (b :: t).getLast? with | some c => some c | none => p) = (match t.getLast? with | some c => some c | none => some b) := by
    cases t with
    | nil => rfl
    | cons c t =>
      rw [List.getLast?_cons_cons]
      cases h : (c :: t).getLast? with
      | none => simp at h
      | some x => rfl
   rw [e]
   simp only [List.cons_append, sJ, ih]
   split <;> simp
theorem wK (l : List Int) : ∀ m, m ≤ l.length → Lib.compactUpTo l.toArray m = sJ none (l.take m)
 | 0, _ => by simp [Lib.compactUpTo, sJ]
 | m + 1, h => by
   have hm : m < l.length := h
   rw [Lib.compactUpTo_succ, wK l m (by omega), take_succ (List.getElem?_eq_getElem hm), J6]
   congr 1
   have e1 : l.toArray[m]! = l[m] := by simp [getElem!_pos, hm]
   rw [e1]
   unfold Lib.keeps
   rw [e1]
   cases m with
   | zero => simp
   | succ m =>
     have hm' : m < l.length := by omega
     have e2 : l.toArray[m + 1 - 1]! = l[m] := by simp [getElem!_pos, hm']
     rw [e2]
     have e3 : (l.take (m + 1)).getLast? = some l[m] := by rw [take_succ (List.getElem?_eq_getElem hm'), List.getLast?_append]; rfl
     rw [e3]
     by_cases hne : l[m + 1] = l[m]
     ·simp [hne]
     ·have : ¬ l[m] = l[m + 1] := fun h => hne h.symm
      simp [hne, this]
theorem SG (l : List Int) : vv l = sJ none l := by
 unfold vv Lib.compact
 rw [wK l l.length (Nat.le_refl _), List.take_length]
theorem VZ (l : List Int) : vv (yh l) = Rb l := by rw [YA, SG]; rfl
theorem Oh : ∀ {l : List Int} {p : Option Int} {x : Int}, p ≠ some x → (x ∈ sJ p l ↔ x ∈ l)
 | [], _, _, _ => Iff.rfl
 | a :: t, p, x, hp => by
   unfold sJ
   by_cases hx : x = a
   ·subst hx
    rw [if_neg hp]; simp
   ·have ih := Oh (l := t) (p := some a) (x := x) (fun e => hx (by cases e; rfl))
    split <;> simp [ih, hx]
theorem Td : ∀ {l : List Int} {p : Option Int}, l.Pairwise (· ≤ ·) → (∀ q, p = some q → ∀ x ∈ l, q ≤ x) → (sJ p l).Pairwise (· < ·) ∧ ∀ q, p = some q → ∀ x ∈ sJ p l, q < x
 | [], p, _, _ => ⟨List.Pairwise.nil, fun _ _ _ h => by cases h⟩
 | a :: t, p, h, hp => by
   rw [List.pairwise_cons] at h
   obtain ⟨i1, i2⟩ := Td (l := t) (p := some a) h.2 (fun q hq x hx => by cases hq; exact h.1 x hx)
   unfold sJ
   split
   ·rename_i e
    exact ⟨i1, fun q hq x hx => by rw [e] at hq; cases hq; exact i2 _ rfl x hx⟩
   ·rename_i e
    refine ⟨List.pairwise_cons.2 ⟨fun x hx => i2 _ rfl x hx, i1⟩, fun q hq x hx => ?_⟩
    have := hp q hq a (by simp)
    have hne : q ≠ a := fun h => e (by rw [hq, h])
    rcases List.mem_cons.1 hx with rfl | hx
    ·omega
    ·have := i2 _ rfl x hx; omega
theorem uW {l : List Int} {x : Int} : x ∈ Rb l ↔ x ∈ l := by
 unfold Rb
 rw [Oh (by simp), (rj l).mem_iff]
theorem Ro (l : List Int) : (Rb l).Pairwise (· < ·) := (Td (ri l) (fun q hq => by cases hq)).1
theorem Oi : ∀ (l : List Int) (p : Option Int), (sJ p l).length ≤ l.length
 | [], _ => Nat.le_refl _
 | a :: t, p => by
   have := Oi t (some a)
   unfold sJ
   split <;> simp <;> omega
theorem EP (l : List Int) : (Rb l).length ≤ l.length := by
 unfold Rb
 have := Oi (KV l) none
 rwa [(rj l).length_eq] at this
theorem aa4 {l m : List Int} (hl : l.Pairwise (· < ·)) (hm : m.Pairwise (· < ·)) (h : ∀ x, x ∈ l ↔ x ∈ m) : l = m := by
 induction l generalizing m with
 | nil =>
   cases m with
   | nil => rfl
   | cons a t => have := (h a).2 (by simp); cases this
 | cons a t ih =>
   rw [List.pairwise_cons] at hl
   cases m with
   | nil => have := (h a).1 (by simp); cases this
   | cons b u =>
     rw [List.pairwise_cons] at hm
     have hab : a = b := by
      rcases List.mem_cons.1 ((h a).1 (by simp)) with h1 | h1
      ·exact h1
      ·rcases List.mem_cons.1 ((h b).2 (by simp)) with h2 | h2
       ·exact h2.symm
       ·have := hm.1 a h1; have := hl.1 b h2; omega
     subst hab
     rw [ih hl.2 hm.2 fun x => ?_]
     constructor
     ·intro hx
      rcases List.mem_cons.1 ((h x).1 (by simp [hx])) with h1 | h1
      ·have := hl.1 x hx; omega
      ·exact h1
     ·intro hx
      rcases List.mem_cons.1 ((h x).2 (by simp [hx])) with h1 | h1
      ·have := hm.1 x hx; omega
      ·exact h1
end Go.Proofs.ZzM
end
noncomputable section
namespace Go.Proofs.ZzM
open Go Go.Am
def C3 (b : bH) (s : List (Int × b9)) (c : Cmp) : Int :=
 if (c.2.2.1 ++ c.2.2.2.1).any (fun id => oz s id c.2.1 == 5) then 5 else
 if (c.2.2.1 ++ c.2.2.2.1).any (fun id => oz s id c.2.1 == 4) then 4 else
 if (c.2.2.1 ++ c.2.2.2.1).any (fun id => (EI b id c.2.1).isSome) then 9 else
 if 1 < (cw c.2.2.1 c.2.2.2.1).length then 1 else if 1 < (cw c.2.2.2.1 c.2.2.1).length then 1 else
 if (cw c.2.2.1 c.2.2.2.1).length + (cw c.2.2.2.1 c.2.2.1).length = 0 then 1 else 0
def UK (c : Cmp) : Bool :=
 inP c.1 1 1099511627776 && (NL c.2.1 && (inP c.2.2.2.2.1 (-1125899906842624) 1125899906842624 && (inP c.2.2.2.2.2.1 0 1073741824 && (nv c.2.2.2.2.2.2 (-10000) 10000 && (lY c.2.2.1 && lY c.2.2.2.1)))))
def vu (b : bH) (s : List (Int × b9)) (i : Nat) (c : Cmp) : Int :=
 if !UK c then 1 else if (b.2.2.2.2.1.take i).any (fun x => x.1 == c.1) then 6 else C3 b s c
theorem Ql (a b : List Int) : (cw a b).length ≤ a.length := List.length_filter_le _ _
set_option maxHeartbeats 1000000 in
theorem H6 {b : bH} (hn : b.2.2.2.2.1.length ≤ 1000) (hl : b.2.2.2.1.length ≤ 1000) (s : List (Int × b9)) {i : Nat} {c : Cmp} (hA : c.2.2.1.length ≤ 1000) (hB : c.2.2.2.1.length ≤ 1000)
 (hc : b.2.2.2.2.1[i]? = some c) : dC b s i = some (vu b s i c) := by
 have hi : i < b.2.2.2.2.1.length := (List.getElem?_eq_some_iff.1 hc).1
 unfold dC lJ vu UK
 rw [bp hc, fV, aW]
 cases inP c.1 1 1099511627776 with
 | false => rfl
 | true =>
 rw [E5, aW]
 cases NL c.2.1 with
 | false => rfl
 | true =>
 rw [fV, aW]
 cases inP c.2.2.2.2.1 (-1125899906842624) 1125899906842624 with
 | false => rfl
 | true =>
 rw [fV, aW]
 cases inP c.2.2.2.2.2.1 0 1073741824 with
 | false => rfl
 | true =>
 rw [Au, aW]
 cases nv c.2.2.2.2.2.2 (-10000) 10000 with
 | false => rfl
 | true =>
 rw [As (by omega), aW]
 cases lY c.2.2.1 with
 | false => rfl
 | true =>
 rw [As (by omega), aW]
 cases lY c.2.2.2.1 with
 | false => rfl
 | true =>
 have hg : ((ile (0 : Int) (i : Int)) && (ile (i : Int) (dt b.2.2.2.2.1))) = true := by simp [ile, dt]; omega
 simp only [Bool.not_true, bX, Bool.and_self, Bool.false_eq_true, if_false]
 rw [dA hg, Int.toNat_natCast]
 -- what comes behind the IDs
 have rest : (aZ (bL ([c.2.2.1, c.2.2.2.1])) fun r12 => bt (fun (v36 : Int) kk38 => dM s r12 (bE ([(5 : Int), (4 : Int)])) c.2.1 ([(5 : Int), (4 : Int)]) v36 (fun u37 => kk38 u37) (fun z23 => some z23) (fun _ => bt (fun (v33 : Int) kk35 => dL r12 (bE r12) b.1.1 b.1.2 b.2.1 b.2.2.1 b.2.2.2.1 b.2.2.2.2.1 b.2.2.2.2.2 c.2.1 v33 (fun u34 => kk35 u34) (fun z28 => some z28) (fun _ => aZ (eA c.2.2.1 c.2.2.2.1) fun r30 => aZ (eA c.2.2.2.1 c.2.2.1) fun r31 => ifb (igt (bE r30) (1 : Int)) (some (1 : Int)) (ifb (igt (bE r31) (1 : Int)) (some (1 : Int)) (ck ((bE r30) + (bE r31)) fun n32 => ifb (ieq n32 (0 : Int)) (some (1 : Int)) (some (0 : Int)))))) (0 : Int))) (0 : Int)) = some (C3 b s c) := by
  rw [Yi (by omega) (by omega), aW]
  have hall : (c.2.2.1 ++ c.2.2.2.1).length ≤ 2000 := by simp; omega
  have last : (aZ (eA c.2.2.1 c.2.2.2.1) fun r30 => aZ (eA c.2.2.2.1 c.2.2.1) fun r31 => ifb (igt (bE r30) (1 : Int)) (some (1 : Int)) (ifb (igt (bE r31) (1 : Int)) (some (1 : Int)) (ck ((bE r30) + (bE r31)) fun n32 => ifb (ieq n32 (0 : Int)) (some (1 : Int)) (some (0 : Int))))) =
   some (if 1 < (cw c.2.2.1 c.2.2.2.1).length then 1 else if 1 < (cw c.2.2.2.1 c.2.2.1).length then 1 else if (cw c.2.2.1 c.2.2.2.1).length + (cw c.2.2.2.1 c.2.2.1).length = 0 then 1 else 0) := by
   rw [oR (by omega) (by omega), aW, oR (by omega) (by omega), aW]
   have l1 := Ql c.2.2.1 c.2.2.2.1
   have l2 := Ql c.2.2.2.1 c.2.2.1
   rw [b8, b8, bz (by omega) (by omega)]
   by_cases c1 : 1 < (cw c.2.2.1 c.2.2.2.1).length
   ·rw [bI (by simp [igt]; omega), if_pos c1]
   rw [bu (by simp [igt]; omega), if_neg c1]
   by_cases c2 : 1 < (cw c.2.2.2.1 c.2.2.1).length
   ·rw [bI (by simp [igt]; omega), if_pos c2]
   rw [bu (by simp [igt]; omega), if_neg c2]
   by_cases c3 : (cw c.2.2.1 c.2.2.2.1).length + (cw c.2.2.2.1 c.2.2.1).length = 0
   ·rw [bI (by simp [ieq]; omega), if_pos c3]
   rw [bu (by simp [ieq]; omega), if_neg c3]
  refine Eq.trans (pQ [(5 : Int), 4] (fun _ want => if (c.2.2.1 ++ c.2.2.2.1).any (fun id => oz s id c.2.1 == want) then some want else none) some (some (if (c.2.2.1 ++ c.2.2.2.1).any (fun id => (EI b id c.2.1).isSome) then 9 else if 1 < (cw c.2.2.1 c.2.2.2.1).length then 1 else if 1 < (cw c.2.2.2.1 c.2.2.1).length then 1 else if (cw c.2.2.1 c.2.2.2.1).length + (cw c.2.2.2.1 c.2.2.1).length = 0 then 1 else 0)) (fun j want hj hw kn => ?_) (fun kn => ?_)) ?_
  ·try dsimp only
   unfold dM
   rw [bv hj, gO hj, eJ hw]
   refine Eq.trans (ip (c.2.2.1 ++ c.2.2.2.1) (fun id => oz s id c.2.1 == want) (fun _ => some want) (some want) (kn ((j : Int) + 1)) (fun _ => rfl) (fun k a hk ha kn' => ?_) (fun kn' => ?_)) ?_
   ·try dsimp only
    unfold gw
    rw [bv hk, bp ha, RI, aW, br hk (by omega), dp]
   ·try dsimp only
    unfold gw
    rw [bU, br hj (by simp)]
   ·cases List.any (c.2.2.1 ++ c.2.2.2.1) (fun id => oz s id c.2.1 == want) <;> rfl
  ·try dsimp only
   unfold dM
   rw [bU]
   refine Eq.trans (ip (c.2.2.1 ++ c.2.2.2.1) (fun id => (EI b id c.2.1).isSome) (fun _ => some 9) (some 9) (some (if 1 < (cw c.2.2.1 c.2.2.2.1).length then 1 else if 1 < (cw c.2.2.2.1 c.2.2.1).length then 1 else if (cw c.2.2.1 c.2.2.2.1).length + (cw c.2.2.2.1 c.2.2.1).length = 0 then 1 else 0)) (fun _ => rfl) (fun k a hk ha kn' => ?_) (fun kn' => ?_)) ?_
   ·try dsimp only
    unfold dL
    have haw := aa3 hl a c.2.1
    rw [bv hk, bp ha, br hk (by omega)]
    rw [show vr ((b.1.1, b.1.2), b.2.1, b.2.2.1, b.2.2.2.1, b.2.2.2.2.1, b.2.2.2.2.2) a c.2.1 = vr b a c.2.1 from rfl, haw, aW]
    cases EI b a c.2.1 <;> rfl
   ·try dsimp only
    unfold dL
    rw [bU, last]
   ·cases List.any (c.2.2.1 ++ c.2.2.2.1) (fun id => (EI b id c.2.1).isSome) <;> rfl
  ·unfold C3 fk fk fk
   try dsimp only
   cases List.any (c.2.2.1 ++ c.2.2.2.1) (fun id => oz s id c.2.1 == 5) with
   | true => rfl
   | false =>
   cases List.any (c.2.2.1 ++ c.2.2.2.1) (fun id => oz s id c.2.1 == 4) <;> rfl
 refine Eq.trans (ip (b.2.2.2.2.1.take i) (fun x => x.1 == c.1) (fun z11 => ifb (ige z11 (0 : Int)) (some 6) (some (C3 b s c))) (some 6) (some (C3 b s c)) (fun j => ?_) (fun j a hj ha kn => ?_) (fun kn => ?_)) ?_
 ·have : ige (j : Int) 0 = true := by simp [ige]
  rw [bI this]
 ·try dsimp only
  unfold gx
  rw [rest, bv hj, bp ha, br hj (by rw [List.length_take]; omega), dp]
 ·try dsimp only
  unfold gx
  rw [bU, rest]
 ·cases List.any (b.2.2.2.2.1.take i) (fun x => x.1 == c.1) <;> rfl
def NK (b : bH) (g : b9) : List Int :=
 [g.2.1] ++ (b.2.2.2.2.1.filter fun c => !(c.2.2.1.contains g.1 == c.2.2.2.1.contains g.1)).map (fun c => c.2.1) ++ (b.2.2.2.2.2.filter fun n => n.1 == g.1).map (fun n => n.2)
def bG (b : bH) (g : b9) : List Int := Rb (NK b g)
structure jM (b : bH) : Prop where
 gauges : b.2.1.length ≤ 1000
 uses : b.2.2.1.length ≤ 1000
 loans : b.2.2.2.1.length ≤ 1000
 compares : b.2.2.2.2.1.length ≤ 1000
 looks : b.2.2.2.2.2.length ≤ 1000
 piles : ∀ c ∈ b.2.2.2.2.1, c.2.2.1.length ≤ 1000 ∧ c.2.2.2.1.length ≤ 1000
theorem Ou (l : List Int) : (yh l).length = l.length := List.length_mergeSort l
theorem QK {b : bH} (hs : jM b) (g : b9) : (NK b g).length ≤ 2001 := by
 have h1 := hs.compares
 have h2 := hs.looks
 have h3 := List.length_filter_le (fun c : Cmp => !(c.2.2.1.contains g.1 == c.2.2.2.1.contains g.1)) b.2.2.2.2.1
 have h4 := List.length_filter_le (fun n : Int × Int => n.1 == g.1) b.2.2.2.2.2
 simp only [NK, List.length_append, List.length_map, List.length_singleton]
 omega
theorem Xu {b : bH} (hs : jM b) (g : b9) : me b g = some (bG b g) := by
 unfold me Nj
 have hr := QK hs g
 have hd : (bG b g).length ≤ 2001 := by
  unfold bG
  have := EP (NK b g)
  omega
 have hcl := hs.compares
 have hll := hs.looks
 refine cD b.2.2.2.2.1 (fun i => [g.2.1] ++ ((b.2.2.2.2.1.take i).filter fun c => !(c.2.2.1.contains g.1 == c.2.2.2.1.contains g.1)).map (fun c => c.2.1)) _ rfl (fun i c hi hc kn => ?_) (fun kn => ?_)
 ·try dsimp only
  unfold rd
  obtain ⟨p1, p2⟩ := hs.piles c (List.mem_of_getElem? hc)
  rw [bv hi, bp hc, lC (by omega), aW, lC (by omega), aW, br hi (by omega), br hi (by omega), take_succ hc, List.filter_append, List.map_append]
  have hlen : ([g.2.1] ++ ((b.2.2.2.2.1.take i).filter fun c => !(c.2.2.1.contains g.1 == c.2.2.2.1.contains g.1)).map (fun c => c.2.1)).length ≤ 1001 := by
   have h3 := List.length_filter_le (fun c : Cmp => !(c.2.2.1.contains g.1 == c.2.2.2.1.contains g.1)) (b.2.2.2.2.1.take i)
   rw [List.length_take] at h3
   simp only [List.length_append, List.length_map, List.length_singleton]
   omega
  rw [bw (by simp only [List.length_singleton]; omega), Am.iff_true]
  cases h : (c.2.2.1.contains g.1 == c.2.2.2.1.contains g.1) with
  | true => simp only [Bool.not_true, bX, List.filter_cons, h, Bool.false_eq_true, if_false, List.filter_nil, List.map_nil, List.append_nil]
  | false => simp only [Bool.not_false, ez, List.filter_cons, h, if_true, List.filter_nil, List.map_cons, List.map_nil, List.append_assoc]
 ·try dsimp only
  unfold rd
  rw [bU, List.take_length]
  refine cD b.2.2.2.2.2 (fun i => [g.2.1] ++ (b.2.2.2.2.1.filter fun c => !(c.2.2.1.contains g.1 == c.2.2.2.1.contains g.1)).map (fun c => c.2.1) ++ ((b.2.2.2.2.2.take i).filter fun n => n.1 == g.1).map (fun n => n.2)) _ (by simp) (fun i n hi hn kn => ?_) (fun kn => ?_)
  ·try dsimp only
   unfold rc
   rw [bv hi, bp hn, br hi (by omega), br hi (by omega), take_succ hn, List.filter_append, List.map_append]
   have hlen : ([g.2.1] ++ (b.2.2.2.2.1.filter fun c => !(c.2.2.1.contains g.1 == c.2.2.2.1.contains g.1)).map (fun c => c.2.1) ++ ((b.2.2.2.2.2.take i).filter fun n => n.1 == g.1).map (fun n => n.2)).length ≤ 2001 := by
    have h3 := List.length_filter_le (fun c : Cmp => !(c.2.2.1.contains g.1 == c.2.2.2.1.contains g.1)) b.2.2.2.2.1
    have h4 := List.length_filter_le (fun n : Int × Int => n.1 == g.1) (b.2.2.2.2.2.take i)
    rw [List.length_take] at h4
    simp only [List.length_append, List.length_map, List.length_singleton]
    omega
   rw [bw (by simp only [List.length_singleton]; omega), Am.iff_true]
   cases h : (n.1 == g.1) with
   | true =>
     have : ieq n.1 g.1 = true := h
     simp [h, this]
   | false =>
     have : ieq n.1 g.1 = false := h
     simp [h, this]
  ·try dsimp only
   unfold rc
   rw [bU, List.take_length]
   rw [show ([g.2.1] ++ (b.2.2.2.2.1.filter fun c => !(c.2.2.1.contains g.1 == c.2.2.2.1.contains g.1)).map (fun c => c.2.1) ++ (b.2.2.2.2.2.filter fun n => n.1 == g.1).map (fun n => n.2)) = NK b g from rfl]
   dsimp only
   rw [bw (by omega), Am.iff_true, bw (by rw [Ou]; omega), Am.iff_true, VZ]
   rfl
def bn (b : bH) : List (Int × Int) := b.2.1.flatMap fun g => (bG b g).map fun d => ((g.1, d) : Int × Int)
theorem HX {b : bH} (hs : jM b) (g : b9) : (bG b g).length ≤ 2001 := by
 unfold bG
 have := EP (NK b g)
 have := QK hs g
 omega
theorem xV {α β : Type} (f : α → List β) (n : Nat) (h : ∀ a, (f a).length ≤ n) : ∀ l : List α, (l.flatMap f).length ≤ l.length * n
 | [] => by simp
 | a :: l => by
   have := xV f n h l
   have := h a
   simp only [List.flatMap_cons, List.length_append, List.length_cons, Nat.add_mul, Nat.one_mul]
   omega
theorem LT {b : bH} (hs : jM b) : nm b = some (bn b) := by
 unfold nm G9
 have hg := hs.gauges
 have hlen : ∀ l : List b9, (l.flatMap fun g => (bG b g).map fun d => ((g.1, d) : Int × Int)).length ≤ l.length * 2001 := fun l =>
  xV _ 2001 (fun g => by rw [List.length_map]; exact HX hs g) l
 refine cD b.2.1 (fun i => (b.2.1.take i).flatMap fun g => (bG b g).map fun d => ((g.1, d) : Int × Int)) _ rfl (fun i g hi hg' kn => ?_) (fun kn => ?_)
 ·try dsimp only
  unfold oh
  rw [bv hi, bp hg']
  rw [show me ((b.1.1, b.1.2), b.2.1, b.2.2.1, b.2.2.2.1, b.2.2.2.2.1, b.2.2.2.2.2) g = me b g from rfl, Xu hs, aW]
  have hd := HX hs g
  have hi2 := hlen (b.2.1.take i)
  have htl : (b.2.1.take i).length ≤ 1000 := by rw [List.length_take]; omega
  refine cD (bG b g) (fun j => ((b.2.1.take i).flatMap fun g => (bG b g).map fun d => ((g.1, d) : Int × Int)) ++ ((bG b g).take j).map fun d => ((g.1, d) : Int × Int)) _ (by simp) (fun j d hj hd' kn' => ?_) (fun kn' => ?_)
  ·try dsimp only
   unfold og
   rw [bv hj, bp hd', br hj (by omega), take_succ hd', List.map_append]
   rw [bw (by simp only [List.length_append, List.length_map, List.length_take, List.length_singleton]; omega), Am.iff_true]
   simp
  ·try dsimp only
   unfold og
   rw [bU, List.take_length]
   dsimp only
   rw [br hi (by omega), take_succ hg', List.flatMap_append]
   simp
 ·try dsimp only
  unfold oh
  rw [bU, List.take_length]
  rfl
def C4 (b : bH) (s : List (Int × b9)) : List Int :=
 b.2.2.1.map (fun u => Yu s u.1 u.2) ++ (b.2.2.2.1.mapIdx (fun i l => Sl b s i l) ++ (b.2.2.2.2.1.mapIdx (fun i c => vu b s i c) ++ b.2.2.2.2.2.map (fun u => Yu s u.1 u.2)))
theorem Pk {α : Type} {f : Int → Option Int} {g : Nat → α → Int} (l : List α) (h : ∀ (i : Nat) (a : α), l[i]? = some a → f i = some (g i a)) : FX f (sI l.length) = some (l.mapIdx g) := by
 have h1 : ∀ i, i < l.length → f (i : Int) = some ((l.mapIdx g)[i]?.getD 0) := by
  intro i hi
  rw [h i l[i] (List.getElem?_eq_getElem hi)]
  simp [hi]
 have h2 : ∀ x ∈ sI l.length, f x = some ((l.mapIdx g)[x.toNat]?.getD 0) := by
  intro x hx
  unfold sI at hx
  obtain ⟨i, hi, rfl⟩ := List.mem_map.1 hx
  rw [h1 i (by simpa using hi)]
  rfl
 rw [yG h2]
 congr 1
 refine List.ext_getElem (by simp [sI]) fun i h3 h4 => ?_
 have h5 : i < l.length := by simpa using h4
 simp [sI, h5]
theorem YJ {b : bH} (hs : jM b) (s : List (Int × b9)) : ln b s = some (C4 b s) := by
 unfold ln C4
 rw [yG (fun u _ => OT s u.1 u.2), aW, Pk b.2.2.2.1 (fun i l hl => QO hs.loans hs.uses s hl), aW,
  Pk b.2.2.2.2.1 (fun i c hc => H6 hs.compares hs.loans s (hs.piles c (List.mem_of_getElem? hc)).1 (hs.piles c (List.mem_of_getElem? hc)).2 hc), aW, yG (fun u _ => OT s u.1 u.2), aW]
def bO (b : bH) : Int :=
 if !nv b.1 0 1000000 then 1 else
 if 12 < b.2.1.length then 2 else if 40 < b.2.2.1.length then 2 else if 12 < b.2.2.2.1.length then 2 else if 40 < b.2.2.2.2.1.length then 2 else if 10 < b.2.2.2.2.2.length then 2 else
 if lN b != 0 then lN b else
 match (C4 b (jl b)).find? (fun e => e != 0) with
 | some e => e
 | none => if 59 < (bn b).length then 2 else if 300 < 2 * b.2.1.length + 2 * ((bn b).length - b.2.1.length : Int) + 2 * b.2.2.2.2.1.length then 2 else 0
theorem Kq {b : bH} (hs : jM b) : (bn b).length ≤ 2001000 := by
 have := xV (fun g : b9 => (bG b g).map fun d => ((g.1, d) : Int × Int)) 2001 (fun g => by rw [List.length_map]; exact HX hs g) b.2.1
 have h2 := hs.gauges
 unfold bn
 omega
theorem gF {b : bH} (hs : jM b) (hr : ∀ g ∈ b.2.1, I64 g.2.2.2.2.1.1) : bZ b = some (bO b) := by
 unfold bZ Hp bO
 rw [Au, aW]
 cases nv b.1 0 1000000 with
 | false => rfl
 | true =>
 have h1 := hs.gauges
 have h2 := hs.compares
 have h3 := Kq hs
 rw [bu (show (!true) = false from rfl), if_neg (by simp)]
 simp only [b8]
 by_cases c0 : 12 < b.2.1.length
 ·rw [bI (by simp [igt]; omega), if_pos c0]
 rw [bu (by simp [igt]; omega), if_neg c0]
 by_cases c1 : 40 < b.2.2.1.length
 ·rw [bI (by simp [igt]; omega), if_pos c1]
 rw [bu (by simp [igt]; omega), if_neg c1]
 by_cases c2 : 12 < b.2.2.2.1.length
 ·rw [bI (by simp [igt]; omega), if_pos c2]
 rw [bu (by simp [igt]; omega), if_neg c2]
 by_cases c3 : 40 < b.2.2.2.2.1.length
 ·rw [bI (by simp [igt]; omega), if_pos c3]
 rw [bu (by simp [igt]; omega), if_neg c3]
 by_cases c4 : 10 < b.2.2.2.2.2.length
 ·rw [bI (by simp [igt]; omega), if_pos c4]
 rw [bu (by simp [igt]; omega), if_neg c4]
 rw [JY hr h1, aW]
 cases hm : (lN b != 0) with
 | true =>
   have : ine (lN b) 0 = true := hm
   rw [bI this, if_pos rfl]
 | false =>
 have : ine (lN b) 0 = false := hm
 rw [bu this, if_neg (by simp)]
 rw [uV h1, aW]
 unfold OH
 rw [YJ hs, aW]
 cases (C4 b (jl b)).find? (fun e => e != 0) with
 | some e => rfl
 | none =>
 dsimp only
 rw [LT hs, aW]
 by_cases c5 : 59 < (bn b).length
 ·rw [bI (by simp [igt]; omega), if_pos c5]
 rw [bu (by simp [igt]; omega), if_neg c5]
 rw [bz (by omega) (by omega), bz (by omega) (by omega), bz (by omega) (by omega), bz (by omega) (by omega), bz (by omega) (by omega), bz (by omega) (by omega)]
 by_cases c6 : 300 < 2 * b.2.1.length + 2 * ((bn b).length - b.2.1.length : Int) + 2 * b.2.2.2.2.1.length
 ·rw [bI (by simp [igt]; omega), if_pos c6]
 rw [bu (by simp [igt]; omega), if_neg c6]
end Go.Proofs.ZzM
end
noncomputable section
namespace Go.Proofs.ZzM
open Go Go.Am
theorem wrapU {n : Nat} (h : n < 18446744073709551616) : IntKind.wrap .u64 (n : Int) = n := by
 simp only [IntKind.wrap, IntKind.bits, IntKind.signed]
 simp
 omega
theorem wrapI {n : Nat} (h : n < 9223372036854775808) : IntKind.wrap .i64 (n : Int) = n := by
 simp only [IntKind.wrap, IntKind.bits, IntKind.signed]
 simp
 omega
def iz (l : List (Int × Int)) (x d : Int) : Option Nat := l.findIdx? fun n => decide (x = n.1) && decide (d = n.2)
theorem Q5 {l : List (Int × Int)} (hn : l.length ≤ 100000000) (x d : Int) : bY l (x, d) = some (match iz l x d with | some j => (j : Int) | none => -1) := by
 unfold bY eV
 refine Eq.trans (hO l (fun n => decide (x = n.1) && decide (d = n.2)) some (some (-1)) (fun i a hi ha kn => ?_) (fun kn => ?_)) ?_
 ·try dsimp only
  unfold cZ
  rw [bv hi, bp ha, br hi (by omega), dp, Bool.and_true]
 ·try dsimp only
  unfold cZ
  rw [bU]
 ·unfold iz
  cases List.findIdx? (fun n => decide (x = n.1) && decide (d = n.2)) l <;> rfl
def atP (l : List (Int × Int)) (p : List Int) (d : Int) : Int :=
 match p with
 | [] => 0
 | x :: _ => match iz l x d with | some j => (j : Int) + 1 | none => 0
theorem i8 {l : List (Int × Int)} {x d : Int} {j : Nat} (h : iz l x d = some j) : j < l.length ∧ l[j]? = some (x, d) := by
 unfold iz at h
 obtain ⟨hj, hp, _⟩ := List.findIdx?_eq_some_iff_getElem.1 h
 refine ⟨hj, ?_⟩
 rw [List.getElem?_eq_getElem hj]
 simp only [Bool.and_eq_true, decide_eq_true_eq] at hp
 congr 1
 exact Prod.ext hp.1.symm hp.2.symm
theorem X3 (m : Maker) (p : List Int) (d : Int) (hn : m.2.1.length ≤ 100000000) : gn m p d = some (atP m.2.1 p d) := by
 unfold gn tU atP
 cases p with
 | nil => simp [b8, ieq]
 | cons x p =>
   have h : ieq (bE (x :: p)) 0 = false := by
    rw [b8]
    simp only [ieq, List.length_cons, beq_eq_false_iff_ne, ne_eq]
    omega
   rw [h, bX, show (0 : Int) = ((0 : Nat) : Int) from rfl, bp (a := x) rfl, Q5 hn, aW]
   cases hx : iz m.2.1 x d with
   | none => dsimp only; rw [bz (by omega) (by omega)]; simp only [hx]; rfl
   | some j =>
     have := (i8 hx).1
     dsimp only
     rw [bz (by omega) (by omega)]
     simp only [hx]
def D5 (s : List (Int × b9)) (p : List Int) : Int × Int :=
 match p with
 | [] => (0, 1)
 | x :: _ => match mJ (k := tI) (v := bj) x s with
   | some g => g.2.2.2.2.1
   | none => (0, 0)
theorem OG (s : List (Int × b9)) (p : List Int) : gK s p = some (D5 s p) := by
 unfold gK lI D5
 cases p with
 | nil => simp [b8, ieq]
 | cons x p =>
   have h : ieq (bE (x :: p)) 0 = false := by
    rw [b8]
    simp only [ieq, List.length_cons, beq_eq_false_iff_ne, ne_eq]
    omega
   rw [h, bX, show (0 : Int) = ((0 : Nat) : Int) from rfl, bp (a := x) rfl]
   cases hx : mJ (k := tI) (v := bj) x s with
   | none => simp only [ED, hx]
   | some g => simp only [ED, hx]
theorem Ta {l : List (Int × Int)} (hr : ∀ r ∈ l, I64 r.1) (hn : l.length ≤ 1000) : iK l = some (if l.any (fun r => !IH r) then 1 else 0) := by
 unfold iK GN
 refine Eq.trans (ip l (fun r => !IH r) (fun _ => some 1) (some 1) (some 0) (fun _ => rfl) (fun i a hi ha kn => ?_) (fun kn => ?_)) ?_
 ·try dsimp only
  unfold ob
  rw [bv hi, bp ha, N4 (hr a (List.mem_of_getElem? ha)), aW, br hi (by omega), dp]
 ·try dsimp only
  unfold ob
  rw [bU]
 ·cases l.any (fun r => !IH r) <;> rfl
def rM (n d : Int) : Int × Int := (n / (Nat.gcd n.natAbs d.natAbs : Nat), d / (Nat.gcd n.natAbs d.natAbs : Nat))
theorem lX (r : Int × Int) : IH r = true ↔ 1 ≤ r.2 ∧ r.2 ≤ 2147483647 ∧ (r.1.natAbs : Int) ≤ 2147483647 ∧ Nat.gcd r.1.natAbs r.2.natAbs = 1 := by
 simp [IH]
theorem LD {n d : Int} (hd : 0 < d) : ∃ g : Nat, 0 < g ∧ g = Nat.gcd n.natAbs d.natAbs ∧ n = (rM n d).1 * g ∧ d = (rM n d).2 * g := by
 have hg : 0 < Nat.gcd n.natAbs d.natAbs := Nat.gcd_pos_of_pos_right _ (by omega)
 refine ⟨_, hg, rfl, ?_, ?_⟩
 ·exact (Int.ediv_mul_cancel (Int.ofNat_dvd_left.2 (Nat.gcd_dvd_left _ _))).symm
 ·exact (Int.ediv_mul_cancel (Int.ofNat_dvd_left.2 (Nat.gcd_dvd_right _ _))).symm
theorem Ry {n d : Int} (hd : 0 < d) (hn : n.natAbs ≤ 2147483647) (hd2 : d ≤ 2147483647) : IH (rM n d) = true := by
 obtain ⟨g, h0, hg, h1, h2⟩ := LD (n := n) hd
 rw [lX]
 have a1 : n.natAbs = (rM n d).1.natAbs * g := by conv => lhs; rw [h1]; rw [Int.natAbs_mul, Int.natAbs_natCast]
 have a2 : d.natAbs = (rM n d).2.natAbs * g := by conv => lhs; rw [h2]; rw [Int.natAbs_mul, Int.natAbs_natCast]
 have p2 : 0 < (rM n d).2 := by
  rcases Int.lt_trichotomy (rM n d).2 0 with h | h | h
  ·have := Int.mul_neg_of_neg_of_pos h (show (0 : Int) < g by omega); omega
  ·rw [h] at h2; simp at h2; omega
  ·exact h
 have b1 : (rM n d).1.natAbs ≤ n.natAbs := by rw [a1]; exact Nat.le_mul_of_pos_right _ h0
 have b2 : (rM n d).2.natAbs ≤ d.natAbs := by rw [a2]; exact Nat.le_mul_of_pos_right _ h0
 refine ⟨by omega, by omega, by omega, ?_⟩
 have := Nat.gcd_mul_right (rM n d).1.natAbs g (rM n d).2.natAbs
 rw [← a1, ← a2, ← hg] at this
 have h3 : (Nat.gcd (rM n d).1.natAbs (rM n d).2.natAbs) * g = 1 * g := by omega
 exact Nat.eq_of_mul_eq_mul_right h0 h3
theorem Kf {n d : Int} (hd : 0 < d) (hn : n.natAbs ≤ 2147483647) (hd2 : d ≤ 2147483647) : nl n d = some (rM n d, 0) := by
 obtain ⟨g, h0, hg, h1, h2⟩ := LD (n := n) hd
 have hr := (lX _).1 (Ry hd hn hd2)
 unfold nl xA
 rw [Ly ⟨by omega, by omega⟩, aW, Ly ⟨by omega, by omega⟩, aW, Z2, aW, ← hg]
 have a1 : n.natAbs = (rM n d).1.natAbs * g := by conv => lhs; rw [h1]; rw [Int.natAbs_mul, Int.natAbs_natCast]
 have a2 : d.natAbs = (rM n d).2.natAbs * g := by conv => lhs; rw [h2]; rw [Int.natAbs_mul, Int.natAbs_natCast]
 have q1 : Int.tdiv (n.natAbs : Int) (g : Int) = ((rM n d).1.natAbs : Int) := by
  rw [a1, Int.natCast_mul]; exact Int.mul_tdiv_cancel _ (by omega)
 have q2 : Int.tdiv (d.natAbs : Int) (g : Int) = ((rM n d).2.natAbs : Int) := by
  rw [a2, Int.natCast_mul]; exact Int.mul_tdiv_cancel _ (by omega)
 have z : ff (g : Int) 0 = false := by simp [ff]; omega
 have g1 : igt ((rM n d).1.natAbs : Int) 2147483647 = false := by simp [igt]; omega
 have g2 : igt ((rM n d).2.natAbs : Int) 2147483647 = false := by simp [igt]; omega
 rw [bu z, bu z, q1, q2, wrapU (by omega), wrapU (by omega), wrapI (by omega), wrapI (by omega), bu g1, bu g2]
 have hd0 : ilt d 0 = false := by simp [ilt]; omega
 rw [hd0]
 have e2 : ((rM n d).2.natAbs : Int) = (rM n d).2 := by omega
 rw [e2]
 by_cases hneg : n < 0
 ·have hn0 : ilt n 0 = true := by simp [ilt, hneg]
  have : (rM n d).1 ≤ 0 := by
   rcases Int.lt_or_le 0 (rM n d).1 with h | h
   ·have := Int.mul_pos h (show (0 : Int) < g by omega); omega
   ·exact h
  rw [hn0]
  rw [show (!true == false) = true from rfl, ez, bz (by omega) (by omega)]
  have : 0 - ((rM n d).1.natAbs : Int) = (rM n d).1 := by omega
  rw [this]
 ·have hn0 : ilt n 0 = false := by simp [ilt]; omega
  have : 0 ≤ (rM n d).1 := by
   rcases Int.lt_or_le (rM n d).1 0 with h | h
   ·have := Int.mul_neg_of_neg_of_pos h (show (0 : Int) < g by omega); omega
   ·exact h
  rw [hn0]
  rw [show (!false == false) = false from rfl, bX]
  have : ((rM n d).1.natAbs : Int) = (rM n d).1 := by omega
  rw [this]
structure qi (r : Int × Int) (n d : Int) : Prop where
 rat : IH r = true
 num : -n ≤ r.1 ∧ r.1 ≤ n
 den : r.2 ≤ d
theorem qi.pos {r : Int × Int} {n d : Int} (h : qi r n d) : 1 ≤ r.2 := ((lX r).1 h.rat).1
theorem qi.i64 {r : Int × Int} {n d : Int} (h : qi r n d) : I64 r.1 := by
 have := ((lX r).1 h.rat).2.2.1
 exact ⟨by omega, by omega⟩
theorem VL {x y : Int × Int} (hx : IH x = true) (hy : IH y = true) : iK [x, y] = some 0 := by
 rw [Ta]
 ·simp [hx, hy]
 ·intro r hr
  have : IH r = true := by simp at hr; rcases hr with rfl | rfl <;> assumption
  have := ((lX r).1 this).2.2.1
  exact ⟨by omega, by omega⟩
 ·simp
theorem nE {a b m n : Int} (h1 : -m ≤ a ∧ a ≤ m) (h2 : -n ≤ b ∧ b ≤ n) : -(m * n) ≤ a * b ∧ a * b ≤ m * n := by
 have hm : 0 ≤ m := by omega
 have hn : 0 ≤ n := by omega
 have h3 : (a * b).natAbs ≤ (m * n).natAbs := by
  rw [Int.natAbs_mul, Int.natAbs_mul]
  exact Nat.mul_le_mul (by omega) (by omega)
 have h4 : 0 ≤ m * n := Int.mul_nonneg hm hn
 omega
def subP (x y : Int × Int) : Int × Int := rM (x.1 * y.2 - y.1 * x.2) (x.2 * y.2)
theorem J9 {x y : Int × Int} (hx : qi x 1000 100) (hy : qi y 1000 100) : (x.1 * y.2 - y.1 * x.2).natAbs ≤ 200000 ∧ 0 < x.2 * y.2 ∧ x.2 * y.2 ≤ 10000 := by
 have h1 := nE hx.num (show -100 ≤ y.2 ∧ y.2 ≤ 100 from ⟨by have := hy.pos; omega, hy.den⟩)
 have h2 := nE hy.num (show -100 ≤ x.2 ∧ x.2 ≤ 100 from ⟨by have := hx.pos; omega, hx.den⟩)
 have h3 := nE (show -100 ≤ x.2 ∧ x.2 ≤ 100 from ⟨by have := hx.pos; omega, hx.den⟩) (show -100 ≤ y.2 ∧ y.2 ≤ 100 from ⟨by have := hy.pos; omega, hy.den⟩)
 have h4 := Int.mul_pos (show 0 < x.2 by have := hx.pos; omega) (show 0 < y.2 by have := hy.pos; omega)
 refine ⟨by omega, h4, by omega⟩
theorem Sub_ok {x y : Int × Int} (hx : qi x 1000 100) (hy : qi y 1000 100) : NH x y = some (subP x y, 0) := by
 obtain ⟨b1, b2, b3⟩ := J9 hx hy
 have h1 := nE hx.num (show -100 ≤ y.2 ∧ y.2 ≤ 100 from ⟨by have := hy.pos; omega, hy.den⟩)
 have h2 := nE hy.num (show -100 ≤ x.2 ∧ x.2 ≤ 100 from ⟨by have := hx.pos; omega, hx.den⟩)
 unfold NH R4
 rw [VL hx.rat hy.rat, aW]
 rw [show ine (0 : Int) 0 = false from rfl, bX, bz (by omega) (by omega), bz (by omega) (by omega), bz (by omega) (by omega), bz (by omega) (by omega), Kf b2 (by omega) (by omega), aW]
 rfl
theorem V9 {n d : Int} (hd : 0 < d) : (rM n d).1.natAbs ≤ n.natAbs ∧ (rM n d).2 ≤ d := by
 obtain ⟨g, h0, hg, h1, h2⟩ := LD (n := n) hd
 have a1 : n.natAbs = (rM n d).1.natAbs * g := by conv => lhs; rw [h1]; rw [Int.natAbs_mul, Int.natAbs_natCast]
 have a2 : d.natAbs = (rM n d).2.natAbs * g := by conv => lhs; rw [h2]; rw [Int.natAbs_mul, Int.natAbs_natCast]
 have b1 : (rM n d).1.natAbs ≤ n.natAbs := by rw [a1]; exact Nat.le_mul_of_pos_right _ h0
 have b2 : (rM n d).2.natAbs ≤ d.natAbs := by rw [a2]; exact Nat.le_mul_of_pos_right _ h0
 exact ⟨b1, by omega⟩
theorem Lt {x y : Int × Int} (hx : qi x 1000 100) (hy : qi y 1000 100) : qi (subP x y) 200000 10000 := by
 obtain ⟨b1, b2, b3⟩ := J9 hx hy
 obtain ⟨c1, c2⟩ := V9 (n := x.1 * y.2 - y.1 * x.2) b2
 exact ⟨Ry b2 (by omega) (by omega), by unfold subP; omega, by unfold subP; omega⟩
def VA (k : Int × Int) (n : Int) : Int × Int := rM (k.1 * n) k.2
theorem Kv {k : Int × Int} (hk : qi k 200000 10000) {n : Int} (hn : -10000 ≤ n ∧ n ≤ 10000) : (k.1 * n).natAbs ≤ 2000000000 := by
 have := nE hk.num hn
 omega
theorem So {n : Int} (hn : -10000 ≤ n ∧ n ≤ 10000) : IH (n, 1) = true := by
 rw [lX]
 exact ⟨by simp, by simp, by simp; omega, by simp⟩
theorem aaf {k : Int × Int} (hk : qi k 200000 10000) {n : Int} (hn : -10000 ≤ n ∧ n ≤ 10000) : HS k (n, 1) = some (VA k n, 0) := by
 have b := Kv hk hn
 have p := hk.pos
 have q := hk.den
 unfold HS R6
 rw [VL hk.rat (So hn), aW]
 rw [show ine (0 : Int) 0 = false from rfl, bX, bz (by simp only; omega) (by simp only; omega), Int.mul_one, bz (by omega) (by omega), Kf (by omega) (by simp only; omega) (by omega), aW]
 rfl
theorem LY {k : Int × Int} (hk : qi k 200000 10000) {n : Int} (hn : -10000 ≤ n ∧ n ≤ 10000) : qi (VA k n) 2000000000 10000 := by
 have b := Kv hk hn
 have p := hk.pos
 have q := hk.den
 obtain ⟨c1, c2⟩ := V9 (n := k.1 * n) (show 0 < k.2 by omega)
 exact ⟨Ry (by omega) (by omega) (by omega), by unfold VA; omega, by unfold VA; omega⟩
def cmpP (x y : Int × Int) : Int := if x = y then 0 else if x.1 * y.2 < y.1 * x.2 then -1 else if y.1 * x.2 < x.1 * y.2 then 1 else 0
theorem Z7 {x y : Int × Int} {m d : Int} (hx : qi x m d) (hy : qi y m d) (hm : m ≤ 2000000000) (hd : d ≤ 10000) : HP x y = some (cmpP x y) := by
 have h1 := nE hx.num (show -d ≤ y.2 ∧ y.2 ≤ d from ⟨by have := hy.pos; have := hy.den; omega, hy.den⟩)
 have h2 := nE hy.num (show -d ≤ x.2 ∧ x.2 ≤ d from ⟨by have := hx.pos; have := hx.den; omega, hx.den⟩)
 have h0 : 0 ≤ m ∧ 0 ≤ d := ⟨by have := hx.num; omega, by have := hx.pos; have := hx.den; omega⟩
 have h3 : m * d ≤ 2000000000 * 10000 := Int.mul_le_mul hm hd h0.2 (by omega)
 unfold HP R2 cmpP
 rw [bz (by omega) (by omega), bz (by omega) (by omega)]
 simp only [dp, Bool.and_true, Bool.and_eq_true, decide_eq_true_eq, ff, ilt, igt, gt_iff_lt]
 have : (x.1 = y.1 ∧ x.2 = y.2) ↔ x = y := ⟨fun h => Prod.ext h.1 h.2, fun h => by rw [h]; exact ⟨rfl, rfl⟩⟩
 simp only [this]
 (repeat' split) <;> rfl
def UF (k : Int × Int) (heat : Int × Int) : (Int × Int) × (Int × Int) :=
 if 0 < cmpP (VA k heat.1) (VA k heat.2) then (VA k heat.2, VA k heat.1) else (VA k heat.1, VA k heat.2)
theorem aay {k heat : Int × Int} (hk : qi k 200000 10000) (hh : nv heat (-10000) 10000 = true) : md k heat = some (UF k heat) := by
 simp only [nv, Bool.and_eq_true, decide_eq_true_eq] at hh
 obtain ⟨h1, h2, h3⟩ := hh
 have n1 : -10000 ≤ heat.1 ∧ heat.1 ≤ 10000 := ⟨by omega, by omega⟩
 have n2 : -10000 ≤ heat.2 ∧ heat.2 ≤ 10000 := ⟨by omega, by omega⟩
 have r1 : qi (heat.1, 1) 10000 10000 := ⟨So n1, n1, by simp⟩
 have r2 : qi (heat.2, 1) 10000 10000 := ⟨So n2, n2, by simp⟩
 unfold md qR HQ GX oU oO
 rw [VL r1.rat r2.rat, aW]
 have : ieq 0 0 = true := rfl
 rw [bI this, Z7 r1 r2 (by omega) (by omega), aW]
 have hc : ile (cmpP (heat.1, 1) (heat.2, 1)) 0 = true := by
  unfold cmpP
  simp only [ile, decide_eq_true_eq, Int.mul_one]
  split
  ·omega
  ·split
   ·omega
   ·rw [if_neg (by omega)]; omega
 rw [hc, aW]
 simp only [Bool.not_true, bX]
 rw [N4 hk.i64, hk.rat, aW]
 simp only [Bool.not_true, bX]
 rw [aaf hk n1, aW, aaf hk n2, aW]
 simp only [show ine (0 : Int) 0 = false from rfl, bX]
 rw [Z7 (LY hk n1) (LY hk n2) (by omega) (by omega), aW]
 unfold UF
 rw [dp]
 by_cases h : 0 < cmpP (VA k heat.1) (VA k heat.2)
 ·rw [if_pos h, if_pos (by simpa [igt] using h)]; rfl
 ·rw [if_neg h, if_neg (by simpa [igt] using h)]; rfl
def rateK (s : List (Int × b9)) (c : Cmp) : Int × Int := subP (D5 s (cw c.2.2.1 c.2.2.2.1)) (D5 s (cw c.2.2.2.1 c.2.2.1))
def dG (b : bH) (c : Cmp) : (Int × Int) × (Int × Int) := UF (rateK (jl b) c) c.2.2.2.2.2.2
theorem Qx {b : bH} (hs : jM b) {c : Cmp} (hA : c.2.2.1.length ≤ 1000) (hB : c.2.2.2.1.length ≤ 1000)
 (h1 : qi (D5 (jl b) (cw c.2.2.1 c.2.2.2.1)) 1000 100) (h2 : qi (D5 (jl b) (cw c.2.2.2.1 c.2.2.1)) 1000 100) (hh : nv c.2.2.2.2.2.2 (-10000) 10000 = true) : mz b c = some (dG b c) := by
 unfold mz Cf
 rw [uV hs.gauges, aW, oR (by omega) (by omega), aW, OG, aW, oR (by omega) (by omega), aW, OG, aW]
 unfold rq qS
 rw [Sub_ok h1 h2, aW, aW]
 try dsimp only
 rw [aay (Lt h1 h2) hh, aW]
 rfl
def je (b : bH) (c : Cmp) : Int × Int :=
 (((c.2.2.1.length - 1 : Nat) : Int) * b.1.1 - ((c.2.2.2.1.length - 1 : Nat) : Int) * b.1.2, ((c.2.2.1.length - 1 : Nat) : Int) * b.1.2 - ((c.2.2.2.1.length - 1 : Nat) : Int) * b.1.1)
theorem TY {b : bH} {c : Cmp} (hA : c.2.2.1.length ≤ 1000) (hB : c.2.2.2.1.length ≤ 1000) (h1 : 0 ≤ b.1.1) (h2 : b.1.1 ≤ 1000000) (h3 : 0 ≤ b.1.2) (h4 : b.1.2 ≤ 1000000) : p9 b c = some (je b c) := by
 unfold p9 Hj je
 have e : ∀ n : Nat, Rd 0 ((n : Int) - 1) = ((n - 1 : Nat) : Int) := by
  intro n
  unfold Rd
  split <;> omega
 have bd : ∀ (n : Nat) (x : Int), n ≤ 1000 → 0 ≤ x → x ≤ 1000000 → 0 ≤ ((n - 1 : Nat) : Int) * x ∧ ((n - 1 : Nat) : Int) * x ≤ 1000000000 := by
  intro n x hn h0 hx
  refine ⟨Int.mul_nonneg (by omega) h0, ?_⟩
  have := Int.mul_le_mul (show ((n - 1 : Nat) : Int) ≤ 1000 by omega) hx h0 (by omega)
  omega
 have b1 := bd _ _ hA h1 h2
 have b2 := bd _ _ hA h3 h4
 have b3 := bd _ _ hB h1 h2
 have b4 := bd _ _ hB h3 h4
 simp only [b8]
 rw [bz (by omega) (by omega), bz (by omega) (by omega)]
 simp only [e]
 rw [bz (by omega) (by omega), bz (by omega) (by omega), bz (by omega) (by omega), bz (by omega) (by omega), bz (by omega) (by omega), bz (by omega) (by omega)]
theorem TW {n d : Int} (hd : 1 ≤ d) (hn : -4000000000 ≤ n ∧ n ≤ 4000000000) : uC n d = some (n / d) := by
 unfold uC GS
 have z : ff d 0 = false := by simp [ff]; omega
 rw [bu z]
 have t := Int.mul_tdiv_add_tmod n d
 have b1 : -4000000000 ≤ Int.tdiv n d ∧ Int.tdiv n d ≤ 4000000000 := by
  have := Int.natAbs_tdiv_le_natAbs n d
  omega
 rw [bz (by omega) (by omega), bu z, dp]
 by_cases h : Int.tmod n d < 0
 ·rw [if_pos (by simpa [ilt] using h), bz (by omega) (by omega)]
  congr 1
  have h5 : -d < Int.tmod n d := by
   have h6 := Int.natAbs_tmod n d
   have h7 := Nat.mod_lt n.natAbs (show 0 < d.natAbs by omega)
   omega
  refine (Int.ediv_eq_iff_of_pos (by omega)).2 ⟨?_, ?_⟩ |>.symm
  ·rw [Int.sub_mul, Int.mul_comm]; omega
  ·rw [Int.sub_mul, Int.mul_comm (Int.tdiv n d)]; omega
 ·rw [if_neg (by simpa [ilt] using h)]
  congr 1
  have h5 : Int.tmod n d < d := by
   have h6 := Int.natAbs_tmod n d
   have h7 := Nat.mod_lt n.natAbs (show 0 < d.natAbs by omega)
   omega
  refine (Int.ediv_eq_iff_of_pos (by omega)).2 ⟨?_, ?_⟩ |>.symm
  ·rw [Int.mul_comm]; omega
  ·rw [Int.mul_comm (Int.tdiv n d)]; omega
theorem ZU {x : Int × Int} (hx : IH x = true) : iK [x] = some 0 := by
 rw [Ta]
 ·simp [hx]
 ·intro r hr
  have : IH r = true := by simp at hr; subst hr; assumption
  have := ((lX r).1 this).2.2.1
  exact ⟨by omega, by omega⟩
 ·simp
def Ia (r : Int × Int) : Int := -(-r.1 / r.2)
theorem Uq {r : Int × Int} (h : IH r = true) : uD r = some (r.1 / r.2, 0) := by
 unfold uD G0
 have := (lX r).1 h
 rw [ZU h, aW]
 rw [show ine (0 : Int) 0 = false from rfl, bX, TW (by omega) (by omega), aW]
theorem CC {n d : Int} (hd : 1 ≤ d) : (n / d).natAbs ≤ n.natAbs := by
 exact Int.natAbs_ediv_le_natAbs n d
theorem Yj {r : Int × Int} (h : IH r = true) : AK r = some (Ia r, 0) := by
 unfold AK MR Ia
 have := (lX r).1 h
 rw [ZU h, aW]
 rw [show ine (0 : Int) 0 = false from rfl, bX, bz (by omega) (by omega), TW (by omega) (by omega), aW]
 have hb := CC (n := 0 - r.1) (show 1 ≤ r.2 by omega)
 rw [bz (by omega) (by omega), Int.zero_sub, Int.zero_sub]
def fR (b : bH) (c : Cmp) : Int × Int :=
 (c.2.2.2.2.1 - c.2.2.2.2.2.1 - (je b c).2 - (dG b c).2.1 / (dG b c).2.2, c.2.2.2.2.1 + c.2.2.2.2.2.1 - (je b c).1 - Ia (dG b c).1)
end Go.Proofs.ZzM
end
noncomputable section
namespace Go.Proofs.ZzM
open Go Go.Am
structure cX (b : bH) : Prop where
 film : 0 ≤ b.1.1 ∧ b.1.1 ≤ b.1.2 ∧ b.1.2 ≤ 1000000
 nG : b.2.1.length ≤ 12
 nU : b.2.2.1.length ≤ 40
 nL : b.2.2.2.1.length ≤ 12
 nC : b.2.2.2.2.1.length ≤ 40
 nK : b.2.2.2.2.2.length ≤ 10
 gauge : ∀ g ∈ b.2.1, wH g = true
 ids : b.2.1.Pairwise fun a b => a.1 < b.1
 uses : ∀ u ∈ b.2.2.1, Yu (jl b) u.1 u.2 = 0
 loans : ∀ i l, b.2.2.2.1[i]? = some l → Sl b (jl b) i l = 0
 compares : ∀ i c, b.2.2.2.2.1[i]? = some c → vu b (jl b) i c = 0
 looks : ∀ u ∈ b.2.2.2.2.2, Yu (jl b) u.1 u.2 = 0
 nodes : (bn b).length ≤ 59
 links : 2 * (bn b).length + 2 * b.2.2.2.2.1.length ≤ 300
theorem HB (b : bH) : lN b = 0 ↔ (∀ g ∈ b.2.1, wH g = true) ∧ b.2.1.Pairwise fun a b => a.1 < b.1 := by
 have h0 : fk (uq b.2.1) 0 b.2.1 = none ↔ (∀ g ∈ b.2.1, wH g = true) ∧ b.2.1.Pairwise fun a b => a.1 < b.1 := by
  rw [kw, ← Ug (fun g : b9 => g.1) b.2.1]
  constructor
  ·intro h
   have h1 : ∀ (j : Nat) (a : b9), b.2.1[j]? = some a → wH a = true ∧ Ik (fun g : b9 => g.1) b.2.1 j a = false := by
    intro j a ha
    have := h j a ha
    rw [Nat.zero_add] at this
    unfold uq at this
    split at this
    ·cases this
    ·split at this
     ·cases this
     ·rename_i h1 h2
      exact ⟨by simpa using h1, by simpa using h2⟩
   refine ⟨fun x hx => ?_, fun i a ha => (h1 i a ha).2⟩
   obtain ⟨j, hj, rfl⟩ := List.mem_iff_getElem.1 hx
   exact (h1 j _ (List.getElem?_eq_getElem hj)).1
  ·rintro ⟨h1, h2⟩ j a ha
   rw [Nat.zero_add]
   simp [uq, h1 a (List.mem_of_getElem? ha), h2 j a ha]
 rw [← h0]
 unfold lN
 cases h : fk (uq b.2.1) 0 b.2.1 with
 | none => simp
 | some e =>
   have : ∀ (m : List b9) (j : Nat) (x : Int), fk (uq b.2.1) j m = some x → x ≠ 0 := by
    intro m
    induction m with
    | nil => intro j x h; cases h
    | cons a m ih =>
      intro j x h
      unfold fk at h
      cases hp : uq b.2.1 j a with
      | none => rw [hp] at h; exact ih _ _ h
      | some y =>
        rw [hp] at h
        cases h
        unfold uq at hp
        split at hp
        ·cases hp; omega
        ·split at hp
         ·cases hp; omega
         ·cases hp
   simp [this _ _ _ h]
theorem bS (b : bH) : bO b = 0 ↔ cX b := by
 unfold bO
 constructor
 ·intro h
  split at h
  ·omega
  rename_i h1
  (repeat' split at h) <;> try omega
  ·rename_i hg
   have hg' : lN b ≠ 0 := by simpa using hg
   exact (hg' h).elim
  ·rename_i hf
   have := List.find?_some hf
   rename_i e
   simp at this
   exact (this h).elim
  ·rename_i hn1 hn2 hn3 hn4 hn5 hg e hf hn6 hn7
   have hg0 : lN b = 0 := by simpa using hg
   obtain ⟨g1, g2⟩ := (HB b).1 hg0
   have hall : ∀ x ∈ C4 b (jl b), x = 0 := fun x hx => by
    have := List.find?_eq_none.1 hf x hx
    simpa using this
   simp only [C4, List.mem_append] at hall
   have hs : nv b.1 0 1000000 = true := by simpa using h1
   simp only [nv, Bool.and_eq_true, decide_eq_true_eq] at hs
   refine ⟨⟨hs.1, hs.2.1, hs.2.2⟩, by omega, by omega, by omega, by omega, by omega, g1, g2, fun u hu => hall _ (.inl (List.mem_map.2 ⟨u, hu, rfl⟩)), fun i l hl => ?_, fun i c hc => ?_, fun u hu => hall _ (.inr (.inr (.inr (List.mem_map.2 ⟨u, hu, rfl⟩)))), by omega, by omega⟩
   ·obtain ⟨hi, rfl⟩ := List.getElem?_eq_some_iff.1 hl
    exact hall _ (.inr (.inl (List.mem_mapIdx.2 ⟨i, hi, rfl⟩)))
   ·obtain ⟨hi, rfl⟩ := List.getElem?_eq_some_iff.1 hc
    exact hall _ (.inr (.inr (.inl (List.mem_mapIdx.2 ⟨i, hi, rfl⟩))))
 ·intro h
  have hs : nv b.1 0 1000000 = true := by simp [nv, h.film.1, h.film.2.1, h.film.2.2]
  have hg : lN b = 0 := (HB b).2 ⟨h.gauge, h.ids⟩
  have hall : (C4 b (jl b)).find? (fun e => e != 0) = none := by
   rw [List.find?_eq_none]
   intro x hx
   simp only [C4, List.mem_append, List.mem_map, List.mem_mapIdx] at hx
   have : x = 0 := by
    rcases hx with ⟨u, hu, rfl⟩ | ⟨i, hi, rfl⟩ | ⟨i, hi, rfl⟩ | ⟨u, hu, rfl⟩
    ·exact h.uses u hu
    ·exact h.loans i _ (List.getElem?_eq_getElem hi)
    ·exact h.compares i _ (List.getElem?_eq_getElem hi)
    ·exact h.looks u hu
   simp [this]
  have := h.nG; have := h.nU; have := h.nL; have := h.nC; have := h.nK; have := h.nodes; have := h.links
  rw [hs, hg, hall]
  simp only [Bool.not_true, Bool.false_eq_true, if_false, bne_self_eq_false]
  rw [if_neg (by omega), if_neg (by omega), if_neg (by omega), if_neg (by omega), if_neg (by omega), if_neg (by omega), if_neg (by omega)]
section
variable {b : bH}
theorem fw {l : List Int} (h : lY l = true) : l.length ≤ 6 := ((OO l).1 h).2.2
theorem cX.nums (h : cX b) {c : Cmp} (hc : c ∈ b.2.2.2.2.1) : UK c = true := by
 obtain ⟨i, hi, rfl⟩ := List.mem_iff_getElem.1 hc
 have := h.compares i _ (List.getElem?_eq_getElem hi)
 unfold vu at this
 split at this
 ·omega
 ·rename_i h; simpa using h
theorem cX.pilesOf (h : cX b) {c : Cmp} (hc : c ∈ b.2.2.2.2.1) : C3 b (jl b) c = 0 := by
 obtain ⟨i, hi, rfl⟩ := List.mem_iff_getElem.1 hc
 have := h.compares i _ (List.getElem?_eq_getElem hi)
 unfold vu at this
 split at this
 ·omega
 ·split at this
  ·omega
  ·exact this
theorem jr (c : Cmp) : UK c = true ↔ (1 ≤ c.1 ∧ c.1 ≤ 1099511627776) ∧ (0 ≤ c.2.1 ∧ c.2.1 ≤ 20000) ∧ (-1125899906842624 ≤ c.2.2.2.2.1 ∧ c.2.2.2.2.1 ≤ 1125899906842624) ∧ (0 ≤ c.2.2.2.2.2.1 ∧ c.2.2.2.2.2.1 ≤ 1073741824) ∧ nv c.2.2.2.2.2.2 (-10000) 10000 = true ∧ lY c.2.2.1 = true ∧ lY c.2.2.2.1 = true := by
 simp [UK, inP, NL, and_assoc]
theorem cX.size (h : cX b) : jM b := by
 have h1 := h.nG; have h2 := h.nU; have h3 := h.nL; have h4 := h.nC; have h5 := h.nK
 refine ⟨by omega, by omega, by omega, by omega, by omega, fun c hc => ?_⟩
 have := (jr c).1 (h.nums hc)
 have a := fw this.2.2.2.2.2.1
 have b := fw this.2.2.2.2.2.2
 omega
theorem K4 (g : b9) : wH g = true ↔ IH g.2.2.2.2.1 = true ∧ (-1000 ≤ g.2.2.2.2.1.1 ∧ g.2.2.2.2.1.1 ≤ 1000) ∧ g.2.2.2.2.1.2 ≤ 100 ∧ (1 ≤ g.1 ∧ g.1 ≤ 1099511627776) ∧ (0 ≤ g.2.1 ∧ g.2.1 ≤ 20000) ∧ (1 ≤ g.2.2.1 ∧ g.2.2.1 ≤ 1125899906842624) ∧ (-1073741824 ≤ g.2.2.2.1.1 ∧ g.2.2.2.1.1 ≤ g.2.2.2.1.2 ∧ g.2.2.2.1.2 ≤ 1073741824) ∧ (0 ≤ g.2.2.2.2.2 ∧ g.2.2.2.2.2 ≤ 1048576) := by
 simp [wH, inP, NL, nv, and_assoc]
theorem jd {id : Int} {g : b9} (h : iB b id = some g) : g ∈ b.2.1 ∧ g.1 = id := by
 unfold iB at h
 exact ⟨List.mem_of_find?_eq_some h, by simpa using List.find?_some h⟩
theorem xQ (hi : b.2.1.Pairwise fun a b => a.1 < b.1) {g : b9} (hg : g ∈ b.2.1) : iB b g.1 = some g := by
 unfold iB
 induction hl : b.2.1 generalizing b with
 | nil => rw [hl] at hg; cases hg
 | cons a t ih =>
   rw [hl] at hg hi
   rw [List.pairwise_cons] at hi
   rw [List.find?_cons]
   rcases List.mem_cons.1 hg with rfl | hg
   ·simp
   ·have h1 := hi.1 g hg
    have : (a.1 == g.1) = false := by simp; omega
    rw [this]
    have := ih (b := (b.1, t, b.2.2)) hi.2 hg rfl
    exact this
theorem Br (h : cX b) {id day : Int} (hm : oz (jl b) id day = 0) : ∃ g, iB b id = some g ∧ g.2.1 ≤ day := by
 unfold oz at hm
 rw [Bq h.ids] at hm
 split at hm
 ·rename_i g hg
  split at hm
  ·omega
  ·exact ⟨g, hg, by omega⟩
 ·omega
theorem RJ (s : List (Int × b9)) (id day : Int) : oz s id day = 0 ∨ oz s id day = 4 ∨ oz s id day = 5 := by
 unfold oz
 split
 ·split <;> simp
 ·simp
theorem cX.pile (h : cX b) {c : Cmp} (hc : c ∈ b.2.2.2.2.1) {x : Int} (hx : x ∈ c.2.2.1 ++ c.2.2.2.1) : (∃ g, iB b x = some g ∧ g.2.1 ≤ c.2.1) ∧ EI b x c.2.1 = none := by
 have hp := h.pilesOf hc
 unfold C3 at hp
 split at hp
 ·omega
 rename_i h5
 split at hp
 ·omega
 rename_i h4
 split at hp
 ·omega
 rename_i h9
 have a5 := (List.any_eq_false.1 (Bool.eq_false_iff.2 h5)) x hx
 have a4 := (List.any_eq_false.1 (Bool.eq_false_iff.2 h4)) x hx
 have a9 := (List.any_eq_false.1 (Bool.eq_false_iff.2 h9)) x hx
 simp at a5 a4 a9
 refine ⟨Br h ?_, a9⟩
 rcases RJ (jl b) x c.2.1 with h0 | h0 | h0
 ·exact h0
 ·exact (a4 h0).elim
 ·exact (a5 h0).elim
theorem cX.lefts (h : cX b) {c : Cmp} (hc : c ∈ b.2.2.2.2.1) : (cw c.2.2.1 c.2.2.2.1).length ≤ 1 ∧ (cw c.2.2.2.1 c.2.2.1).length ≤ 1 ∧ (cw c.2.2.1 c.2.2.2.1).length + (cw c.2.2.2.1 c.2.2.1).length ≠ 0 := by
 have hp := h.pilesOf hc
 unfold C3 at hp
 (repeat' split at hp) <;> first | omega | exact ⟨by omega, by omega, by omega⟩
theorem lm {a c : List Int} {x : Int} : x ∈ cw a c ↔ x ∈ a ∧ x ∉ c := by
 simp [cw]
theorem cX.rate (h : cX b) {p : List Int} (hp : ∀ x ∈ p, ∃ g, iB b x = some g) : qi (D5 (jl b) p) 1000 100 := by
 unfold D5
 cases p with
 | nil =>
   have : qi (0, 1) 1000 100 := ⟨by decide, by decide, by decide⟩
   exact this
 | cons x t =>
   obtain ⟨g, hg⟩ := hp x (by simp)
   try dsimp only
   rw [Bq h.ids, hg]
   have := (K4 g).1 (h.gauge g (jd hg).1)
   exact ⟨this.1, this.2.1, this.2.2.1⟩
theorem cX.rates (h : cX b) {c : Cmp} (hc : c ∈ b.2.2.2.2.1) : qi (D5 (jl b) (cw c.2.2.1 c.2.2.2.1)) 1000 100 ∧ qi (D5 (jl b) (cw c.2.2.2.1 c.2.2.1)) 1000 100 := by
 constructor
 ·exact h.rate fun x hx => by
   obtain ⟨⟨g, hg, _⟩, _⟩ := h.pile hc (List.mem_append_left _ (lm.1 hx).1)
   exact ⟨g, hg⟩
 ·exact h.rate fun x hx => by
   obtain ⟨⟨g, hg, _⟩, _⟩ := h.pile hc (List.mem_append_right _ (lm.1 hx).1)
   exact ⟨g, hg⟩
theorem cX.growth (h : cX b) {c : Cmp} (hc : c ∈ b.2.2.2.2.1) : mz b c = some (dG b c) := by
 obtain ⟨r1, r2⟩ := h.rates hc
 have hn := (jr c).1 (h.nums hc)
 have a := fw hn.2.2.2.2.2.1
 have b := fw hn.2.2.2.2.2.2
 exact Qx h.size (by omega) (by omega) r1 r2 hn.2.2.2.2.1
theorem cX.films (h : cX b) {c : Cmp} (hA : c.2.2.1.length ≤ 1000) (hB : c.2.2.2.1.length ≤ 1000) : p9 b c = some (je b c) := by
 have := h.film
 exact TY hA hB (by omega) (by omega) (by omega) (by omega)
theorem LR {k heat : Int × Int} (hk : qi k 200000 10000) (hh : nv heat (-10000) 10000 = true) : qi (UF k heat).1 2000000000 10000 ∧ qi (UF k heat).2 2000000000 10000 := by
 simp only [nv, Bool.and_eq_true, decide_eq_true_eq] at hh
 have r1 := LY hk (n := heat.1) ⟨by omega, by omega⟩
 have r2 := LY hk (n := heat.2) ⟨by omega, by omega⟩
 unfold UF
 split
 ·exact ⟨r2, r1⟩
 ·exact ⟨r1, r2⟩
theorem xW {c : Cmp} (hA : c.2.2.1.length ≤ 1000) (hB : c.2.2.2.1.length ≤ 1000) (h1 : 0 ≤ b.1.1) (h2 : b.1.1 ≤ 1000000) (h3 : 0 ≤ b.1.2) (h4 : b.1.2 ≤ 1000000) :
 (-1000000000 ≤ (je b c).1 ∧ (je b c).1 ≤ 1000000000) ∧ (-1000000000 ≤ (je b c).2 ∧ (je b c).2 ≤ 1000000000) := by
 have bd : ∀ (n : Nat) (x : Int), n ≤ 1000 → 0 ≤ x → x ≤ 1000000 → 0 ≤ ((n - 1 : Nat) : Int) * x ∧ ((n - 1 : Nat) : Int) * x ≤ 1000000000 := by
  intro n x hn h0 hx
  refine ⟨Int.mul_nonneg (by omega) h0, ?_⟩
  have := Int.mul_le_mul (show ((n - 1 : Nat) : Int) ≤ 1000 by omega) hx h0 (by omega)
  omega
 have b1 := bd _ _ hA h1 h2
 have b2 := bd _ _ hA h3 h4
 have b3 := bd _ _ hB h1 h2
 have b4 := bd _ _ hB h3 h4
 unfold je
 try dsimp only
 omega
theorem xT {r : Int × Int} (h : qi r 2000000000 10000) : -2000000000 ≤ r.1 / r.2 ∧ r.1 / r.2 ≤ 2000000000 := by
 have := CC (n := r.1) h.pos
 have := h.num
 omega
theorem CL {r : Int × Int} (h : qi r 2000000000 10000) : -2000000000 ≤ Ia r ∧ Ia r ≤ 2000000000 := by
 have := CC (n := -r.1) h.pos
 have := h.num
 unfold Ia
 omega
theorem cX.says (h : cX b) {c : Cmp} (hc : c ∈ b.2.2.2.2.1) : ro b c = some (fR b c) := by
 obtain ⟨r1, r2⟩ := h.rates hc
 have hn := (jr c).1 (h.nums hc)
 have ha := fw hn.2.2.2.2.2.1
 have hb := fw hn.2.2.2.2.2.2
 have hf := h.film
 obtain ⟨g1, g2⟩ := LR (Lt r1 r2) hn.2.2.2.2.1
 have fb := xW (b := b) (c := c) (by omega) (by omega) (by omega) (by omega) (by omega) (by omega)
 have q1 : qi (dG b c).1 2000000000 10000 := g1
 have q2 : qi (dG b c).2 2000000000 10000 := g2
 have c1 := CL q1
 have c2 := xT q2
 unfold ro MV fR
 rw [h.growth hc, aW, h.films (by omega) (by omega), aW, Uq q2.rat, aW, Yj q1.rat, aW]
 try dsimp only
 have n3 := hn.2.2.1
 have n4 := hn.2.2.2.1
 rw [bz (by omega) (by omega), bz (by omega) (by omega), bz (by omega) (by omega), bz (by omega) (by omega), bz (by omega) (by omega), bz (by omega) (by omega)]
end
def cE (l : Ix) (f t : Int) : Int := min l.2.1.2 (t - 1) - max l.2.1.1 f + 1
def dl (id f t : Int) : List Ix → Int
 | [] => 0
 | l :: r => (if l.1 = id ∧ 0 < cE l f t then cE l f t * l.2.2 else 0) + dl id f t r
theorem uf (id f t : Int) : ∀ (x y : List Ix), dl id f t (x ++ y) = dl id f t x + dl id f t y
 | [], y => by simp [dl]
 | l :: r, y => by
   simp only [List.cons_append, dl, uf id f t r y]
   omega
def gN (b : bH) (id f t : Int) : List Int := (b.2.2.1.filter fun u => u.1 == id && inP u.2 f (t - 1)).map fun u => u.2
def gy (b : bH) (g : b9) (f t : Int) : Int := dl g.1 f t b.2.2.2.1 + (Rb (gN b g.1 f t)).length * g.2.2.2.2.2
theorem Hz (a c : Int) : Rc a c = min a c := by unfold Rc; split <;> omega
theorem Ss (a c : Int) : Rd a c = max a c := by unfold Rd; split <;> omega
theorem Cm {b : bH} (h : cX b) {l : Ix} (hl : l ∈ b.2.2.2.1) : (0 ≤ l.2.1.1 ∧ l.2.1.1 ≤ l.2.1.2 ∧ l.2.1.2 ≤ 20000) ∧ (0 ≤ l.2.2 ∧ l.2.2 ≤ 1048576) := by
 obtain ⟨i, hi, rfl⟩ := List.mem_iff_getElem.1 hl
 have := h.loans i _ (List.getElem?_eq_getElem hi)
 unfold Sl at this
 split at this
 ·omega
 rename_i h1
 split at this
 ·omega
 rename_i h2
 simp only [Bool.not_eq_true', Bool.not_eq_false, nv, inP, Bool.and_eq_true, decide_eq_true_eq] at h1 h2
 exact ⟨h1, h2⟩
theorem KN {l : Ix} (h : (0 ≤ l.2.1.1 ∧ l.2.1.1 ≤ l.2.1.2 ∧ l.2.1.2 ≤ 20000) ∧ (0 ≤ l.2.2 ∧ l.2.2 ≤ 1048576)) {f t : Int} (hf : 0 ≤ f) (hd : 0 < cE l f t) : 0 ≤ cE l f t * l.2.2 ∧ cE l f t * l.2.2 ≤ 20001 * 1048576 := by
 refine ⟨Int.mul_nonneg (by omega) h.2.1, Int.mul_le_mul ?_ h.2.2 h.2.1 (by omega)⟩
 unfold cE
 omega
theorem oQ {id f t : Int} (hf : 0 ≤ f) : ∀ {x : List Ix}, (∀ l ∈ x, (0 ≤ l.2.1.1 ∧ l.2.1.1 ≤ l.2.1.2 ∧ l.2.1.2 ≤ 20000) ∧ (0 ≤ l.2.2 ∧ l.2.2 ≤ 1048576)) → 0 ≤ dl id f t x ∧ dl id f t x ≤ x.length * (20001 * 1048576)
 | [], _ => by simp [dl]
 | l :: r, h => by
   have ih := oQ (id := id) (t := t) hf (x := r) fun l hl => h l (by simp [hl])
   simp only [dl, List.length_cons, Int.natCast_succ, Int.add_mul, Int.one_mul]
   split
   ·rename_i hc
    have := KN (h l (by simp)) hf hc.2
    omega
   ·omega
theorem WH {b : bH} (h : cX b) {g : b9} (hg : 0 ≤ g.2.2.2.2.2 ∧ g.2.2.2.2.2 ≤ 1048576) {f t : Int} (hf : 0 ≤ f ∧ f ≤ 100000) (ht : 0 ≤ t ∧ t ≤ 100000) : ot b g f t = some (gy b g f t) := by
 have hL := h.nL
 have hU := h.nU
 have hlb : ∀ i, 0 ≤ dl g.1 f t (b.2.2.2.1.take i) ∧ dl g.1 f t (b.2.2.2.1.take i) ≤ 12 * (20001 * 1048576) := by
  intro i
  have h1 := oQ (id := g.1) (t := t) hf.1 (x := b.2.2.2.1.take i) fun l hl => Cm h (List.mem_of_mem_take hl)
  have h2 : ((b.2.2.2.1.take i).length : Int) * (20001 * 1048576) ≤ 12 * (20001 * 1048576) := Int.mul_le_mul_of_nonneg_right (by rw [List.length_take]; omega) (by omega)
  omega
 unfold ot M6
 refine gW (fun x : Int × Int => ∃ i : Nat, i ≤ b.2.2.2.1.length ∧ x = (dl g.1 f t (b.2.2.2.1.take i), (i : Int))) (fun x => b.2.2.2.1.length - x.2.toNat) ?_ ⟨0, by omega, rfl⟩
 rintro x ⟨i, hi, rfl⟩
 rcases Nat.lt_or_ge i b.2.2.2.1.length with hlt | hge
 ·have hl : b.2.2.2.1[i]? = some b.2.2.2.1[i] := List.getElem?_eq_getElem hlt
  have hz := Cm h (List.mem_of_getElem? hl)
  refine .inr ⟨(dl g.1 f t (b.2.2.2.1.take (i + 1)), (i : Int) + 1), ⟨i + 1, hlt, by simp⟩, by simp; omega, fun kn => ?_⟩
  try dsimp only
  unfold qY
  have b1 := hlb i
  have b2 := hlb (i + 1)
  have e1 : dl g.1 f t (b.2.2.2.1.take (i + 1)) = dl g.1 f t (b.2.2.2.1.take i) + (if b.2.2.2.1[i].1 = g.1 ∧ 0 < cE b.2.2.2.1[i] f t then cE b.2.2.2.1[i] f t * b.2.2.2.1[i].2.2 else 0) := by
   rw [take_succ hl, uf]; simp [dl]
  rw [bv hlt, bp hl, bz (by omega) (by omega), Hz, Ss, bz (by omega) (by omega), bz (by omega) (by omega)]
  rw [show min b.2.2.2.1[i].2.1.2 (t - 1) - max b.2.2.2.1[i].2.1.1 f + 1 = cE b.2.2.2.1[i] f t from rfl, dp]
  by_cases hid : b.2.2.2.1[i].1 = g.1
  ·rw [if_pos (by simpa [ieq] using hid), dp]
   by_cases hd : 0 < cE b.2.2.2.1[i] f t
   ·have lb := KN hz hf.1 hd
    rw [if_pos ⟨hid, hd⟩] at e1
    rw [if_pos (by simpa [igt] using hd), bz (by omega) (by omega), bz (by omega) (by omega), br hlt (by omega), e1]
   ·rw [if_neg (fun hc => hd hc.2)] at e1
    rw [if_neg (by simpa [igt] using hd), br hlt (by omega), e1, Int.add_zero]
  ·rw [if_neg (fun hc => hid hc.1)] at e1
   rw [if_neg (by simpa [ieq] using hid), br hlt (by omega), e1, Int.add_zero]
 ·refine .inl fun kn => ?_
  have : i = b.2.2.2.1.length := by omega
  subst this
  try dsimp only
  unfold qY
  rw [bU, List.take_length]
  have hud : ∀ x : List (Int × Int), x.length ≤ 40 → ((x.filter fun u => u.1 == g.1 && inP u.2 f (t - 1)).map fun u => u.2).length ≤ 40 := by
   intro x hx
   rw [List.length_map]
   exact Nat.le_trans (List.length_filter_le _ _) hx
  refine cD b.2.2.1 (fun i => ((b.2.2.1.take i).filter fun u => u.1 == g.1 && inP u.2 f (t - 1)).map fun u => u.2) _ rfl (fun i u hi hu kn' => ?_) (fun kn' => ?_)
  ·try dsimp only
   unfold qX
   have hx := hud (b.2.2.1.take i) (by rw [List.length_take]; omega)
   rw [bv hi, bp hu, bz (by omega) (by omega), fV, aW, bw (by simp only [List.length_singleton]; omega), Am.iff_true, br hi (by omega), br hi (by omega), take_succ hu, List.filter_append, List.map_append]
   cases h1 : (u.1 == g.1) with
   | false =>
     have : ieq u.1 g.1 = false := h1
     simp only [this, bX, List.filter_cons, h1, Bool.false_and, Bool.false_eq_true, if_false, List.filter_nil, List.map_nil, List.append_nil]
   | true =>
     have : ieq u.1 g.1 = true := h1
     rw [this]
     cases h2 : inP u.2 f (t - 1) with
     | false => simp only [ez, bX, List.filter_cons, h1, h2, Bool.true_and, Bool.false_eq_true, if_false, List.filter_nil, List.map_nil, List.append_nil]
     | true => simp only [ez, List.filter_cons, h1, h2, Bool.true_and, if_true, List.filter_nil, List.map_nil, List.map_cons]
  ·try dsimp only
   unfold qX
   rw [bU, List.take_length]
   rw [show ((b.2.2.1.filter fun u => u.1 == g.1 && inP u.2 f (t - 1)).map fun u => u.2) = gN b g.1 f t from rfl]
   have h40 : (gN b g.1 f t).length ≤ 40 := hud _ hU
   have hc40 : (Rb (gN b g.1 f t)).length ≤ 40 := by
    have := EP (gN b g.1 f t)
    omega
   have hm : 0 ≤ ((Rb (gN b g.1 f t)).length : Int) * g.2.2.2.2.2 ∧ ((Rb (gN b g.1 f t)).length : Int) * g.2.2.2.2.2 ≤ 40 * 1048576 :=
    ⟨Int.mul_nonneg (by omega) hg.1, Int.mul_le_mul (by omega) hg.2 hg.1 (by omega)⟩
   have b1 := hlb b.2.2.2.1.length
   rw [List.take_length] at b1
   dsimp only
   rw [bw (by omega), Am.iff_true, bw (by rw [Ou]; omega), Am.iff_true, VZ, b8, bz (by omega) (by omega), bz (by omega) (by omega)]
   rfl
end Go.Proofs.ZzM
end
noncomputable section
namespace Go.Proofs.ZzM
open Go Go.Am
abbrev Lk : Type := Int × Int × Int
inductive Wl (L : List Lk) (S : Int → Prop) : List Int → Int → Int → Prop
 | nil {v : Int} : S v → Wl L S [] v 0
 | step {vs : List Int} {u v m d : Int} : Wl L S vs u d → (u, v, m) ∈ L → Wl L S (u :: vs) v (d + m)
def Pot (L : List Lk) (p : Int → Int) : Prop := ∀ u v m, (u, v, m) ∈ L → p v ≤ p u + m
def InR (L : List Lk) (N : Nat) : Prop := ∀ l ∈ L, (0 ≤ l.1 ∧ l.1 < N) ∧ (0 ≤ l.2.1 ∧ l.2.1 < N)
section
variable {L : List Lk} {S : Int → Prop} {N : Nat} {p : Int → Int}
theorem Wl.cut (hp : Pot L p) {vs : List Int} {v d : Int} (h : Wl L S vs v d) : ∀ x ∈ vs, ∃ vs1 d1, Wl L S vs1 x d1 ∧ (x :: vs1) <:+ vs ∧ d1 + (p v - p x) ≤ d := by
 induction h with
 | nil h => intro x hx; cases hx
 | @step vs u v m d hw hl ih =>
   intro x hx
   have h1 := hp u v m hl
   rcases List.mem_cons.1 hx with rfl | hx
   ·exact ⟨vs, d, hw, List.suffix_refl _, by omega⟩
   ·obtain ⟨vs1, d1, g1, g2, g3⟩ := ih x hx
    exact ⟨vs1, d1, g1, g2.trans (List.suffix_cons _ _), by omega⟩
theorem Wl.simple (hp : Pot L p) {vs : List Int} {v d : Int} (h : Wl L S vs v d) : ∃ vs' d', Wl L S vs' v d' ∧ d' ≤ d ∧ (v :: vs').Nodup := by
 induction h with
 | nil h => exact ⟨[], 0, .nil h, Int.le_refl _, by simp⟩
 | @step vs u v m d hw hl ih =>
   obtain ⟨vs1, d1, g1, g2, g3⟩ := ih
   have hw1 := Wl.step g1 hl
   by_cases hv : v ∈ u :: vs1
   ·obtain ⟨vs2, d2, k1, k2, k3⟩ := hw1.cut hp v hv
    exact ⟨vs2, d2, k1, by omega, g3.sublist k2.sublist⟩
   ·exact ⟨u :: vs1, d1 + m, hw1, by omega, List.nodup_cons.2 ⟨hv, g3⟩⟩
theorem Wl.range (hL : InR L N) (hS : ∀ v, S v → 0 ≤ v ∧ v < N) {vs : List Int} {v d : Int} (h : Wl L S vs v d) : (0 ≤ v ∧ v < N) ∧ ∀ u ∈ vs, 0 ≤ u ∧ u < N := by
 induction h with
 | nil h => exact ⟨hS _ h, fun u hu => by cases hu⟩
 | @step vs u v m d hw hl ih =>
   refine ⟨(hL _ hl).2, fun w hw' => ?_⟩
   rcases List.mem_cons.1 hw' with rfl | h
   ·exact ih.1
   ·exact ih.2 w h
theorem Tr : ∀ (N : Nat) (l : List Int), l.Nodup → (∀ x ∈ l, 0 ≤ x ∧ x < N) → l.length ≤ N
 | 0, l, _, h => by
   cases l with
   | nil => simp
   | cons a l => have := h a (by simp); omega
 | N + 1, l, hn, h => by
   have h1 : (l.erase (N : Int)).length ≤ N := Tr N _ (hn.erase _) fun x hx => by
    have h2 := (hn.mem_erase_iff).1 hx
    have := h x h2.2
    have := h2.1
    omega
   have := List.length_erase (a := (N : Int)) (l := l)
   split at this <;> omega
theorem Wl.short (hL : InR L N) (hS : ∀ v, S v → 0 ≤ v ∧ v < N) {vs : List Int} {v d : Int} (h : Wl L S vs v d) (hn : (v :: vs).Nodup) : vs.length + 1 ≤ N := by
 have := h.range hL hS
 exact Tr N (v :: vs) hn fun x hx => by
  rcases List.mem_cons.1 hx with rfl | hx
  ·exact this.1
  ·exact this.2 x hx
def D9 (f : Lk → Bool) : List Lk → Int
 | [] => 0
 | l :: t => (if f l then min l.2.2 0 else 0) + D9 f t
theorem Wv (f : Lk → Bool) : ∀ L : List Lk, D9 (fun _ => true) L ≤ D9 f L
 | [] => Int.le_refl _
 | l :: t => by
   have := Wv f t
   simp only [D9, if_true]
   split <;> omega
theorem qp (f : Lk → Bool) : ∀ L : List Lk, D9 f L ≤ 0
 | [] => Int.le_refl _
 | l :: t => by
   have := qp f t
   simp only [D9]
   split <;> omega
theorem TC {f : Lk → Bool} {l : Lk} (hf : f l = true) : ∀ {L : List Lk}, l ∈ L → D9 f L ≤ l.2.2
 | a :: t, h => by
   simp only [D9]
   rcases List.mem_cons.1 h with rfl | h
   ·have := qp f t
    rw [if_pos hf]; omega
   ·have := TC hf h
    split <;> omega
theorem Wu {f g : Lk → Bool} (h : ∀ l, f l = true → g l = false) : ∀ L : List Lk, D9 (fun l => f l || g l) L = D9 f L + D9 g L
 | [] => rfl
 | l :: t => by
   have ih := Wu h t
   simp only [D9, ih]
   by_cases hf : f l = true
   ·simp [hf, h l hf]; omega
   ·have hf' : f l = false := by simpa using hf
    by_cases hg : g l = true
    ·simp [hf', hg]; omega
    ·simp [hf', hg]
theorem Wl.low {vs : List Int} {v d : Int} (h : Wl L S vs v d) : vs.Nodup → D9 (fun l => vs.contains l.1) L ≤ d := by
 induction h with
 | nil h => intro _; exact qp _ _
 | @step vs u v m d hw hl ih =>
   intro hn
   rw [List.nodup_cons] at hn
   have h1 := ih hn.2
   have h2 : D9 (fun l => l.1 == u) L ≤ m := TC (f := fun l => l.1 == u) (l := (u, v, m)) (by simp) hl
   have h3 := Wu (f := fun l : Lk => l.1 == u) (g := fun l => vs.contains l.1) (fun l hf => by
    simp only [beq_iff_eq] at hf
    rw [hf]
    simpa using hn.1) L
   have h4 : (fun l : Lk => (u :: vs).contains l.1) = fun l => (l.1 == u) || vs.contains l.1 := by funext l; rw [List.contains_cons]
   rw [h4, h3]
   omega
def ES (L : List Lk) : Int := D9 (fun _ => true) L
theorem Wl.low' (hp : Pot L p) {vs : List Int} {v d : Int} (h : Wl L S vs v d) : ES L ≤ d := by
 obtain ⟨vs', d', h1, h2, h3⟩ := h.simple hp
 have := h1.low (List.nodup_cons.1 h3).2
 have := Wv (fun l => vs'.contains l.1) L
 unfold ES
 omega
theorem Wl.high {M : Int} (hM : ∀ l ∈ L, l.2.2 ≤ M) {vs : List Int} {v d : Int} (h : Wl L S vs v d) : d ≤ vs.length * M := by
 induction h with
 | nil h => simp
 | @step vs u v m d hw hl ih =>
   have := hM _ hl
   simp only [List.length_cons, Int.natCast_succ, Int.add_mul, Int.one_mul]
   simp only at this
   omega
theorem Wl.mono {S' : Int → Prop} (hS : ∀ v, S v → S' v) {vs : List Int} {v d : Int} (h : Wl L S vs v d) : Wl L S' vs v d := by
 induction h with
 | nil h => exact .nil (hS _ h)
 | step hw hl ih => exact .step ih hl
theorem Wl.pot (hp : Pot L p) {vs : List Int} {v d : Int} (h : Wl L S vs v d) : ∃ s, S s ∧ p v - p s ≤ d := by
 induction h with
 | @nil v h => exact ⟨v, h, by omega⟩
 | @step vs u v m d hw hl ih =>
   obtain ⟨s, h1, h2⟩ := ih
   have := hp u v m hl
   exact ⟨s, h1, by omega⟩
end
abbrev gc : Int := 1152921504606846976
structure VE (L : List Lk) (S : Int → Prop) (N : Nat) (x : Int → Int) : Prop where
 att : ∀ v : Int, 0 ≤ v → v < N → x v ≠ gc → ∃ vs, Wl L S vs v (x v)
 low : ∀ v vs d, Wl L S vs v d → x v ≤ d
 bd : ∀ v : Int, 0 ≤ v → v < N → x v ≤ gc
theorem VE.uniq {L : List Lk} {S : Int → Prop} {N : Nat} {x y : Int → Int} (hx : VE L S N x) (hy : VE L S N y) {v : Int} (h0 : 0 ≤ v) (h1 : v < N) : x v = y v := by
 have key : ∀ {x y : Int → Int}, VE L S N x → VE L S N y → x v ≤ y v := by
  intro x y hx hy
  by_cases h : y v = gc
  ·rw [h]; exact hx.bd v h0 h1
  ·obtain ⟨vs, hw⟩ := hy.att v h0 h1 h
   exact hx.low v vs _ hw
 exact Int.le_antisymm (key hx hy) (key hy hx)
def gv (x : List Int) (v : Int) : Int := x[v.toNat]?.getD 0
theorem TP {x : List Int} {v : Int} (h : v.toNat < x.length) : x[v.toNat]? = some (gv x v) := by
 unfold gv; rw [List.getElem?_eq_getElem h]; rfl
theorem un {x : List Int} {u v : Int} (hu : 0 ≤ u) (hv : 0 ≤ v) (h : u.toNat < x.length) (y : Int) : gv (x.set u.toNat y) v = if v = u then y else gv x v := by
 unfold gv
 rw [List.getElem?_set]
 by_cases hvu : v = u
 ·subst hvu; simp [h]
 ·have : ¬ u.toNat = v.toNat := by omega
  simp [hvu, this]
theorem TQ {x y : List Int} (hl : x.length = y.length) (h : ∀ v : Int, 0 ≤ v → v < x.length → gv x v = gv y v) : x = y := by
 refine List.ext_getElem hl fun i h1 h2 => ?_
 have := h i (by omega) (by omega)
 unfold gv at this
 simpa [h1, h2] using this
def jV (x : List Int) (l : Lk) : List Int := if gv x l.1 < gc ∧ gv x l.1 + l.2.2 < gv x l.2.1 then x.set l.2.1.toNat (gv x l.1 + l.2.2) else x
def D7 (L : List Lk) (x : List Int) : List Int := L.foldl jV x
def jo (L : List Lk) : Nat → List Int → List Int
 | 0, x => x
 | n + 1, x => jo L n (D7 L x)
theorem lW (x : List Int) (l : Lk) : (jV x l).length = x.length := by unfold jV; split <;> simp
theorem sQ (L : List Lk) : ∀ x : List Int, (D7 L x).length = x.length := by
 induction L with
 | nil => intro x; rfl
 | cons l t ih => intro x; show (D7 t (jV x l)).length = _; rw [ih, lW]
theorem eu (L : List Lk) : ∀ (n : Nat) (x : List Int), (jo L n x).length = x.length
 | 0, x => rfl
 | n + 1, x => by rw [jo, eu L n, sQ]
theorem wX (L : List Lk) : ∀ (n : Nat) (x : List Int), jo L (n + 1) x = D7 L (jo L n x)
 | 0, x => rfl
 | n + 1, x => by rw [jo, wX L n]; rfl
section
variable {L0 : List Lk} {S : Int → Prop} {N : Nat}
theorem OE {x : List Int} {l : Lk} (hl : (0 ≤ l.1 ∧ l.1 < N) ∧ (0 ≤ l.2.1 ∧ l.2.1 < N)) (hx : x.length = N) (v : Int) (hv : 0 ≤ v) : gv (jV x l) v ≤ gv x v := by
 unfold jV
 split
 ·rename_i h
  rw [un hl.2.1 hv (by omega)]
  split
  ·rename_i h2; subst h2; omega
  ·exact Int.le_refl _
 ·exact Int.le_refl _
theorem ym : ∀ {L : List Lk}, InR L N → ∀ {x : List Int}, x.length = N → ∀ v, 0 ≤ v → gv (D7 L x) v ≤ gv x v
 | [], _, x, _, v, _ => Int.le_refl _
 | l :: t, hL, x, hx, v, hv => by
   have h1 := OE (hL l (by simp)) hx v hv
   have h2 := ym (L := t) (fun l hl => hL l (by simp [hl])) (x := jV x l) (by rw [lW, hx]) v hv
   show gv (D7 t (jV x l)) v ≤ _
   omega
theorem Bl : ∀ {L : List Lk}, InR L N → ∀ {x : List Int}, x.length = N → ∀ u v m, (u, v, m) ∈ L → gv x u < gc → gv (D7 L x) v ≤ gv x u + m
 | l :: t, hL, x, hx, u, v, m, hm, hf => by
   have ht : InR t N := fun l hl => hL l (by simp [hl])
   have hx' : (jV x l).length = N := by rw [lW, hx]
   show gv (D7 t (jV x l)) v ≤ _
   rcases List.mem_cons.1 hm with rfl | hm
   ·have hl := hL (u, v, m) (by simp)
    have h2 := ym ht hx' v hl.2.1
    have h3 : gv (jV x (u, v, m)) v ≤ gv x u + m := by
     unfold jV
     split
     ·rw [un hl.2.1 hl.2.1 (by simp only at hl; simp only; omega), if_pos rfl]; exact Int.le_refl _
     ·rename_i h; simp only [not_and, Int.not_lt] at h; exact h hf
    omega
   ·have hl := hL (u, v, m) (by simp [hm])
    have h1 := OE (hL l (by simp)) hx u hl.1.1
    have := Bl ht hx' u v m hm (by omega)
    omega
def Att (L0 : List Lk) (S : Int → Prop) (N : Nat) (x : List Int) : Prop := ∀ v : Int, 0 ≤ v → v < N → gv x v < gc → ∃ vs, Wl L0 S vs v (gv x v)
theorem UD {x : List Int} {l : Lk} (hl : (0 ≤ l.1 ∧ l.1 < N) ∧ (0 ≤ l.2.1 ∧ l.2.1 < N)) (hm : l ∈ L0) (hx : x.length = N) (h : Att L0 S N x) : Att L0 S N (jV x l) := by
 unfold jV
 split
 ·rename_i hc
  intro v h0 h1 hf
  rw [un hl.2.1 h0 (by omega)] at hf ⊢
  split
  ·rename_i h2
   obtain ⟨vs, hw⟩ := h l.1 hl.1.1 hl.1.2 hc.1
   exact ⟨_, h2 ▸ Wl.step hw hm⟩
  ·rename_i h2
   rw [if_neg h2] at hf
   exact h v h0 h1 hf
 ·exact h
theorem OS : ∀ {L : List Lk}, InR L N → (∀ l ∈ L, l ∈ L0) → ∀ {x : List Int}, x.length = N → Att L0 S N x → Att L0 S N (D7 L x)
 | [], _, _, _, _, h => h
 | l :: t, hL, hsub, x, hx, h => OS (L := t) (fun l hl => hL l (by simp [hl])) (fun l hl => hsub l (by simp [hl])) (x := jV x l) (by rw [lW, hx]) (UD (hL l (by simp)) (hsub l (by simp)) hx h)
theorem Ki (hL : InR L0 N) : ∀ (n : Nat) {x : List Int}, x.length = N → Att L0 S N x → Att L0 S N (jo L0 n x)
 | 0, _, _, h => h
 | n + 1, x, hx, h => Ki hL n (by rw [sQ, hx]) (OS hL (fun _ h => h) hx h)
theorem yl (hL : InR L0 N) : ∀ (n : Nat) {x : List Int}, x.length = N → ∀ v, 0 ≤ v → gv (jo L0 n x) v ≤ gv x v
 | 0, _, _, _, _ => Int.le_refl _
 | n + 1, x, hx, v, hv => Int.le_trans (yl hL n (by rw [sQ, hx]) v hv) (ym hL hx v hv)
def qj (S : Int → Bool) (N : Nat) : List Int := (List.range N).map fun (i : Nat) => if S i then 0 else gc
theorem gQ (S : Int → Bool) {N : Nat} {v : Int} (h0 : 0 ≤ v) (h1 : v < N) : gv (qj S N) v = if S v then 0 else gc := by
 unfold gv qj
 have : v.toNat < N := by omega
 rw [List.getElem?_map, List.getElem?_range this]
 simp only [Option.map_some, Option.getD_some]
 rw [Int.toNat_of_nonneg h0]
theorem cj (S : Int → Bool) (N : Nat) : (qj S N).length = N := by simp [qj]
end
theorem Bk {L : List Lk} {S : Int → Bool} {N : Nat} {M : Int} (hL : InR L N) (hS : ∀ v, S v = true → 0 ≤ v ∧ v < N) (hM : ∀ l ∈ L, l.2.2 ≤ M) : ∀ (n : Nat), n * M < gc → 0 ≤ M → ∀ vs v d, Wl L (fun v => S v = true) vs v d → vs.length ≤ n → gv (jo L n (qj S N)) v ≤ d
 | 0, _, _, vs, v, d, hw, hl => by
   cases hw with
   | nil h =>
     have := hS v h
     rw [jo, gQ S this.1 this.2, if_pos h]; exact Int.le_refl _
   | step => simp at hl
 | n + 1, hn, hM0, vs, v, d, hw, hl => by
   have hn' : n * M < gc := by rw [Int.natCast_succ, Int.add_mul, Int.one_mul] at hn; omega
   have hlen : (jo L n (qj S N)).length = N := by rw [eu, cj]
   rw [wX]
   cases hw with
   | nil h =>
     have h1 := ym hL hlen v (hS v h).1
     have h2 := Bk hL hS hM n hn' hM0 [] v 0 (.nil h) (by simp)
     omega
   | @step vs u _ m d hw hlk =>
     have h2 := Bk hL hS hM n hn' hM0 vs u d hw (by simpa using hl)
     have h3 := hw.high hM
     have h4 : (vs.length : Int) * M ≤ n * M := Int.mul_le_mul_of_nonneg_right (by simp at hl; omega) hM0
     have := Bl hL hlen u v m hlk (by omega)
     omega
theorem FH {L : List Lk} {S : Int → Bool} {N : Nat} {M : Int} {p : Int → Int} (hp : Pot L p) (hL : InR L N) (hS : ∀ v, S v = true → 0 ≤ v ∧ v < N) (hM : ∀ l ∈ L, l.2.2 ≤ M) (hM0 : 0 ≤ M) (hN : N * M < gc) (n : Nat) (hn : N ≤ n + 1) : VE L (fun v => S v = true) N (gv (jo L n (qj S N))) := by
 have hatt : Att L (fun v => S v = true) N (qj S N) := fun v h0 h1 hf => by
  rw [gQ S h0 h1] at hf ⊢
  split
  ·rename_i h; exact ⟨[], .nil h⟩
  ·rename_i h; rw [if_neg h] at hf; omega
 have hbd : ∀ v : Int, 0 ≤ v → v < N → gv (jo L n (qj S N)) v ≤ gc := fun v h0 h1 => by
  have := yl hL n (cj S N) v h0
  rw [gQ S h0 h1] at this
  have hF : (0 : Int) ≤ gc := by decide
  split at this <;> omega
 have hlow : ∀ (n : Nat), N ≤ n + 1 → ∀ v vs d, Wl L (fun v => S v = true) vs v d → gv (jo L n (qj S N)) v ≤ d := by
  intro n hn v vs d hw
  obtain ⟨vs', d', h1, h2, h3⟩ := hw.simple hp
  have h4 := h1.short hL hS h3
  have hpos : 0 < N := by omega
  obtain ⟨k, rfl⟩ : ∃ k, N = k + 1 := ⟨N - 1, by omega⟩
  have hk : (k : Int) * M < gc := by rw [Int.natCast_succ, Int.add_mul, Int.one_mul] at hN; omega
  have h5 := Bk hL hS hM k hk hM0 vs' v d' h1 (by omega)
  obtain ⟨j, rfl⟩ : ∃ j, n = k + j := ⟨n - k, by omega⟩
  have h6 : ∀ (j : Nat), gv (jo L (k + j) (qj S (k + 1))) v ≤ gv (jo L k (qj S (k + 1))) v := by
   intro j
   induction j with
   | zero => exact Int.le_refl _
   | succ j ih =>
     rw [← Nat.add_assoc, wX]
     have := ym hL (x := jo L (k + j) (qj S (k + 1))) (by rw [eu, cj]) v (h1.range hL hS).1.1
     omega
  have := h6 j
  omega
 exact ⟨fun v h0 h1 hne => Ki hL n (cj S N) hatt v h0 h1 (by have := hbd v h0 h1; omega), hlow n hn, hbd⟩
theorem VE.pot {L : List Lk} {S : Int → Prop} {N : Nat} {x : Int → Int} (h : VE L S N x) (hL : InR L N) {u v m : Int} (hl : (u, v, m) ∈ L) (hf : x u ≠ gc) : x v ≤ x u + m := by
 obtain ⟨vs, hw⟩ := h.att u (hL _ hl).1.1 (hL _ hl).1.2 hf
 exact h.low v _ _ (.step hw hl)
end Go.Proofs.ZzM
end
noncomputable section
namespace Go.Proofs.ZzM
open Go Go.Am
def cW (b : bH) (g : b9) : List Lk :=
 [(0, atP (bn b) [g.1] g.2.1, g.2.2.1 + g.2.2.2.1.2), (atP (bn b) [g.1] g.2.1, 0, -(g.2.2.1 + g.2.2.2.1.1))] ++
 (List.range ((bG b g).length - 1)).flatMap fun (k : Nat) => [(atP (bn b) [g.1] g.2.1 + k, atP (bn b) [g.1] g.2.1 + k + 1, 0), (atP (bn b) [g.1] g.2.1 + k + 1, atP (bn b) [g.1] g.2.1 + k, gy b g ((bG b g)[k]?.getD 0) ((bG b g)[k + 1]?.getD 0))]
def cx (b : bH) (c : Cmp) : Int := atP (bn b) (cw c.2.2.1 c.2.2.2.1) c.2.1
def cy (b : bH) (c : Cmp) : Int := atP (bn b) (cw c.2.2.2.1 c.2.2.1) c.2.1
def cp (b : bH) (c : Cmp) : List Lk := [(cy b c, cx b c, (fR b c).2), (cx b c, cy b c, -(fR b c).1)]
def bC (b : bH) : List Lk := b.2.1.flatMap (cW b) ++ b.2.2.2.2.1.flatMap (cp b)
def di (b : bH) (i : Nat) (g : b9) : List (Int × Int) := [(1, (i : Int)), (1, (i : Int))] ++ (List.range ((bG b g).length - 1)).flatMap fun _ => [(2, (i : Int)), (2, (i : Int))]
def fe (b : bH) : List (Int × Int) := (b.2.1.mapIdx (di b)).flatten ++ (b.2.2.2.2.1.mapIdx fun i _ => [(3, (i : Int)), (3, (i : Int))]).flatten
section
variable {b : bH}
theorem VM (h : cX b) {id day : Int} (hu : Yu (jl b) id day = 0) : (0 ≤ day ∧ day ≤ 20000) ∧ ∃ g, iB b id = some g ∧ g.2.1 ≤ day := by
 unfold Yu at hu
 split at hu
 ·omega
 ·rename_i hd
  simp only [Bool.not_eq_true', Bool.not_eq_false, NL, inP, Bool.and_eq_true, decide_eq_true_eq] at hd
  exact ⟨hd, Br h hu⟩
theorem lu {g : b9} {d : Int} : d ∈ bG b g ↔ d = g.2.1 ∨ (∃ c ∈ b.2.2.2.2.1, (c.2.2.1.contains g.1) ≠ (c.2.2.2.1.contains g.1) ∧ c.2.1 = d) ∨ (∃ n ∈ b.2.2.2.2.2, n.1 = g.1 ∧ n.2 = d) := by
 unfold bG
 rw [uW, NK]
 simp only [List.mem_append, List.mem_singleton, List.mem_map, List.mem_filter]
 constructor
 ·rintro ((h | ⟨c, ⟨h1, h2⟩, h3⟩) | ⟨n, ⟨h1, h2⟩, h3⟩)
  ·exact .inl h
  ·exact .inr (.inl ⟨c, h1, by simpa using h2, h3⟩)
  ·exact .inr (.inr ⟨n, h1, by simpa using h2, h3⟩)
 ·rintro (h | ⟨c, h1, h2, h3⟩ | ⟨n, h1, h2, h3⟩)
  ·exact .inl (.inl h)
  ·exact .inl (.inr ⟨c, ⟨h1, by simpa using h2⟩, h3⟩)
  ·exact .inr ⟨n, ⟨h1, by simpa using h2⟩, h3⟩
theorem cX.gaugeR (h : cX b) {g : b9} (hg : g ∈ b.2.1) : IH g.2.2.2.2.1 = true ∧ (-1000 ≤ g.2.2.2.2.1.1 ∧ g.2.2.2.2.1.1 ≤ 1000) ∧ g.2.2.2.2.1.2 ≤ 100 ∧ (1 ≤ g.1 ∧ g.1 ≤ 1099511627776) ∧ (0 ≤ g.2.1 ∧ g.2.1 ≤ 20000) ∧ (1 ≤ g.2.2.1 ∧ g.2.2.1 ≤ 1125899906842624) ∧ (-1073741824 ≤ g.2.2.2.1.1 ∧ g.2.2.2.1.1 ≤ g.2.2.2.1.2 ∧ g.2.2.2.1.2 ≤ 1073741824) ∧ (0 ≤ g.2.2.2.2.2 ∧ g.2.2.2.2.2 ≤ 1048576) := (K4 g).1 (h.gauge g hg)
theorem cX.day (h : cX b) {g : b9} (hg : g ∈ b.2.1) {d : Int} (hd : d ∈ bG b g) : g.2.1 ≤ d ∧ 0 ≤ d ∧ d ≤ 20000 := by
 have hr := h.gaugeR hg
 have hgo := xQ h.ids hg
 rcases lu.1 hd with rfl | ⟨c, hc, h1, rfl⟩ | ⟨n, hn, h1, rfl⟩
 ·have := hr.2.2.2.2.1; omega
 ·have hn := (jr c).1 (h.nums hc)
  have hx : g.1 ∈ c.2.2.1 ++ c.2.2.2.1 := by
   rw [List.mem_append]
   by_cases h2 : g.1 ∈ c.2.2.1
   ·exact .inl h2
   ·refine .inr ?_
    have e1 : c.2.2.1.contains g.1 = false := by simpa using h2
    rw [e1] at h1
    have : c.2.2.2.1.contains g.1 = true := by cases hh : c.2.2.2.1.contains g.1 <;> simp_all
    simpa using this
  obtain ⟨⟨g', h3, h4⟩, _⟩ := h.pile hc hx
  rw [hgo] at h3; cases h3
  have := hn.2.1
  omega
 ·obtain ⟨h2, g', h3, h4⟩ := VM h (h.looks n hn)
  rw [h1, hgo] at h3; cases h3
  omega
theorem kP (g : b9) : g.2.1 ∈ bG b g := lu.2 (.inl rfl)
theorem NJ (h : cX b) {g : b9} (hg : g ∈ b.2.1) : (bG b g).length ≤ 59 := by
 have h1 : ∀ l : List b9, g ∈ l → (bG b g).length ≤ (l.flatMap fun g => (bG b g).map fun d => ((g.1, d) : Int × Int)).length := by
  intro l
  induction l with
  | nil => intro hg; cases hg
  | cons a t ih =>
    intro hg
    rw [List.flatMap_cons, List.length_append, List.length_map]
    rcases List.mem_cons.1 hg with rfl | hg
    ·omega
    ·have := ih hg; omega
 have := h1 b.2.1 hg
 have := h.nodes
 unfold bn at this
 omega
theorem X4 {p : List Int} {d : Int} : 0 ≤ atP (bn b) p d ∧ atP (bn b) p d ≤ (bn b).length := by
 unfold atP
 cases p with
 | nil => simp
 | cons x t =>
   try dsimp only
   cases h : iz (bn b) x d with
   | none => simp
   | some j => have := (i8 h).1; dsimp only; omega
theorem Fz (h : cX b) {c : Cmp} (hc : c ∈ b.2.2.2.2.1) : (-1125904000000000 ≤ (fR b c).1 ∧ (fR b c).1 ≤ 1125904000000000) ∧ (-1125904000000000 ≤ (fR b c).2 ∧ (fR b c).2 ≤ 1125904000000000) := by
 obtain ⟨r1, r2⟩ := h.rates hc
 have hn := (jr c).1 (h.nums hc)
 have ha := fw hn.2.2.2.2.2.1
 have hb := fw hn.2.2.2.2.2.2
 have hf := h.film
 obtain ⟨g1, g2⟩ := LR (Lt r1 r2) hn.2.2.2.2.1
 have fb := xW (b := b) (c := c) (by omega) (by omega) (by omega) (by omega) (by omega) (by omega)
 have q1 : qi (dG b c).1 2000000000 10000 := g1
 have q2 : qi (dG b c).2 2000000000 10000 := g2
 have c1 := CL q1
 have c2 := xT q2
 have n3 := hn.2.2.1
 have n4 := hn.2.2.2.1
 unfold fR
 try dsimp only
 omega
theorem m5 (h : cX b) {g : b9} (hg : g ∈ b.2.1) {f t : Int} (hf : 0 ≤ f) : 0 ≤ gy b g f t ∧ gy b g f t ≤ 12 * (20001 * 1048576) + 40 * 1048576 := by
 have hr := (h.gaugeR hg).2.2.2.2.2.2.2
 have h1 := oQ (id := g.1) (t := t) hf (x := b.2.2.2.1) fun l hl => Cm h hl
 have h2 : (b.2.2.2.1.length : Int) * (20001 * 1048576) ≤ 12 * (20001 * 1048576) := Int.mul_le_mul_of_nonneg_right (by have := h.nL; omega) (by omega)
 have h3 : (gN b g.1 f t).length ≤ 40 := by
  unfold gN
  rw [List.length_map]
  exact Nat.le_trans (List.length_filter_le _ _) h.nU
 have h4 := EP (gN b g.1 f t)
 have hm : 0 ≤ ((Rb (gN b g.1 f t)).length : Int) * g.2.2.2.2.2 ∧ ((Rb (gN b g.1 f t)).length : Int) * g.2.2.2.2.2 ≤ 40 * 1048576 :=
  ⟨Int.mul_nonneg (by omega) hr.1, Int.mul_le_mul (by omega) hr.2 hr.1 (by omega)⟩
 unfold gy
 omega
end
theorem j8 {α β : Type} (f : Nat → α → β) {l : List α} {i : Nat} {a : α} (h : l[i]? = some a) : (l.take (i + 1)).mapIdx f = (l.take i).mapIdx f ++ [f i a] := by
 have hi : i < l.length := (List.getElem?_eq_some_iff.1 h).1
 have : (l.take i).length = i := by rw [List.length_take]; omega
 rw [take_succ h, List.mapIdx_append]
 simp [this]
theorem Bi {α : Type} (f : Nat → List α) (j : Nat) : (List.range (j + 1)).flatMap f = (List.range j).flatMap f ++ f j := by
 rw [List.range_succ, List.flatMap_append]; simp
theorem iQ {α : Type} (f : Nat → List α) (n : Nat) (h : ∀ k, (f k).length = 2) : ((List.range n).flatMap f).length = 2 * n := by
 induction n with
 | zero => rfl
 | succ n ih => rw [Bi, List.length_append, ih, h]; omega
set_option maxHeartbeats 2000000 in
theorem TH {b : bH} (h : cX b) : AO b = some (b, bn b, (((bn b).length : Int) + 1, bC b), fe b) := by
 unfold AO M3
 have hN := h.nodes
 have hG := h.nG
 have hC := h.nC
 rw [LT h.size, aW, b8, bz (by omega) (by omega)]
 -- lengths of what comes
 have gl : ∀ g ∈ b.2.1, (cW b g).length ≤ 120 ∧ ∀ i, (di b i g).length ≤ 120 := by
  intro g hg
  have := NJ h hg
  constructor
  ·unfold cW
   rw [List.length_append, iQ _ _ (fun _ => rfl)]
   simp only [List.length_cons, List.length_nil]; omega
  ·intro i
   unfold di
   rw [List.length_append, iQ _ _ (fun _ => rfl)]
   simp only [List.length_cons, List.length_nil]; omega
 have gls : ∀ i, ((b.2.1.take i).flatMap (cW b)).length ≤ 1440 ∧ (((b.2.1.take i).mapIdx (di b)).flatten).length ≤ 1440 := by
  intro i
  induction i with
  | zero => simp
  | succ i ih =>
    have key : ∀ i, i ≤ b.2.1.length → ((b.2.1.take i).flatMap (cW b)).length ≤ i * 120 ∧ (((b.2.1.take i).mapIdx (di b)).flatten).length ≤ i * 120 := by
     intro i
     induction i with
     | zero => intro _; simp
     | succ i ih =>
       intro hi
       have ih := ih (by omega)
       have hg : b.2.1[i]? = some b.2.1[i] := List.getElem?_eq_getElem hi
       have h2 := gl _ (List.mem_of_getElem? hg)
       have h3 := h2.2 i
       rw [j8 _ hg, take_succ hg, List.flatMap_append, List.flatten_append, List.length_append, List.length_append]
       simp only [List.flatMap_cons, List.flatMap_nil, List.append_nil, List.flatten_cons, List.flatten_nil]
       omega
    rcases Nat.lt_or_ge b.2.1.length (i + 1) with h1 | h1
    ·rw [List.take_of_length_le (by omega)]
     have := key b.2.1.length (Nat.le_refl _)
     rw [List.take_length] at this
     omega
    ·have := key (i + 1) h1
     omega
 refine cD b.2.1 (fun i => ((b.2.1.take i).flatMap (cW b), ((b.2.1.take i).mapIdx (di b)).flatten)) _ rfl (fun i g hi hg kn => ?_) (fun kn => ?_)
 ·try dsimp only
  unfold qW
  have hgm := List.mem_of_getElem? hg
  have hr := h.gaugeR hgm
  have hd := NJ h hgm
  have hls := gls i
  have hat := X4 (b := b) (p := [g.1]) (d := g.2.1)
  rw [bv hi, bp hg]
  rw [show me ((b.1.1, b.1.2), b.2.1, b.2.2.1, b.2.2.2.1, b.2.2.2.2.1, b.2.2.2.2.2) g = me b g from rfl, Xu h.size, aW]
  rw [X3 _ _ _ (by dsimp only; omega), aW]
  try dsimp only
  have r1 := hr.2.2.2.2.2.1
  have r2 := hr.2.2.2.2.2.2.1
  rw [bz (by omega) (by omega), bz (by omega) (by omega), bz (by omega) (by omega), bw (by simp only [List.length_cons, List.length_nil]; omega), Am.iff_true, bw (by simp only [List.length_cons, List.length_nil]; omega), Am.iff_true]
  refine gW (fun x : Int × List Lk × List (Int × Int) => ∃ j : Nat, j + 1 ≤ (bG b g).length ∧ x.1 = (j : Int) + 1 ∧
   x.2.1 = (b.2.1.take i).flatMap (cW b) ++ ([(0, atP (bn b) [g.1] g.2.1, g.2.2.1 + g.2.2.2.1.2), (atP (bn b) [g.1] g.2.1, 0, -(g.2.2.1 + g.2.2.2.1.1))] ++
    (List.range j).flatMap fun (k : Nat) => [(atP (bn b) [g.1] g.2.1 + k, atP (bn b) [g.1] g.2.1 + k + 1, 0), (atP (bn b) [g.1] g.2.1 + k + 1, atP (bn b) [g.1] g.2.1 + k, gy b g ((bG b g)[k]?.getD 0) ((bG b g)[k + 1]?.getD 0))]) ∧
   x.2.2 = ((b.2.1.take i).mapIdx (di b)).flatten ++ ([(1, (i : Int)), (1, (i : Int))] ++ (List.range j).flatMap fun _ => [(2, (i : Int)), (2, (i : Int))])) (fun x => (bG b g).length - x.1.toNat) ?_
   ⟨0, List.length_pos_of_mem (kP g), rfl, by simp, by simp⟩
  rintro ⟨x1, ls, ss⟩ ⟨j, hj, e1, e2, e3⟩
  dsimp only at e1 e2 e3 ⊢
  subst e1
  have hlls : ls.length ≤ 1562 := by
   rw [e2, List.length_append, List.length_append, iQ _ _ (fun _ => rfl)]
   simp only [List.length_cons, List.length_nil]; omega
  have hlss : ss.length ≤ 1562 := by
   rw [e3, List.length_append, List.length_append, iQ _ _ (fun _ => rfl)]
   simp only [List.length_cons, List.length_nil]; omega
  rcases Nat.lt_or_ge (j + 1) (bG b g).length with hlt | hge
  ·refine .inr ⟨((j : Int) + 1 + 1, _, _), ⟨j + 1, hlt, by push_cast; rfl, rfl, rfl⟩, by dsimp only; omega, fun kn' => ?_⟩
   try dsimp only
   unfold qV
   have g1 : (bG b g)[j]? = some ((bG b g)[j]?.getD 0) := by rw [List.getElem?_eq_getElem (by omega)]; rfl
   have g2 : (bG b g)[j + 1]? = some ((bG b g)[j + 1]?.getD 0) := by rw [List.getElem?_eq_getElem hlt]; rfl
   have d1 := h.day hgm (List.mem_of_getElem? g1)
   have d2 := h.day hgm (List.mem_of_getElem? g2)
   have lb := m5 h hgm (t := (bG b g)[j + 1]?.getD 0) d1.2.1
   have ec : ((j : Int) + 1) = ((j + 1 : Nat) : Int) := by push_cast; rfl
   rw [ec, bv hlt, bz (by omega) (by omega), bz (by omega) (by omega), bz (by omega) (by omega), bz (by omega) (by omega)]
   rw [show (((j + 1 : Nat) : Int) - 1) = ((j : Nat) : Int) by omega, bp g1, bp g2]
   rw [show ot ((b.1.1, b.1.2), b.2.1, b.2.2.1, b.2.2.2.1, b.2.2.2.2.1, b.2.2.2.2.2) (g.1, g.2.1, g.2.2.1, (g.2.2.2.1.1, g.2.2.2.1.2), (g.2.2.2.2.1.1, g.2.2.2.2.1.2), g.2.2.2.2.2) ((bG b g)[j]?.getD 0) ((bG b g)[j + 1]?.getD 0) = ot b g ((bG b g)[j]?.getD 0) ((bG b g)[j + 1]?.getD 0) from rfl]
   rw [WH h hr.2.2.2.2.2.2.2 ⟨by omega, by omega⟩ ⟨by omega, by omega⟩, aW, bz (by omega) (by omega), bz (by omega) (by omega), bw (by simp only [List.length_cons, List.length_nil]; omega), Am.iff_true, bw (by simp only [List.length_cons, List.length_nil]; omega), Am.iff_true, br hlt (by omega)]
   rw [Bi, Bi, e2, e3]
   have a1 : atP (bn b) [g.1] g.2.1 + ((j + 1 : Nat) : Int) - 1 = atP (bn b) [g.1] g.2.1 + (j : Int) := by push_cast; omega
   have a2 : atP (bn b) [g.1] g.2.1 + ((j + 1 : Nat) : Int) = atP (bn b) [g.1] g.2.1 + (j : Int) + 1 := by push_cast; omega
   have a3 : 0 - (0 - gy b g ((bG b g)[j]?.getD 0) ((bG b g)[j + 1]?.getD 0)) = gy b g ((bG b g)[j]?.getD 0) ((bG b g)[j + 1]?.getD 0) := by omega
   rw [a1, a2, a3]
   simp only [List.append_assoc]
  ·refine .inl fun kn' => ?_
   have hje : j + 1 = (bG b g).length := by omega
   unfold qV
   rw [show ((j : Int) + 1) = (((bG b g).length : Nat) : Int) by rw [← hje]; push_cast; rfl, bU]
   dsimp only
   rw [br hi (by omega)]
   rw [j8 _ hg, take_succ hg, List.flatMap_append, List.flatten_append, e2, e3, show j = (bG b g).length - 1 by omega]
   simp only [List.flatMap_cons, List.flatMap_nil, List.append_nil, List.flatten_cons, List.flatten_nil]
   rfl
 ·try dsimp only
  unfold qW
  rw [bU, List.take_length]
  have hls := gls b.2.1.length
  rw [List.take_length] at hls
  have cl : ∀ i, i ≤ b.2.2.2.2.1.length → ((b.2.2.2.2.1.take i).flatMap (cp b)).length = 2 * i ∧ (((b.2.2.2.2.1.take i).mapIdx fun i _ => [((3 : Int), (i : Int)), ((3 : Int), (i : Int))]).flatten).length = 2 * i := by
   intro i
   induction i with
   | zero => intro _; simp
   | succ i ih =>
     intro hi
     have ih := ih (by omega)
     have hg : b.2.2.2.2.1[i]? = some b.2.2.2.2.1[i] := List.getElem?_eq_getElem hi
     rw [j8 _ hg, take_succ hg, List.flatMap_append, List.flatten_append, List.length_append, List.length_append]
     simp only [List.flatMap_cons, List.flatMap_nil, List.append_nil, List.flatten_cons, List.flatten_nil, cp, List.length_cons, List.length_nil]
     omega
  refine cD b.2.2.2.2.1 (fun i => (b.2.1.flatMap (cW b) ++ (b.2.2.2.2.1.take i).flatMap (cp b), (b.2.1.mapIdx (di b)).flatten ++ ((b.2.2.2.2.1.take i).mapIdx fun i _ => [((3 : Int), (i : Int)), ((3 : Int), (i : Int))]).flatten)) _ (by simp) (fun i c hi hc kn' => ?_) (fun kn' => ?_)
  ·try dsimp only
   unfold qU
   have hcm := List.mem_of_getElem? hc
   have hn := (jr c).1 (h.nums hcm)
   have ha := fw hn.2.2.2.2.2.1
   have hb := fw hn.2.2.2.2.2.2
   have sb := Fz h hcm
   have c1 := cl i (by omega)
   rw [bv hi, bp hc, oR (by omega) (by omega), aW, X3 _ _ _ (by dsimp only; omega), aW, oR (by omega) (by omega), aW, X3 _ _ _ (by dsimp only; omega), aW]
   rw [show ro ((b.1.1, b.1.2), b.2.1, b.2.2.1, b.2.2.2.1, b.2.2.2.2.1, b.2.2.2.2.2) c = ro b c from rfl, h.says hcm, aW]
   rw [bz (by omega) (by omega), bw (by simp only [List.length_append, List.length_cons, List.length_nil]; omega), Am.iff_true, bw (by simp only [List.length_append, List.length_cons, List.length_nil]; omega), Am.iff_true, br hi (by omega), j8 _ hc, take_succ hc, List.flatMap_append, List.flatten_append]
   simp only [List.flatMap_cons, List.flatMap_nil, List.append_nil, List.flatten_cons, List.flatten_nil, List.append_assoc, Int.zero_sub]
   rfl
  ·try dsimp only
   unfold qU
   rw [bU, List.take_length]
   rfl
end Go.Proofs.ZzM
end
noncomputable section
namespace Go.Proofs.ZzM
open Go Go.Am
section
variable {ρ : Type}
def wv (w : List Bool) (v : Int) : Bool := w[v.toNat]?.getD false
theorem S0 {w : List Bool} {u v : Int} (hu : 0 ≤ u) (hv : 0 ≤ v) (h : u.toNat < w.length) (y : Bool) : wv (w.set u.toNat y) v = if v = u then y else wv w v := by
 unfold wv
 rw [List.getElem?_set]
 by_cases hvu : v = u
 ·subst hvu; simp [h]
 ·have : ¬ u.toNat = v.toNat := by omega
  simp [hvu, this]
theorem iT {x : List Int} {v : Int} (h : v.toNat < x.length) (f : Int → Option ρ) : gg x v.toNat f = f (gv x v) := qo (TP h) f
theorem LW {w : List Bool} {v : Int} (h : v.toNat < w.length) (f : Bool → Option ρ) : gg w v.toNat f = f (wv w v) := by
 refine qo ?_ f
 unfold wv; rw [List.getElem?_eq_getElem h]; rfl
theorem hX {v : Int} {n : Nat} (h0 : 0 ≤ v) (h1 : v < n) (x : Option ρ) : ca ((ile 0 v) && (ilt v (n : Int))) x = x := by
 have : ((ile 0 v) && (ilt v (n : Int))) = true := by simp [ile, ilt, h0, h1]
 rw [this, Am.iff_true]
end
def m6 (n least : Int) : List Lk → List Int → List Bool → List Int → Bool × List Int × List Bool × List Int
 | [], x, w, q => (true, x, w, q)
 | l :: t, x, w, q =>
   if l.1 ≠ n then m6 n least t x w q else
   if gv x l.2.1 ≤ gv x n + l.2.2 then m6 n least t x w q else
   if gv x n + l.2.2 < least then (false, x.set l.2.1.toNat (gv x n + l.2.2), w, q) else
   if wv w l.2.1 then m6 n least t (x.set l.2.1.toNat (gv x n + l.2.2)) w q else m6 n least t (x.set l.2.1.toNat (gv x n + l.2.2)) (w.set l.2.1.toNat true) (q ++ [l.2.1])
structure gE (L : List Lk) (N : Nat) (M : Int) : Prop where
 inr : InR L N
 noloop : ∀ l ∈ L, l.1 ≠ l.2.1
 most : ∀ l ∈ L, -M ≤ l.2.2 ∧ l.2.2 ≤ M
 len : L.length ≤ 400
 nodes : N ≤ 1000
 m0 : 0 ≤ M
 m1 : M ≤ 4503599627370496
set_option maxHeartbeats 1000000 in
theorem Y5 {ρ : Type} {L : List Lk} {N : Nat} {M : Int} (hL : gE L N M) {n least : Int} (hn : 0 ≤ n ∧ n < N) {x : List Int} {w : List Bool} {q : List Int} (hx : x.length = N) (hw : w.length = N) (hq : q.length ≤ 1000000)
 (hb : -2305843009213693952 ≤ gv x n ∧ gv x n ≤ 2305843009213693952) (K0 : (Val (.pair .bool (.pair (.slice tI) (.pair (.slice .bool) (.slice tI))))) → Option ρ) (K1 : (Val (.pair (.slice tI) (.pair (.slice .bool) (.slice tI)))) → Option ρ) :
 bt (fun (v47 : (Val (.pair tI (.pair (.slice tI) (.pair (.slice .bool) (.slice tI)))))) kk52 => g8 [] least n L (bE L) v47.1 v47.2.1 v47.2.2.1 v47.2.2.2 (fun u48 u49 u50 u51 => kk52 (u48, u49, u50, u51)) K0 K1) ((0 : Int), x, w, q) =
  match m6 n least L x w q with
  | (true, r) => K1 r
  | (false, r) => K0 (false, r) := by
 have hlen := hL.len
 refine Nw L (fun i (s : List Int × List Bool × List Int) t => match m6 n least t s.1 s.2.1 s.2.2 with | (true, r) => K1 r | (false, r) => K0 (false, r))
  (fun i s => s.1.length = N ∧ s.2.1.length = N ∧ gv s.1 n = gv x n ∧ s.2.2.length ≤ 1000000 + i) (fun s hs kn => ?_) (fun i l t s hd hi hl hI kn hk => ?_) (s := (x, w, q)) ⟨hx, hw, rfl, by simpa using hq⟩
 ·try dsimp only
  unfold g8
  rw [bU]
  rfl
 ·obtain ⟨y, u, p⟩ := s
  obtain ⟨h1, h2, h3, h4⟩ := hI
  dsimp only at h1 h2 h3 h4 hk ⊢
  have hmem : l ∈ L := List.mem_of_getElem? hl
  have hr := hL.inr l hmem
  have hm := hL.most l hmem
  have hm1 := hL.m1
  have hnl := hL.noloop l hmem
  unfold g8
  rw [bv hi, bp hl]
  unfold m6
  by_cases hln : l.1 = n
  ·have e0 : ine l.1 n = false := by simp [ine, hln]
   rw [bu e0]
   have e1 : ∀ (f : Bool → Option ρ) (g : Option ρ), ED (k := tI) (v := .bool) (i : Int) [] f g = g := fun f g => rfl
   rw [e1, if_neg (by simp [hln])]
   have tn : n.toNat < y.length := by omega
   have tt : l.2.1.toNat < y.length := by omega
   have tu : l.2.1.toNat < u.length := by omega
   rw [hX hn.1 (by omega), iT tn, bz (by omega) (by omega), hX hr.2.1 (by omega), iT tt, dp]
   by_cases hge : gv y l.2.1 ≤ gv y n + l.2.2
   ·rw [if_pos (by simpa [ige] using hge), if_pos hge, br hi (by omega)]
    exact hk (y, u, p) ⟨h1, h2, h3, by dsimp only; omega⟩
   ·rw [if_neg (by simpa [ige] using hge), if_neg hge]
    have hset : gv (y.set l.2.1.toNat (gv y n + l.2.2)) n = gv x n := by
     rw [un hr.2.1 hn.1 tt, if_neg (fun h => hnl (hln.trans h)), h3]
    have hself : gv (y.set l.2.1.toNat (gv y n + l.2.2)) l.2.1 = gv y n + l.2.2 := by
     rw [un hr.2.1 hr.2.1 tt, if_pos rfl]
    rw [hX hn.1 (by omega), iT tn, bz (by omega) (by omega), hX hr.2.1 (by omega), iT tt]
    rw [show (dt (List.set y l.2.1.toNat (gv y n + l.2.2))) = ((y.length : Nat) : Int) by simp [dt]]
    rw [hX hr.2.1 (by omega), iT (by simpa using tt), hself, dp]
    by_cases hlt : gv y n + l.2.2 < least
    ·rw [if_pos (by simpa [ilt] using hlt), if_pos hlt]
    ·rw [if_neg (by simpa [ilt] using hlt), if_neg hlt, hX hr.2.1 (by omega), LW tu, dp]
     cases hwv : wv u l.2.1 with
     | true =>
       rw [if_neg (by simp), if_pos rfl, br hi (by omega)]
       exact hk (y.set l.2.1.toNat (gv y n + l.2.2), u, p) ⟨by simpa using h1, h2, hset, by dsimp only; omega⟩
     | false =>
       rw [if_pos (by simp), if_neg (by simp), bw (by simp only [List.length_singleton]; omega), Am.iff_true, hX hr.2.1 (by omega), LW tu, br hi (by omega)]
       exact hk (y.set l.2.1.toNat (gv y n + l.2.2), u.set l.2.1.toNat true, p ++ [l.2.1]) ⟨by simpa using h1, by simpa using h2, hset, by simp only [List.length_append, List.length_singleton]; omega⟩
  ·have e0 : ine l.1 n = true := by simp [ine, hln]
   rw [bI e0, if_pos hln, br hi (by omega)]
   exact hk (y, u, p) ⟨h1, h2, h3, by dsimp only; omega⟩
structure ZS (N : Nat) (n least : Int) (L : List Lk) (x : List Int) (q : List Int) (x' : List Int) (w' : List Bool) (q' : List Int) : Prop where
 lx : x'.length = N
 lw : w'.length = N
 same : gv x' n = gv x n
 le : ∀ v : Int, 0 ≤ v → v < N → gv x' v ≤ gv x v
 link : ∀ v m, (n, v, m) ∈ L → gv x' v ≤ gv x n + m
 chg : ∀ v : Int, 0 ≤ v → v < N → gv x' v = gv x v ∨ (v ∈ q' ∧ gv x' v < gv x v ∧ ∃ m, (n, v, m) ∈ L ∧ gv x' v = gv x n + m ∧ least ≤ gv x' v)
 new : ∃ l, q' = q ++ l ∧ ∀ v ∈ l, (0 ≤ v ∧ v < N) ∧ gv x' v < gv x v
 nodup : q'.Nodup
 waits : ∀ v : Int, 0 ≤ v → v < N → (wv w' v = true ↔ v ∈ q')
theorem jc {N : Nat} {n least : Int} (hn : 0 ≤ n ∧ n < N) : ∀ {L : List Lk}, InR L N → (∀ l ∈ L, l.1 ≠ l.2.1) → ∀ {x : List Int} {w : List Bool} {q : List Int}, x.length = N → w.length = N → q.Nodup → (∀ v : Int, 0 ≤ v → v < N → (wv w v = true ↔ v ∈ q)) →
 ∀ {x' : List Int} {w' : List Bool} {q' : List Int}, m6 n least L x w q = (true, x', w', q') → ZS N n least L x q x' w' q'
 | [], _, _, x, w, q, hx, hw, hq, hwq, x', w', q', h => by
   cases h
   exact ⟨hx, hw, rfl, fun _ _ _ => Int.le_refl _, fun _ _ h => (by cases h), fun _ _ _ => .inl rfl, ⟨[], by simp, fun _ h => by cases h⟩, hq, hwq⟩
 | l :: t, hL, hnl, x, w, q, hx, hw, hq, hwq, x', w', q', h => by
   have hLt : InR t N := fun l hl => hL l (by simp [hl])
   have hnt : ∀ l ∈ t, l.1 ≠ l.2.1 := fun l hl => hnl l (by simp [hl])
   have hr := hL l (by simp)
   have hl0 := hnl l (by simp)
   unfold m6 at h
   split at h
   ·rename_i hne
    have a := jc hn hLt hnt hx hw hq hwq h
    exact ⟨a.lx, a.lw, a.same, a.le, fun v m hm => by
     rcases List.mem_cons.1 hm with rfl | hm
     ·exact (hne rfl).elim
     ·exact a.link v m hm, fun v h0 h1 => (a.chg v h0 h1).imp id fun ⟨g1, g2, m, g3, g4⟩ => ⟨g1, g2, m, by simp [g3], g4⟩, a.new, a.nodup, a.waits⟩
   ·rename_i hne
    have hln : l.1 = n := by simpa using hne
    split at h
    ·rename_i hle
     have a := jc hn hLt hnt hx hw hq hwq h
     exact ⟨a.lx, a.lw, a.same, a.le, fun v m hm => by
      rcases List.mem_cons.1 hm with rfl | hm
      ·have := a.le v hr.2.1 hr.2.2; simp only at hle; omega
      ·exact a.link v m hm, fun v h0 h1 => (a.chg v h0 h1).imp id fun ⟨g1, g2, m, g3, g4⟩ => ⟨g1, g2, m, by simp [g3], g4⟩, a.new, a.nodup, a.waits⟩
    ·rename_i hgt
     split at h
     ·cases h
     ·rename_i hls
      have tt : l.2.1.toNat < x.length := by omega
      have tw : l.2.1.toNat < w.length := by omega
      have hy : (x.set l.2.1.toNat (gv x n + l.2.2)).length = N := by simpa using hx
      have hyn : gv (x.set l.2.1.toNat (gv x n + l.2.2)) n = gv x n := by
       rw [un hr.2.1 hn.1 tt, if_neg (fun h => hl0 (hln.trans h))]
      have hyv : ∀ v, 0 ≤ v → gv (x.set l.2.1.toNat (gv x n + l.2.2)) v = if v = l.2.1 then gv x n + l.2.2 else gv x v := fun v h0 => un hr.2.1 h0 tt _
      have hlm : (n, l.2.1, l.2.2) ∈ l :: t := by rw [← hln]; simp
      -- what both ways have in common
      have fin : ∀ {w1 : List Bool} {q1 : List Int}, ZS N n least t (x.set l.2.1.toNat (gv x n + l.2.2)) q1 x' w' q' → l.2.1 ∈ q1 → (∃ l', q1 = q ++ l' ∧ ∀ v ∈ l', v = l.2.1) → ZS N n least (l :: t) x q x' w' q' := by
       intro w1 q1 a hmem hq1
       obtain ⟨new, hnew, hnv⟩ := a.new
       obtain ⟨l', hl', hlv⟩ := hq1
       have hto : gv x' l.2.1 ≤ gv x n + l.2.2 := by
        have := a.le l.2.1 hr.2.1 hr.2.2
        rw [hyv _ hr.2.1, if_pos rfl] at this
        exact this
       refine ⟨a.lx, a.lw, a.same.trans hyn, fun v h0 h1 => ?_, fun v m hm => ?_, fun v h0 h1 => ?_, ⟨l' ++ new, by rw [hnew, hl', List.append_assoc], fun v hv => ?_⟩, a.nodup, a.waits⟩
       ·have := a.le v h0 h1
        rw [hyv v h0] at this
        split at this
        ·rename_i e; subst e; omega
        ·exact this
       ·rcases List.mem_cons.1 hm with rfl | hm
        ·exact hto
        ·have := a.link v m hm
         rwa [hyn] at this
       ·rcases a.chg v h0 h1 with g | ⟨g1, g2, m, g3, g4, g5⟩
        ·rw [hyv v h0] at g
         split at g
         ·rename_i e
          subst e
          exact .inr ⟨by rw [hnew]; exact List.mem_append_left _ hmem, by omega, l.2.2, hlm, g, by omega⟩
         ·exact .inl g
        ·rw [hyv v h0] at g2
         rw [hyn] at g4
         refine .inr ⟨g1, ?_, m, by simp [g3], g4, g5⟩
         split at g2
         ·rename_i e; subst e; omega
         ·exact g2
       ·rcases List.mem_append.1 hv with hv | hv
        ·rw [hlv v hv]; exact ⟨hr.2, by omega⟩
        ·obtain ⟨g1, g2⟩ := hnv v hv
         rw [hyv v g1.1] at g2
         refine ⟨g1, ?_⟩
         split at g2
         ·rename_i e; subst e; omega
         ·exact g2
      split at h
      ·rename_i hwt
       exact fin (w1 := w) (jc hn hLt hnt hy hw hq hwq h) ((hwq _ hr.2.1 hr.2.2).1 hwt) ⟨[], by simp, fun _ h => by cases h⟩
      ·rename_i hwt
       have hnq : l.2.1 ∉ q := fun hc => hwt ((hwq _ hr.2.1 hr.2.2).2 hc)
       refine fin (w1 := w.set l.2.1.toNat true) (jc hn hLt hnt hy (by simpa using hw) ?_ ?_ h) (by simp) ⟨[l.2.1], rfl, fun v hv => by simpa using hv⟩
       ·rw [List.nodup_append]
        exact ⟨hq, by simp, fun a ha b hb => by simp at hb; subst hb; exact fun e => hnq (e ▸ ha)⟩
       ·intro v h0 h1
        rw [S0 hr.2.1 h0 tw]
        by_cases hv : v = l.2.1
        ·simp [hv]
        ·simp only [hv, if_false, List.mem_append, List.mem_singleton, or_false]
         exact hwq v h0 h1
theorem lj {n least : Int} : ∀ {L : List Lk}, (∀ l ∈ L, l.1 ≠ l.2.1) → (∀ l ∈ L, 0 ≤ l.2.1) → 0 ≤ n → ∀ {x : List Int} {w : List Bool} {q : List Int} {r}, m6 n least L x w q = (false, r) → ∃ v m, (n, v, m) ∈ L ∧ gv x n + m < least
 | [], _, _, _, x, w, q, r, h => by cases h
 | l :: t, hnl, h0, hn, x, w, q, r, h => by
   have hnt : ∀ l ∈ t, l.1 ≠ l.2.1 := fun l hl => hnl l (by simp [hl])
   have h0t : ∀ l ∈ t, 0 ≤ l.2.1 := fun l hl => h0 l (by simp [hl])
   have up : (∃ v m, (n, v, m) ∈ t ∧ gv x n + m < least) → ∃ v m, (n, v, m) ∈ l :: t ∧ gv x n + m < least := fun ⟨v, m, g1, g2⟩ => ⟨v, m, by simp [g1], g2⟩
   unfold m6 at h
   split at h
   ·exact up (lj hnt h0t hn h)
   ·rename_i hne
    have hln : l.1 = n := by simpa using hne
    split at h
    ·exact up (lj hnt h0t hn h)
    ·split at h
     ·rename_i hlt
      exact ⟨l.2.1, l.2.2, by rw [← hln]; simp, hlt⟩
     ·have hyn : gv (x.set l.2.1.toNat (gv x n + l.2.2)) n = gv x n := by
       unfold gv
       rw [List.getElem?_set]
       have h1 := hnl l (by simp)
       have h2 := h0 l (by simp)
       have : ¬ l.2.1.toNat = n.toNat := by omega
       simp [this]
      split at h
      ·have := lj hnt h0t hn h
       rw [hyn] at this
       exact up this
      ·have := lj hnt h0t hn h
       rw [hyn] at this
       exact up this
end Go.Proofs.ZzM
end
noncomputable section
namespace Go.Proofs.ZzM
open Go Go.Am
theorem TB {ρ : Type} {L : List Lk} {N : Nat} {M : Int} (hL : gE L N M) {n least : Int} (hn : 0 ≤ n ∧ n < N) {x : List Int} {w : List Bool} {t rest : List Int} (hx : x.length = N) (hw : w.length = N) (ht : t.length = N) (hq : rest.length ≤ 1000000)
 (hb : -2305843009213693952 ≤ gv x n ∧ gv x n ≤ 2305843009213693952) (htn : 0 ≤ gv t n ∧ gv t n ≤ 1000000) (kn : List Int → List Bool → List Int → List Int → Option ρ) (k0 : (Val (.pair .bool (.pair (.slice tI) (.pair (.slice .bool) (.pair (.slice tI) (.slice tI)))))) → Option ρ) :
 de [] least (N : Int) L x w t (n :: rest) kn k0 =
  if (N : Int) + 1 < gv t n + 1 then k0 (false, x, w.set n.toNat false, t.set n.toNat (gv t n + 1), rest) else
  match m6 n least L x (w.set n.toNat false) rest with
  | (true, x', w', q') => kn x' w' (t.set n.toNat (gv t n + 1)) q'
  | (false, x', w', q') => k0 (false, x', w', t.set n.toNat (gv t n + 1), q') := by
 have hN := hL.nodes
 have tn : n.toNat < x.length := by omega
 have tw : n.toNat < w.length := by omega
 have tt : n.toNat < t.length := by omega
 unfold de
 have e0 : ieq (bE (n :: rest)) 0 = false := by
  rw [b8]
  simp only [ieq, List.length_cons, beq_eq_false_iff_ne, ne_eq]
  omega
 have e1 : ilt (0 : Int) (dt (n :: rest)) = true := by simp [ilt, dt]
 have e2 : ile (1 : Int) (dt (n :: rest)) = true := by simp [ile, dt]; omega
 have e3 : decide (1 + (List.length (n :: rest) - 1) = List.length (n :: rest)) = true := by simp; omega
 rw [bu e0, dA e1]
 rw [show gg (n :: rest) 0 = fun (f : Int → Option ρ) => f n from rfl]
 try dsimp only
 rw [dA e2, dA e3, hX hn.1 (by omega), LW tw, hX hn.1 (by omega), iT tt, bz (by omega) (by omega), hX hn.1 (by omega), iT tt]
 rw [show (dt (List.set t n.toNat (gv t n + 1))) = ((t.length : Nat) : Int) by simp [dt]]
 rw [hX hn.1 (by omega), iT (by simpa using tt), un hn.1 hn.1 tt, if_pos rfl, bz (by omega) (by omega), dp]
 rw [show List.drop 1 (n :: rest) = rest from rfl]
 by_cases hlt : (N : Int) + 1 < gv t n + 1
 ·rw [if_pos (by simpa [igt] using hlt), if_pos hlt]
 ·rw [if_neg (by simpa [igt] using hlt), if_neg hlt]
  rw [Y5 hL hn hx (w := w.set n.toNat false) (by simpa using hw) hq hb]
  generalize m6 n least L x (w.set n.toNat false) rest = r
  obtain ⟨b, x', w', q'⟩ := r
  cases b <;> rfl
theorem Wd {ρ : Type} {L : List Lk} {N : Int} {least : Int} {x : List Int} {w : List Bool} {t : List Int} (kn : List Int → List Bool → List Int → List Int → Option ρ) (k0 : (Val (.pair .bool (.pair (.slice tI) (.pair (.slice .bool) (.pair (.slice tI) (.slice tI)))))) → Option ρ) :
 de [] least N L x w t [] kn k0 = k0 (true, x, w, t, []) := by
 unfold de
 have e0 : ieq (bE ([] : List Int)) 0 = true := by rw [b8]; rfl
 rw [bI e0]
def Nz (N : Nat) (t : List Int) : Nat := (t.map fun a => ((N : Int) + 2 - a).toNat).sum
theorem TK (N : Nat) : ∀ (t : List Int) (i : Nat) (a b : Int), t[i]? = some a → a < b → a < (N : Int) + 2 → Nz N (t.set i b) < Nz N t
 | a0 :: t, 0, a, b, h, h1, h2 => by
   simp at h; subst h
   simp only [Nz, List.set_cons_zero, List.map_cons, List.sum_cons]
   omega
 | a0 :: t, i + 1, a, b, h, h1, h2 => by
   have := TK N t i a b (by simpa using h) h1 h2
   simp only [Nz] at this
   simp only [Nz, List.set_cons_succ, List.map_cons, List.sum_cons]
   omega
theorem Qk {N : Nat} {t : List Int} {n : Int} (hn : n.toNat < t.length) (h : gv t n ≤ (N : Int) + 1) : Nz N (t.set n.toNat (gv t n + 1)) < Nz N t :=
 TK N t n.toNat (gv t n) _ (TP hn) (by omega) (by omega)
structure VD (L : List Lk) (S : Int → Prop) (N : Nat) (M : Int) (k : Nat) (A B : List Int) (x : List Int) (w : List Bool) (t q : List Int) : Prop where
 q_eq : q = A ++ B
 lx : x.length = N
 lw : w.length = N
 lt : t.length = N
 nodup : q.Nodup
 rng : ∀ v ∈ q, 0 ≤ v ∧ v < N
 waits : ∀ v : Int, 0 ≤ v → v < N → (wv w v = true ↔ v ∈ q)
 t0 : ∀ v : Int, 0 ≤ v → v < N → 0 ≤ gv t v ∧ gv t v ≤ (k : Int) + 1
 tA : ∀ v ∈ A, gv t v ≤ k
 low : ∀ vs v d, Wl L S vs v d → vs.length ≤ k → gv x v ≤ d
 nxt : ∀ vs u d, Wl L S vs u d → vs.length ≤ k → u ∉ A → ∀ v m, (u, v, m) ∈ L → gv x v ≤ d + m
 rel : ∀ u : Int, 0 ≤ u → u < N → u ∉ q → gv x u ≠ gc → ∀ v m, (u, v, m) ∈ L → gv x v ≤ gv x u + m
 att : ∀ v : Int, 0 ≤ v → v < N → gv x v ≠ gc → ∃ vs, Wl L S vs v (gv x v)
 bd : ∀ v : Int, 0 ≤ v → v < N → gv x v = gc ∨ gv x v ≤ ((k : Int) + 1) * M
 bA : ∀ v ∈ A, gv x v ≤ (k : Int) * M
 fin : ∀ v ∈ q, gv x v < gc
 kN : k + 1 ≤ N
 last : k + 1 = N → B = []
section
variable {L : List Lk} {S : Int → Prop} {N : Nat} {M : Int} {p : Int → Int} {k : Nat} {A B x : List Int} {w : List Bool} {t q : List Int}
theorem ET {a b : Nat} {M : Int} (h : a ≤ b) (hM : 0 ≤ M) : (a : Int) * M ≤ (b : Int) * M := Int.mul_le_mul_of_nonneg_right (by omega) hM
theorem Wl.lt_free (hL : gE L N M) (hNM : N * M < gc) {vs : List Int} {v d : Int} (hw : Wl L S vs v d) (h : vs.length ≤ N) : d < gc := by
 have h1 := hw.high fun l hl => (hL.most l hl).2
 have h2 := ET h hL.m0
 omega
theorem VD.next (hL : gE L N M) (hNM : N * M < gc) (hS : ∀ v, S v → 0 ≤ v ∧ v < N) (h : VD L S N M k [] B x w t q) (hB : B ≠ []) : VD L S N M (k + 1) B [] x w t q := by
 have hM := hL.m0
 have hq : q = B := by simpa using h.q_eq
 have hk : k + 1 ≠ N := fun e => hB (h.last e)
 have hkN := h.kN
 have low' : ∀ vs v d, Wl L S vs v d → vs.length ≤ k + 1 → gv x v ≤ d := by
  intro vs v d hw hl
  cases hw with
  | nil hs => exact h.low [] v 0 (.nil hs) (by simp)
  | @step vs u _ m d hw hlk => exact h.nxt vs u d hw (by simpa using hl) (by simp) v m hlk
 refine ⟨by simp [hq], h.lx, h.lw, h.lt, h.nodup, h.rng, h.waits, fun v h0 h1 => ⟨(h.t0 v h0 h1).1, by have := (h.t0 v h0 h1).2; push_cast; omega⟩, fun v hv => ?_, low', fun vs u d hw hl hu v m hlk => ?_, h.rel, h.att, fun v h0 h1 => ?_, fun v hv => ?_, h.fin, by omega, fun _ => rfl⟩
 ·have := h.rng v (by rw [hq]; exact hv)
  have := (h.t0 v this.1 this.2).2
  push_cast; omega
 ·have h1 := low' vs u d hw hl
  have h2 := hw.lt_free hL hNM (by omega)
  have h3 := (hw.range hL.inr hS).1
  have := h.rel u h3.1 h3.2 (by rw [hq]; exact hu) (by omega) v m hlk
  omega
 ·rcases h.bd v h0 h1 with h2 | h2
  ·exact .inl h2
  ·refine .inr ?_
   have := ET (show k + 1 ≤ k + 1 + 1 by omega) hM
   push_cast at this ⊢
   omega
 ·have h1 := h.rng v (by rw [hq]; exact hv)
  have h2 := h.fin v (by rw [hq]; exact hv)
  rcases h.bd v h1.1 h1.2 with h3 | h3
  ·omega
  ·push_cast; exact h3
theorem VD.step {n : Int} {A' : List Int} {least : Int} {x' : List Int} {w' : List Bool} {q' : List Int} (hL : gE L N M) (hNM : N * M < gc) (hp : Pot L p) (hS : ∀ v, S v → 0 ≤ v ∧ v < N) (h : VD L S N M k (n :: A') B x w t q)
 (ha : ZS N n least L x (A' ++ B) x' w' q') : ∃ B', VD L S N M k A' B' x' w' (t.set n.toNat (gv t n + 1)) q' := by
 have hM := hL.m0
 have hq : q = n :: (A' ++ B) := by simpa using h.q_eq
 have hkN := h.kN
 have hnr := h.rng n (by rw [hq]; simp)
 have hnf := h.fin n (by rw [hq]; simp)
 have hnd : n ∉ A' ++ B := by have := h.nodup; rw [hq, List.nodup_cons] at this; exact this.1
 have htn : n.toNat < t.length := by have := h.lt; omega
 have tset : ∀ v, 0 ≤ v → gv (t.set n.toNat (gv t n + 1)) v = if v = n then gv t n + 1 else gv t v := fun v h0 => un hnr.1 h0 htn _
 have hkM : ((k : Int) + 1) * M < gc := by
  have := ET hkN hM
  push_cast at this
  omega
 have xle : ∀ v : Int, 0 ≤ v → v < N → gv x v ≤ gc := fun v h0 h1 => by rcases h.bd v h0 h1 with h2 | h2 <;> omega
 obtain ⟨l, hl, hlv⟩ := ha.new
 have att' : ∀ v : Int, 0 ≤ v → v < N → gv x' v ≠ gc → ∃ vs, Wl L S vs v (gv x' v) := by
  intro v h0 h1 hne
  rcases ha.chg v h0 h1 with g | ⟨_, _, m, g3, g4, _⟩
  ·rw [g] at hne ⊢; exact h.att v h0 h1 hne
  ·obtain ⟨vs, hw⟩ := h.att n hnr.1 hnr.2 (by omega)
   rw [g4]; exact ⟨_, hw.step g3⟩
 refine ⟨B ++ l, by rw [hl, List.append_assoc], ha.lx, ha.lw, by rw [List.length_set]; exact h.lt, ha.nodup, fun v hv => ?_, ha.waits, fun v h0 h1 => ?_, fun v hv => ?_, fun vs v d hw hlen => ?_, fun vs u d hw hlen hu v m hlk => ?_,
  fun u h0 h1 hu hf v m hlk => ?_, att', fun v h0 h1 => ?_, fun v hv => ?_, fun v hv => ?_, hkN, fun hk => ?_⟩
 ·rw [hl] at hv
  rcases List.mem_append.1 hv with hv | hv
  ·exact h.rng v (by rw [hq]; simp only [List.mem_cons]; exact .inr hv)
  ·exact (hlv v hv).1
 ·rw [tset v h0]
  have h2 := h.t0 v h0 h1
  split
  ·have h3 := h.tA n (by simp)
   have h4 := h.t0 n hnr.1 hnr.2
   omega
  ·exact h2
 ·have h1 := h.rng v (by rw [hq]; simp [hv])
  rw [tset v h1.1, if_neg (fun e => hnd (by rw [← e]; simp [hv]))]
  exact h.tA v (by simp [hv])
 ·have h1 := h.low vs v d hw hlen
  have h2 := (hw.range hL.inr hS).1
  have := ha.le v h2.1 h2.2
  omega
 ·have hvr := (hL.inr _ hlk).2
  by_cases hun : u = n
  ·subst hun
   have h1 := ha.link v m hlk
   have h2 := h.low vs u d hw hlen
   omega
  ·have h1 := h.nxt vs u d hw hlen (by simp [hun, hu]) v m hlk
   have := ha.le v hvr.1 hvr.2
   omega
 ·have hvr := (hL.inr _ hlk).2
  have heq : gv x' u = gv x u := by
   rcases ha.chg u h0 h1 with g | ⟨g, _⟩
   ·exact g
   ·exact (hu g).elim
  by_cases hun : u = n
  ·subst hun
   have h1 := ha.link v m hlk
   omega
  ·have hur : u ∉ q := by
    rw [hq]
    intro hc
    rcases List.mem_cons.1 hc with e | hc
    ·exact hun e
    ·exact hu (by rw [hl]; exact List.mem_append_left _ hc)
   have h2 := h.rel u h0 h1 hur (by rw [← heq]; exact hf) v m hlk
   have := ha.le v hvr.1 hvr.2
   omega
 ·rcases ha.chg v h0 h1 with g | ⟨_, _, m, g3, g4, _⟩
  ·rw [g]; exact h.bd v h0 h1
  ·have h2 := h.bA n (by simp)
   have h3 := (hL.most _ g3).2
   simp only at h3
   refine .inr ?_
   rw [g4, Int.add_mul, Int.one_mul]
   omega
 ·have h1 := h.rng v (by rw [hq]; simp [hv])
  have h2 := h.bA v (by simp [hv])
  have := ha.le v h1.1 h1.2
  omega
 ·rw [hl] at hv
  rcases List.mem_append.1 hv with hv | hv
  ·have h1 := h.rng v (by rw [hq]; simp only [List.mem_cons]; exact .inr hv)
   have h2 := h.fin v (by rw [hq]; simp only [List.mem_cons]; exact .inr hv)
   have := ha.le v h1.1 h1.2
   omega
  ·obtain ⟨g1, g2⟩ := hlv v hv
   have := xle v g1.1 g1.2
   omega
 ·rw [h.last hk]
  cases l with
  | nil => rfl
  | cons v l =>
    exfalso
    obtain ⟨g1, g2⟩ := hlv v (by simp)
    have := xle v g1.1 g1.2
    obtain ⟨vs, hw⟩ := att' v g1.1 g1.2 (by omega)
    obtain ⟨vs', d', k1, k2, k3⟩ := hw.simple hp
    have k4 := k1.short hL.inr hS k3
    have := h.low vs' v d' k1 (by omega)
    omega
theorem VD.done (hL : gE L N M) (hNM : N * M < gc) (hp : Pot L p) (hS : ∀ v, S v → 0 ≤ v ∧ v < N) (h : VD L S N M k A B x w t []) : VE L S N (gv x) := by
 have hkN := h.kN
 have hM := hL.m0
 have hkM : ((k : Int) + 1) * M < gc := by
  have := ET hkN hM
  push_cast at this
  omega
 have key : ∀ vs v d, Wl L S vs v d → vs.length + 1 ≤ N → gv x v ≤ d := by
  intro vs v d hw
  induction hw with
  | nil hs => intro _; exact h.low [] _ 0 (.nil hs) (by simp)
  | @step vs u v m d hw hlk ih =>
    intro hlen
    simp only [List.length_cons] at hlen
    have h1 := ih (by omega)
    have h2 := hw.lt_free hL hNM (by omega)
    have h3 := (hw.range hL.inr hS).1
    have := h.rel u h3.1 h3.2 (by simp) (by omega) v m hlk
    omega
 refine ⟨h.att, fun v vs d hw => ?_, fun v h0 h1 => ?_⟩
 ·obtain ⟨vs', d', k1, k2, k3⟩ := hw.simple hp
  have := key vs' v d' k1 (k1.short hL.inr hS k3)
  omega
 ·rcases h.bd v h0 h1 with h2 | h2 <;> omega
theorem Ot {ρ : Type} {r : Option ρ} (hL : gE L N M) (hNM : N * M < gc) (hp : Pot L p) (hS : ∀ v, S v → 0 ≤ v ∧ v < N) (k0 : (Val (.pair .bool (.pair (.slice tI) (.pair (.slice .bool) (.pair (.slice tI) (.slice tI)))))) → Option ρ)
 (hK : ∀ x w t q, x.length = N → VE L S N (gv x) → k0 (true, x, w, t, q) = r) (h : VD L S N M k A B x w t q) :
 bt (fun (v64 : (Val (.pair (.slice tI) (.pair (.slice .bool) (.pair (.slice tI) (.slice tI)))))) kk69 => de [] (ES L) (N : Int) L v64.1 v64.2.1 v64.2.2.1 v64.2.2.2 (fun u65 u66 u67 u68 => kk69 (u65, u66, u67, u68)) k0) (x, w, t, q) = r := by
 refine gW (fun s : List Int × List Bool × List Int × List Int => ∃ k A B, VD L S N M k A B s.1 s.2.1 s.2.2.1 s.2.2.2) (fun s => Nz N s.2.2.1) ?_ ⟨k, A, B, h⟩
 rintro ⟨x, w, t, q⟩ ⟨k, A, B, h⟩
 dsimp only at h ⊢
 have hN := hL.nodes
 cases q with
 | nil => exact .inl fun kn => by rw [Wd]; exact hK x w t [] h.lx (h.done hL hNM hp hS)
 | cons n rest =>
   -- the phase in which the first one is
   have hph : ∃ k A' B, VD L S N M k (n :: A') B x w t (n :: rest) := by
    cases A with
    | nil =>
      have hB : B = n :: rest := by simpa using h.q_eq.symm
      subst hB
      exact ⟨k + 1, rest, [], h.next hL hNM hS (by simp)⟩
    | cons a A' =>
      have := h.q_eq
      simp only [List.cons_append, List.cons.injEq] at this
      obtain ⟨rfl, _⟩ := this
      exact ⟨k, A', B, h⟩
   clear h k A B
   obtain ⟨k, A', B, h⟩ := hph
   have hrest : rest = A' ++ B := by have := h.q_eq; simpa using this
   have hnr := h.rng n (by simp)
   have hnf := h.fin n (by simp)
   have hkN := h.kN
   have h1 := h.tA n (by simp)
   have h2 := h.t0 n hnr.1 hnr.2
   obtain ⟨vs, hw⟩ := h.att n hnr.1 hnr.2 (by omega)
   have hlow := hw.low' hp
   have hneg : -(400 * 4503599627370496) ≤ ES L := by
    have : ∀ L' : List Lk, (∀ l ∈ L', -M ≤ l.2.2) → -((L'.length : Int) * M) ≤ ES L' := by
     intro L'
     induction L' with
     | nil => intro _; simp [ES, D9]
     | cons l t ih =>
       intro hh
       have i1 := ih fun l hl => hh l (by simp [hl])
       have i2 := hh l (by simp)
       have i3 := hL.m0
       unfold ES at i1 ⊢
       simp only [D9, if_true, List.length_cons, Int.natCast_succ, Int.add_mul, Int.one_mul]
       omega
    have h3 := this L fun l hl => (hL.most l hl).1
    have h4 : (L.length : Int) * M ≤ 400 * 4503599627370496 := Int.mul_le_mul (by have := hL.len; omega) hL.m1 hL.m0 (by omega)
    omega
   have hrl : rest.length ≤ 1000000 := by
    have := Tr N (n :: rest) h.nodup h.rng
    simp only [List.length_cons] at this
    omega
   refine .inr ?_
   have hw' : (w.set n.toNat false).length = N := by rw [List.length_set]; exact h.lw
   cases hr : m6 n (ES L) L x (w.set n.toNat false) rest with
   | mk b r' =>
   obtain ⟨x', w', q'⟩ := r'
   cases b with
   | false =>
     exfalso
     obtain ⟨v, m, g1, g2⟩ := lj hL.noloop (fun l hl => (hL.inr l hl).2.1) hnr.1 hr
     have := (hw.step g1).low' hp
     omega
   | true =>
     have hnd := h.nodup
     rw [List.nodup_cons] at hnd
     have ha := jc hnr hL.inr hL.noloop h.lx hw' hnd.2 (fun v h0 h1 => by
      rw [S0 hnr.1 h0 (by have := h.lw; omega)]
      by_cases hv : v = n
      ·subst hv; simp [hnd.1]
      ·rw [if_neg hv, h.waits v h0 h1]
       simp [hv]) hr
     rw [hrest] at ha
     obtain ⟨B', hB'⟩ := h.step hL hNM hp hS ha
     refine ⟨(x', w', t.set n.toNat (gv t n + 1), q'), ⟨k, A', B', hB'⟩, Qk (by have := h.lt; omega) (by omega), fun kn => ?_⟩
     have hF : gc = 1152921504606846976 := rfl
     rw [TB hL hnr h.lx h.lw h.lt hrl (by constructor <;> omega) (by constructor <;> omega), if_neg (by omega), hr]
end
end Go.Proofs.ZzM
end
noncomputable section
namespace Go.Proofs.ZzM
open Go Go.Am
theorem FS (f : Lk → Bool) : ∀ (L L' : List Lk), D9 f (L ++ L') = D9 f L + D9 f L'
 | [], L' => by simp [D9]
 | l :: t, L' => by
   simp only [List.cons_append, D9, FS f t L']
   omega
theorem Pb {L : List Lk} {i : Nat} {l : Lk} (h : L[i]? = some l) : ES (L.take (i + 1)) = ES (L.take i) + min l.2.2 0 := by
 rw [take_succ h, ES, ES, FS]
 simp [D9]
theorem imin0 (e : Int) : Rc e 0 = min e 0 := by
 unfold Rc
 split <;> omega
theorem LX {L : List Lk} {M : Int} (h : ∀ l ∈ L, -M ≤ l.2.2) (hM : 0 ≤ M) : -((L.length : Int) * M) ≤ ES L := by
 induction L with
 | nil => simp [ES, D9]
 | cons l t ih =>
   have i1 := ih fun l hl => h l (by simp [hl])
   have i2 := h l (by simp)
   unfold ES at i1 ⊢
   simp only [D9, if_true, List.length_cons, Int.natCast_succ, Int.add_mul, Int.one_mul]
   omega
theorem aaD (L : List Lk) : ES L ≤ 0 := qp _ L
section
variable {ρ : Type} {L : List Lk} {N : Nat} {M : Int}
theorem TL (hL : gE L N M) (k0 : Int → Option ρ) : bt (fun (v75 : Val aY) kk78 => fZ L (bE L) v75.1 v75.2 (fun u76 u77 => kk78 (u76, u77)) k0) ((0 : Int), (0 : Int)) = k0 (ES L) := by
 refine gW (fun x : Int × Int => ∃ i : Nat, i ≤ L.length ∧ x = (ES (L.take i), (i : Int))) (fun x => L.length - x.2.toNat) ?_ ⟨0, by omega, rfl⟩
 rintro x ⟨i, hi, rfl⟩
 have hlen := hL.len
 rcases Nat.lt_or_ge i L.length with h | h
 ·have hl : L[i]? = some L[i] := List.getElem?_eq_getElem h
  refine .inr ⟨(ES (L.take (i + 1)), (i : Int) + 1), ⟨i + 1, h, by simp⟩, by simp; omega, fun kn => ?_⟩
  try dsimp only
  unfold fZ
  have hb : ∀ j, j ≤ L.length → -(400 * 4503599627370496) ≤ ES (L.take j) := by
   intro j hj
   have h1 := LX (L := L.take j) (fun l hl => (hL.most l (List.mem_of_mem_take hl)).1) hL.m0
   have h2 : ((L.take j).length : Int) * M ≤ 400 * 4503599627370496 := Int.mul_le_mul (by rw [List.length_take]; omega) hL.m1 hL.m0 (by omega)
   omega
  have h1 := hb i hi
  have h2 := hb (i + 1) h
  have h3 := aaD (L.take i)
  rw [Pb hl] at h2
  rw [bv h, bp hl, imin0, bz (by omega) (by omega), br h (by omega), Pb hl]
 ·refine .inl fun kn => ?_
  have : i = L.length := by omega
  subst this
  try dsimp only
  unfold fZ
  rw [bU, List.take_length]
theorem VV {x : List Int} (hx : x.length = N) (hN : N ≤ 1000) {r : Option ρ} (k0 : (Val (.pair (.slice .bool) (.slice tI))) → Option ρ)
 (hK : ∀ (w : List Bool) (q : List Int), w.length = N → q.Nodup → (∀ v ∈ q, 0 ≤ v ∧ v < N) → (∀ v : Int, 0 ≤ v → v < N → (wv w v = true ↔ v ∈ q)) → (∀ v : Int, 0 ≤ v → v < N → (v ∈ q ↔ gv x v ≠ gc)) → k0 (w, q) = r) :
 bt (fun (v70 : (Val (.pair tI (.pair (.slice .bool) (.slice tI))))) kk74 => dS (N : Int) x v70.1 v70.2.1 v70.2.2 (fun u71 u72 u73 => kk74 (u71, u72, u73)) k0) ((0 : Int), (List.replicate N false), ([] : List Int)) = r := by
 refine gW (fun s : Int × List Bool × List Int => ∃ i : Nat, i ≤ N ∧ s.1 = i ∧ s.2.1.length = N ∧ s.2.2.Nodup ∧ s.2.2.length ≤ i ∧ (∀ v ∈ s.2.2, 0 ≤ v ∧ v < i) ∧ (∀ v : Int, 0 ≤ v → v < N → (wv s.2.1 v = true ↔ v ∈ s.2.2)) ∧ (∀ v : Int, 0 ≤ v → v < i → (v ∈ s.2.2 ↔ gv x v ≠ gc))) (fun s => N - s.1.toNat) ?_
  ⟨0, by omega, rfl, by simp, by simp, by simp, by simp, fun v h0 h1 => ?_, fun v h0 h1 => by omega⟩
 ·rintro ⟨s, w, q⟩ ⟨i, hi, h1, h2, h3, h4, h5, h6, h7⟩
  simp only at h1 h2 h3 h4 h5 h6 h7
  subst h1
  rcases Nat.lt_or_ge i N with h | h
  ·refine .inr ?_
   have hix : i < x.length := by omega
   have hiw : i < w.length := by omega
   have hnq : ((i : Int)) ∉ q := fun hc => by have := (h5 _ hc).2; omega
   by_cases hf : gv x i = gc
   ·refine ⟨((i : Int) + 1, w, q), ⟨i + 1, h, by simp, h2, h3, by simp only; omega, fun v hv => ⟨(h5 v hv).1, by have := (h5 v hv).2; push_cast; omega⟩, h6, fun v h0 h1 => ?_⟩, by simp; omega, fun kn => ?_⟩
    ·by_cases hv : v = i
     ·subst hv; simp [hf, hnq]
     ·exact h7 v h0 (by push_cast at h1; omega)
    ·try dsimp only
     unfold dS
     have e : ilt (i : Int) (N : Int) = true := by simp [ilt, h]
     rw [bI e, gO hix, iT (by simpa using hix)]
     have e2 : ine (gv x i) 1152921504606846976 = false := by simp [ine, hf]
     rw [bu e2, br h (by omega)]
   ·refine ⟨((i : Int) + 1, w.set i true, q ++ [(i : Int)]), ⟨i + 1, h, by simp, by simpa using h2, ?_, by simp; omega, fun v hv => ?_, fun v h0 h1 => ?_, fun v h0 h1 => ?_⟩, by simp; omega, fun kn => ?_⟩
    ·rw [List.nodup_append]
     exact ⟨h3, by simp, fun a ha b hb => by simp at hb; subst hb; exact fun e => hnq (e ▸ ha)⟩
    ·rcases List.mem_append.1 hv with hv | hv
     ·exact ⟨(h5 v hv).1, by have := (h5 v hv).2; push_cast; omega⟩
     ·simp at hv; subst hv; push_cast; omega
    ·have := S0 (w := w) (u := (i : Int)) (by omega) h0 (by simpa using hiw) true
     rw [Int.toNat_natCast] at this
     show wv (w.set i true) v = true ↔ v ∈ q ++ [(i : Int)]
     rw [this]
     by_cases hv : v = i
     ·simp [hv]
     ·simp only [hv, if_false, List.mem_append, List.mem_singleton, or_false]
      exact h6 v h0 h1
    ·show v ∈ q ++ [(i : Int)] ↔ _
     by_cases hv : v = i
     ·subst hv; simp [hf]
     ·simp only [List.mem_append, List.mem_singleton, hv, or_false]
      exact h7 v h0 (by push_cast at h1; omega)
    ·try dsimp only
     unfold dS
     have e : ilt (i : Int) (N : Int) = true := by simp [ilt, h]
     rw [bI e, gO hix, iT (by simpa using hix)]
     have e2 : ine (gv x i) 1152921504606846976 = true := by simp [ine, hf]
     rw [bI e2, bw (by simp only [List.length_singleton]; omega), Am.iff_true, gO hiw, LW (by simpa using hiw), br h (by omega), Int.toNat_natCast]
  ·refine .inl fun kn => ?_
   have : i = N := by omega
   subst this
   try dsimp only
   unfold dS
   have e : ilt (i : Int) (i : Int) = false := by simp [ilt]
   rw [bu e]
   exact hK w q h2 h3 h5 h6 h7
 ·have : wv (List.replicate N false) v = false := by
   unfold wv
   rw [List.getElem?_replicate]
   split <;> rfl
  simp [this]
theorem Kb (hL : gE L N M) (hN : 1 ≤ N) {S : Int → Bool} (hS : ∀ v, S v = true → 0 ≤ v ∧ v < N) {w : List Bool} {q : List Int} (hw : w.length = N) (hq : q.Nodup) (hr : ∀ v ∈ q, 0 ≤ v ∧ v < N) (hwq : ∀ v : Int, 0 ≤ v → v < N → (wv w v = true ↔ v ∈ q)) (hqs : ∀ v : Int, 0 ≤ v → v < N → (v ∈ q ↔ gv (qj S N) v ≠ gc)) :
 VD L (fun v => S v = true) N M 0 q [] (qj S N) w (List.replicate N 0) q := by
 have ht : ∀ v : Int, 0 ≤ v → v < N → gv (List.replicate N (0 : Int)) v = 0 := by
  intro v h0 h1
  unfold gv
  rw [List.getElem?_replicate]
  split <;> rfl
 have hg : ∀ v : Int, 0 ≤ v → v < N → (v ∈ q ↔ S v = true) := by
  intro v h0 h1
  rw [hqs v h0 h1, gQ S h0 h1]
  cases S v <;> simp [gc]
 have hM := hL.m0
 refine ⟨by simp, cj S N, hw, by simp, hq, hr, hwq, fun v h0 h1 => ?_, fun v hv => ?_, fun vs v d hw hl => ?_, fun vs u d hw hl hu v m hlk => ?_, fun u h0 h1 hu hf v m hlk => ?_, fun v h0 h1 hf => ?_, fun v h0 h1 => ?_, fun v hv => ?_, fun v hv => ?_, by omega, fun _ => rfl⟩
 ·rw [ht v h0 h1]; omega
 ·have := hr v hv
  rw [ht v this.1 this.2]; omega
 ·cases hw with
  | nil hs =>
    have := hS v hs
    rw [gQ S this.1 this.2, if_pos hs]; omega
  | step => simp at hl
 ·cases hw with
  | nil hs =>
    have := hS u hs
    exact (hu ((hg u this.1 this.2).2 hs)).elim
  | step => simp at hl
 ·rw [gQ S h0 h1] at hf
  have := mt (hg u h0 h1).2 hu
  rw [if_neg this] at hf
  exact (hf rfl).elim
 ·rw [gQ S h0 h1] at hf ⊢
  split at hf
  ·rename_i hs
   rw [if_pos hs]; exact ⟨[], .nil hs⟩
  ·exact (hf rfl).elim
 ·rw [gQ S h0 h1]
  split
  ·exact .inr (by simp [hM])
  ·exact .inl rfl
 ·have h1 := hr v hv
  rw [gQ S h1.1 h1.2, if_pos ((hg v h1.1 h1.2).1 hv)]; simp
 ·have h1 := hr v hv
  rw [gQ S h1.1 h1.2, if_pos ((hg v h1.1 h1.2).1 hv)]; simp [gc]
structure Bad (L : List Lk) (N : Nat) (x : List Int) (w : List Bool) (t q : List Int) : Prop where
 lx : x.length = N
 lw : w.length = N
 lt : t.length = N
 nodup : q.Nodup
 rng : ∀ v ∈ q, 0 ≤ v ∧ v < N
 waits : ∀ v : Int, 0 ≤ v → v < N → (wv w v = true ↔ v ∈ q)
 t0 : ∀ v : Int, 0 ≤ v → v < N → 0 ≤ gv t v ∧ gv t v ≤ (N : Int) + 1
 bd : ∀ v : Int, 0 ≤ v → v < N → -2305843009213693952 ≤ gv x v ∧ gv x v ≤ 0
 rel : ∀ u : Int, 0 ≤ u → u < N → u ∉ q → ∀ v m, (u, v, m) ∈ L → gv x v ≤ gv x u + m
theorem Yz {r : Option ρ} {x : List Int} {w : List Bool} {t q : List Int} (hL : gE L N M) (hp : ¬ ∃ p, Pot L p) (k0 : (Val (.pair .bool (.pair (.slice tI) (.pair (.slice .bool) (.pair (.slice tI) (.slice tI)))))) → Option ρ)
 (hK : ∀ x w t q, k0 (false, x, w, t, q) = r) (h : Bad L N x w t q) :
 bt (fun (v64 : (Val (.pair (.slice tI) (.pair (.slice .bool) (.pair (.slice tI) (.slice tI)))))) kk69 => de [] (ES L) (N : Int) L v64.1 v64.2.1 v64.2.2.1 v64.2.2.2 (fun u65 u66 u67 u68 => kk69 (u65, u66, u67, u68)) k0) (x, w, t, q) = r := by
 refine gW (fun s : List Int × List Bool × List Int × List Int => Bad L N s.1 s.2.1 s.2.2.1 s.2.2.2) (fun s => Nz N s.2.2.1) ?_ h
 rintro ⟨x, w, t, q⟩ h
 dsimp only at h ⊢
 have hN := hL.nodes
 cases q with
 | nil =>
   exfalso
   exact hp ⟨gv x, fun u v m hl => h.rel u (hL.inr _ hl).1.1 (hL.inr _ hl).1.2 (by simp) v m hl⟩
 | cons n rest =>
   have hnr := h.rng n (by simp)
   have hb := h.bd n hnr.1 hnr.2
   have ht := h.t0 n hnr.1 hnr.2
   have hrl : rest.length ≤ 1000000 := by
    have := Tr N (n :: rest) h.nodup h.rng
    simp only [List.length_cons] at this
    omega
   have hout := fun (kn : List Int → List Bool → List Int → List Int → Option ρ) => TB (ρ := ρ) hL (least := ES L) hnr h.lx h.lw h.lt hrl ⟨hb.1, by omega⟩ ⟨ht.1, by omega⟩ kn k0
   by_cases hlt : (N : Int) + 1 < gv t n + 1
   ·exact .inl fun kn => by rw [hout, if_pos hlt]; exact hK _ _ _ _
   ·have hw' : (w.set n.toNat false).length = N := by rw [List.length_set]; exact h.lw
    cases hr : m6 n (ES L) L x (w.set n.toNat false) rest with
    | mk b r' =>
    obtain ⟨x', w', q'⟩ := r'
    cases b with
    | false => exact .inl fun kn => by rw [hout, if_neg hlt, hr]; exact hK _ _ _ _
    | true =>
      have hnd := h.nodup
      rw [List.nodup_cons] at hnd
      have htl : n.toNat < t.length := by have := h.lt; omega
      have ha := jc hnr hL.inr hL.noloop h.lx hw' hnd.2 (fun v h0 h1 => by
       rw [S0 hnr.1 h0 (by have := h.lw; omega)]
       by_cases hv : v = n
       ·subst hv; simp [hnd.1]
       ·rw [if_neg hv, h.waits v h0 h1]
        simp [hv]) hr
      obtain ⟨l, hl, hlv⟩ := ha.new
      refine .inr ⟨(x', w', t.set n.toNat (gv t n + 1), q'), ⟨ha.lx, ha.lw, by rw [List.length_set]; exact h.lt, ha.nodup, fun v hv => ?_, ha.waits, fun v h0 h1 => ?_, fun v h0 h1 => ?_, fun u h0 h1 hu v m hlk => ?_⟩, Qk htl (by omega), fun kn => by rw [hout, if_neg hlt, hr]⟩
      ·dsimp only at hv
       rw [hl] at hv
       rcases List.mem_append.1 hv with hv | hv
       ·exact h.rng v (by simp [hv])
       ·exact (hlv v hv).1
      ·try dsimp only
       rw [un hnr.1 h0 htl]
       have := h.t0 v h0 h1
       split <;> omega
      ·try dsimp only
       have h2 := h.bd v h0 h1
       rcases ha.chg v h0 h1 with g | ⟨_, g2, m, g3, g4, g5⟩
       ·rw [g]; exact h2
       ·have h3 := LX (L := L) (fun l hl => (hL.most l hl).1) hL.m0
        have h4 : (L.length : Int) * M ≤ 400 * 4503599627370496 := Int.mul_le_mul (by have := hL.len; omega) hL.m1 hL.m0 (by omega)
        omega
      ·dsimp only at hu ⊢
       have hvr := (hL.inr _ hlk).2
       have heq : gv x' u = gv x u := by
        rcases ha.chg u h0 h1 with g | ⟨g, _⟩
        ·exact g
        ·exact (hu g).elim
       by_cases hun : u = n
       ·subst hun
        have h1 := ha.link v m hlk
        omega
       ·have hur : u ∉ n :: rest := by
         intro hc
         rcases List.mem_cons.1 hc with e | hc
         ·exact hun e
         ·exact hu (by rw [hl]; exact List.mem_append_left _ hc)
        have h2 := h.rel u h0 h1 hur v m hlk
        have := ha.le v hvr.1 hvr.2
        omega
end
def VC (N : Nat) (v : Int) : Bool := decide (0 ≤ v) && decide (v < (N : Int))
def Wn (s : Int) (v : Int) : Bool := v == s
theorem Oq (N : Nat) : qj (VC N) N = List.replicate N 0 := by
 refine TQ (by simp [cj]) fun v h0 h1 => ?_
 rw [cj] at h1
 rw [gQ _ h0 h1]
 have : VC N v = true := by simp [VC, h0, h1]
 rw [if_pos this]
 unfold gv
 rw [List.getElem?_replicate]
 split <;> rfl
def gR (L : List Lk) (N : Nat) : List Int := jo L N (qj (VC N) N)
def d9 (L : List Lk) (N : Nat) : Bool := decide (D7 L (gR L N) = gR L N)
def oZ (L : List Lk) (N : Nat) (s : Int) : List Int := jo L N (qj (Wn s) N)
section
variable {L : List Lk} {N : Nat} {M : Int}
theorem YS (hL : gE L N M) (hN : N ≤ 200) : N * M < gc := by
 have : (N : Int) * M ≤ 200 * 4503599627370496 := Int.mul_le_mul (by omega) hL.m1 hL.m0 (by omega)
 unfold gc
 omega
theorem Bc {p : Int → Int} (hL : gE L N M) (hN : N ≤ 200) (hp : Pot L p) : VE L (fun v => VC N v = true) N (gv (gR L N)) :=
 FH hp hL.inr (fun v h => by simpa [VC] using h) (fun l hl => (hL.most l hl).2) hL.m0 (YS hL hN) N (by omega)
theorem kF {p : Int → Int} (hL : gE L N M) (hN : N ≤ 200) (hp : Pot L p) {s : Int} (hs : 0 ≤ s ∧ s < N) : VE L (fun v => Wn s v = true) N (gv (oZ L N s)) :=
 FH hp hL.inr (fun v h => by simp [Wn] at h; subst h; exact hs) (fun l hl => (hL.most l hl).2) hL.m0 (YS hL hN) N (by omega)
theorem OQ : ∀ {L : List Lk} {x : List Int}, (∀ u v m, (u, v, m) ∈ L → gv x u < gc → gv x v ≤ gv x u + m) → D7 L x = x
 | [], x, _ => rfl
 | l :: t, x, h => by
   have h1 : jV x l = x := by
    unfold jV
    split
    ·rename_i hc
     have := h l.1 l.2.1 l.2.2 (by simp) hc.1
     omega
    ·rfl
   show D7 t (jV x l) = x
   rw [h1]
   exact OQ fun u v m hm => h u v m (by simp [hm])
theorem gI (hL : gE L N M) (hN : N ≤ 200) : d9 L N = true ↔ ∃ p, Pot L p := by
 unfold d9
 rw [decide_eq_true_eq]
 have hle : ∀ v : Int, 0 ≤ v → v < N → gv (gR L N) v ≤ 0 := by
  intro v h0 h1
  have := yl hL.inr N (cj (VC N) N) v h0
  rw [gQ _ h0 h1, if_pos (by simp [VC, h0, h1])] at this
  exact this
 constructor
 ·intro h
  refine ⟨gv (gR L N), fun u v m hl => ?_⟩
  have hr := (hL.inr _ hl).1
  have := Bl hL.inr (x := gR L N) (by unfold gR; rw [eu, cj]) u v m hl (by have := hle u hr.1 hr.2; unfold gc; omega)
  rwa [h] at this
 ·rintro ⟨p, hp⟩
  have hd := Bc hL hN hp
  exact OQ fun u v m hl hf => hd.pot hL.inr hl (by omega)
end
end Go.Proofs.ZzM
end
noncomputable section
namespace Go.Proofs.ZzM
open Go Go.Am
section
variable {ρ : Type} {L : List Lk} {N : Nat} {M : Int}
theorem Ax (hN : N ≤ 1000) (x : Option ρ) : ca ((ile (0 : Int) (N : Int)) && (bW (Int.toNat (N : Int)))) x = x := by
 rw [Int.toNat_natCast, bw (by omega)]
 have : ((ile (0 : Int) (N : Int)) && true) = true := by simp [ile]
 rw [this, Am.iff_true]
theorem Rw (hL : gE L N M) (h1 : 1 ≤ N) (hN : N ≤ 200) (k0 : (Val (.pair .bool (.pair (.slice tI) (.pair (.slice .bool) (.pair (.slice tI) (.slice tI)))))) → Option ρ) {rT rF : Option ρ}
 (hT : d9 L N = true → ∀ w t q, k0 (true, gR L N, w, t, q) = rT) (hF : ∀ x w t q, k0 (false, x, w, t, q) = rF) :
 (bt (fun (v70 : (Val (.pair tI (.pair (.slice .bool) (.slice tI))))) kk74 => dS (N : Int) (List.replicate N (0 : Int)) v70.1 v70.2.1 v70.2.2 (fun u71 u72 u73 => kk74 (u71, u72, u73)) (fun z9 => bt (fun (v64 : (Val (.pair (.slice tI) (.pair (.slice .bool) (.pair (.slice tI) (.slice tI)))))) kk69 => de [] (ES L) (N : Int) L v64.1 v64.2.1 v64.2.2.1 v64.2.2.2 (fun u65 u66 u67 u68 => kk69 (u65, u66, u67, u68)) k0) ((List.replicate N (0 : Int)), z9.1, (List.replicate N (0 : Int)), z9.2))) ((0 : Int), (List.replicate N false), ([] : List Int))) = if d9 L N then rT else rF := by
 refine VV (by simp) (by omega) _ fun w q hw hq hr hwq hqs => ?_
 try dsimp only
 have hS : ∀ v, VC N v = true → 0 ≤ v ∧ v < N := fun v h => by simpa [VC] using h
 by_cases ho : d9 L N = true
 ·rw [if_pos ho]
  obtain ⟨p, hp⟩ := (gI hL hN).1 ho
  have hs := Kb hL h1 hS hw hq hr hwq (fun v a b => by rw [Oq]; exact hqs v a b)
  rw [Oq] at hs
  refine Ot hL (YS hL hN) hp hS k0 (fun x w t q hx hd => ?_) hs
  have : x = gR L N := by
   refine TQ (by rw [hx]; unfold gR; rw [eu, cj]) fun v a b => ?_
   exact hd.uniq (Bc hL hN hp) a (by omega)
  rw [this]; exact hT ho w t q
 ·rw [if_neg ho]
  refine Yz hL (fun hp => ho ((gI hL hN).2 hp)) k0 hF ?_
  have hg : ∀ v, gv (List.replicate N (0 : Int)) v = 0 := by
   intro v
   unfold gv
   rw [List.getElem?_replicate]
   split <;> rfl
  refine ⟨by simp, hw, by simp, hq, hr, hwq, fun v a b => ?_, fun v a b => ?_, fun u a b hu v m hl => ?_⟩
  ·rw [hg]; omega
  ·rw [hg]; omega
  ·exact (hu ((hqs u a b).2 (by rw [hg]; unfold gc; omega))).elim
end
theorem shift_ok {ρ : Type} {x : List Int} (f : Int) (hx : x.length ≤ 1000) (hf : -2305843009213693952 ≤ f ∧ f ≤ 2305843009213693952) (hb : ∀ a ∈ x, -2305843009213693952 ≤ a ∧ a ≤ 2305843009213693952) (k0 : List Int → Option ρ) :
 bt (fun (v60 : (Val (.pair tI (.slice tI)))) kk63 => gZ f (bE x) v60.1 v60.2 (fun u61 u62 => kk63 (u61, u62)) k0) ((0 : Int), x) = k0 (x.map fun a => a - f) := by
 refine cD x (fun i => (x.take i).map (fun a => a - f) ++ x.drop i) _ (by simp) (fun i a hi ha kn => ?_) (fun kn => ?_)
 ·try dsimp only
  unfold gZ
  have hlen : ((x.take i).map (fun a => a - f) ++ x.drop i).length = x.length := by simp; omega
  have hget : ((x.take i).map (fun a => a - f) ++ x.drop i)[i]? = some a := by
   rw [List.getElem?_append_right (by simp; omega)]
   simp only [List.length_map, List.length_take, List.getElem?_drop]
   rw [← ha]; congr 1; omega
  have hi' : i < ((x.take i).map (fun a => a - f) ++ x.drop i).length := by omega
  have ha' := hb a (List.mem_of_getElem? ha)
  rw [bv hi, gO hi', eJ hget, bz (by omega) (by omega), gO hi', eJ hget, br hi (by omega), Int.toNat_natCast, take_succ ha]
  congr 2
  rw [List.drop_eq_getElem_cons hi, List.map_append, List.append_assoc, List.set_append_right _ _ (by simp; omega)]
  have : i - (List.map (fun a => a - f) (List.take i x)).length = 0 := by simp; omega
  rw [this]
  have h1 : x[i] = a := by rw [List.getElem?_eq_getElem hi] at ha; simpa using ha
  simp [h1]
 ·try dsimp only
  unfold gZ
  rw [bU]
  simp
section
variable {L : List Lk} {N : Nat} {M : Int}
theorem YB (hL : gE L N M) (hN : N ≤ 200) (ho : d9 L N = true) : ∀ a ∈ gR L N, -2305843009213693952 ≤ a ∧ a ≤ 0 := by
 obtain ⟨p, hp⟩ := (gI hL hN).1 ho
 have hd := Bc hL hN hp
 intro a ha
 obtain ⟨i, hi, rfl⟩ := List.mem_iff_getElem.1 ha
 have hlen : (gR L N).length = N := by unfold gR; rw [eu, cj]
 have h0 : gv (gR L N) i = (gR L N)[i] := by unfold gv; simp [hi]
 have hle := yl hL.inr N (cj (VC N) N) (i : Int) (by omega)
 rw [gQ _ (by omega) (by omega), if_pos (by simp [VC]; omega)] at hle
 have hle' : gv (gR L N) i ≤ 0 := hle
 obtain ⟨vs, hw⟩ := hd.att i (by omega) (by omega) (by unfold gc; omega)
 have h1 := hw.low' hp
 have h3 := LX (L := L) (fun l hl => (hL.most l hl).1) hL.m0
 have h4 : (L.length : Int) * M ≤ 400 * 4503599627370496 := Int.mul_le_mul (by have := hL.len; omega) hL.m1 hL.m0 (by omega)
 omega
def solP (L : List Lk) (N : Nat) : List Int := (gR L N).map fun a => a - gv (gR L N) 0
theorem wT (hL : gE L N M) (h1 : 1 ≤ N) (hN : N ≤ 200) : jf ((N : Int), L) [] = some (if d9 L N then (solP L N, true) else ([], false)) := by
 unfold jf tF
 try dsimp only
 rw [Ax (by omega), Ax (by omega), Ax (by omega), Int.toNat_natCast]
 refine Eq.trans (TL hL _) ?_
 refine Eq.trans (Rw hL h1 hN _ (rT := some (solP L N, true)) (rF := some ([], false)) (fun ho w t q => ?_) (fun x w t q => ?_)) ?_
 ·try dsimp only
  have hlen : (gR L N).length = N := by unfold gR; rw [eu, cj]
  have hb := YB hL hN ho
  have h0 : ilt (0 : Int) (dt (gR L N)) = true := decide_eq_true (show (0 : Int) < ((gR L N).length : Int) by omega)
  have hg : (gR L N)[0]? = some (gv (gR L N) 0) := TP (v := 0) (show 0 < _ by omega)
  have hm := hb _ (List.mem_of_getElem? hg)
  rw [show (!true) = false from rfl, bX, dA h0, qo hg]
  exact shift_ok _ (by omega) ⟨hm.1, by omega⟩ (fun a ha => ⟨(hb a ha).1, by have := (hb a ha).2; omega⟩) _
 ·rfl
 ·cases d9 L N <;> rfl
structure gP (L : List Lk) (N : Nat) : Prop where
 n1 : 1 ≤ N
 n60 : N ≤ 60
 len : L.length ≤ 300
 inr : InR L N
 noloop : ∀ l ∈ L, l.1 ≠ l.2.1
 most : ∀ l ∈ L, -4503599627370496 ≤ l.2.2 ∧ l.2.2 ≤ 4503599627370496
theorem gP.links (h : gP L N) : gE L N 4503599627370496 :=
 ⟨h.inr, h.noloop, h.most, by have := h.len; omega, by have := h.n60; omega, by omega, by omega⟩
theorem gP.sub {L' : List Lk} (h : gP L N) (hs : ∀ l ∈ L', l ∈ L) (hl : L'.length ≤ L.length) : gP L' N :=
 ⟨h.n1, h.n60, by have := h.len; omega, fun l hm => h.inr l (hs l hm), fun l hm => h.noloop l (hs l hm), fun l hm => h.most l (hs l hm)⟩
theorem FR (n : Int) (L : List Lk) (v : Int) : oo (n, L) v = some (decide (0 ≤ v) && decide (v < n)) := by
 unfold oo MC ige
 by_cases h : 0 ≤ v
 ·have : decide (v ≥ 0) = true := by simpa using h
  rw [bI this]; simp [h]
 ·have : decide (v ≥ 0) = false := by simpa using h
  rw [bu this]; simp [h]
theorem jP (h : gP L N) : lr ((N : Int), L) = some (0, -1) := by
 have h1 := h.n1
 have h2 := h.n60
 have h3 := h.len
 unfold lr GE
 try dsimp only
 rw [bu (by simp [ilt]; omega), bu (by simp [igt]; omega), bu (by rw [b8]; simp [igt]; omega)]
 refine Eq.trans (hO L (fun _ => false) (fun i => some (1, i)) (some (0, -1)) (fun i l hi hl kn => ?_) (fun kn => ?_)) ?_
 ·try dsimp only
  unfold nX
  have hm := List.mem_of_getElem? hl
  have a := h.inr l hm
  have b := h.noloop l hm
  have c := h.most l hm
  have e1 : (decide (0 ≤ l.1) && decide (l.1 < (N : Int))) = true := by simp [a.1.1, a.1.2]
  have e2 : (decide (0 ≤ l.2.1) && decide (l.2.1 < (N : Int))) = true := by simp [a.2.1, a.2.2]
  rw [bv hi, bp hl, FR, aW, e1, FR, aW, e2]
  simp only [Bool.not_true, bX, Bool.false_eq_true, if_false]
  rw [bu (by simp [ieq, b]), bu (by simp [ilt]; omega), bu (by simp [igt]; omega), br hi (by omega)]
 ·try dsimp only
  unfold nX
  rw [bU]
 ·rw [List.findIdx?_eq_none_iff.2 (by simp)]
theorem uk {ρ : Type} {x : List Int} {v : Int} (h0 : 0 ≤ v) (h : v.toNat < x.length) (f : Int → Option ρ) : dI x v f = f (gv x v) := by
 obtain ⟨i, rfl⟩ := Int.eq_ofNat_of_zero_le h0
 exact bp (TP h) f
end
end Go.Proofs.ZzM
end
noncomputable section
namespace Go.Proofs.ZzM
open Go Go.Am
section
variable {b : bH}
theorem xY (b : bH) (g : b9) : (bG b g).Pairwise (· < ·) := Ro _
theorem QJ (h : cX b) {g : b9} (hg : g ∈ b.2.1) : ∃ t, bG b g = g.2.1 :: t := by
 have h1 := xY b g
 have h2 := kP (b := b) g
 have h3 : ∀ d ∈ bG b g, g.2.1 ≤ d := fun d hd => (h.day hg hd).1
 cases hd : bG b g with
 | nil => rw [hd] at h2; cases h2
 | cons a t =>
   rw [hd] at h1 h2 h3
   rw [List.pairwise_cons] at h1
   rcases List.mem_cons.1 h2 with e | e
   ·exact ⟨t, by rw [e]⟩
   ·have := h1.1 _ e
    have := h3 a (by simp)
    omega
def off (b : bH) (i : Nat) : Nat := ((b.2.1.take i).flatMap fun g => (bG b g).map fun d => ((g.1, d) : Int × Int)).length
theorem xa {i : Nat} {g : b9} (hg : b.2.1[i]? = some g) : bn b = ((b.2.1.take i).flatMap fun g => (bG b g).map fun d => ((g.1, d) : Int × Int)) ++ (((bG b g).map fun d => ((g.1, d) : Int × Int)) ++ ((b.2.1.drop (i + 1)).flatMap fun g => (bG b g).map fun d => ((g.1, d) : Int × Int))) := by
 obtain ⟨hi, rfl⟩ := List.getElem?_eq_some_iff.1 hg
 have h1 : b.2.1 = b.2.1.take i ++ (b.2.1[i] :: b.2.1.drop (i + 1)) := by
  rw [← List.drop_eq_getElem_cons hi, List.take_append_drop]
 unfold bn
 conv => lhs; rw [h1]
 rw [List.flatMap_append, List.flatMap_cons]
theorem LV (h : cX b) {i : Nat} {g : b9} (hg : b.2.1[i]? = some g) {k : Nat} {d : Int} (hk : (bG b g)[k]? = some d) : iz (bn b) g.1 d = some (off b i + k) := by
 obtain ⟨hi, hgi⟩ := List.getElem?_eq_some_iff.1 hg
 obtain ⟨hkl, hkd⟩ := List.getElem?_eq_some_iff.1 hk
 unfold iz
 rw [xa hg, List.findIdx?_append, List.findIdx?_append]
 have h1 : List.findIdx? (fun n : Int × Int => decide (g.1 = n.1) && decide (d = n.2)) ((b.2.1.take i).flatMap fun g => (bG b g).map fun d => ((g.1, d) : Int × Int)) = none := by
  rw [List.findIdx?_eq_none_iff]
  intro x hx
  obtain ⟨g', hg', hx⟩ := List.mem_flatMap.1 hx
  obtain ⟨d', _, rfl⟩ := List.mem_map.1 hx
  obtain ⟨j, hj, rfl⟩ := List.mem_iff_getElem.1 hg'
  rw [List.length_take] at hj
  rw [List.getElem_take]
  have := (List.pairwise_iff_getElem.1 h.ids) j i (by omega) hi (by omega)
  rw [hgi] at this
  simp only [Bool.and_eq_false_iff, decide_eq_false_iff_not]
  exact .inl (by omega)
 have h2 : List.findIdx? (fun n : Int × Int => decide (g.1 = n.1) && decide (d = n.2)) ((bG b g).map fun d => ((g.1, d) : Int × Int)) = some k := by
  rw [List.findIdx?_eq_some_iff_getElem]
  refine ⟨by simpa using hkl, by simp [hkd], fun j hj => ?_⟩
  have := (List.pairwise_iff_getElem.1 (xY b g)) j k (by omega) hkl hj
  rw [hkd] at this
  simp only [List.getElem_map, Bool.and_eq_true, decide_eq_true_eq, not_and]
  intro _
  omega
 rw [h1, h2]
 simp only [Option.map_some, Option.some_or, Option.none_or]
 unfold off
 congr 1
 omega
theorem YQ {i : Nat} {g : b9} (hg : b.2.1[i]? = some g) {k : Nat} {d : Int} (hk : (bG b g)[k]? = some d) : (bn b)[off b i + k]? = some (g.1, d) := by
 obtain ⟨hkl, hkd⟩ := List.getElem?_eq_some_iff.1 hk
 rw [xa hg, List.getElem?_append_right (by unfold off; omega), List.getElem?_append_left (by unfold off; simp; omega)]
 unfold off
 simp [hk]
theorem ZI (h : cX b) {i : Nat} {g : b9} (hg : b.2.1[i]? = some g) : atP (bn b) [g.1] g.2.1 = (off b i : Int) + 1 := by
 obtain ⟨t, ht⟩ := QJ h (List.mem_of_getElem? hg)
 have := LV h hg (k := 0) (d := g.2.1) (by rw [ht]; rfl)
 unfold atP
 simp only [this]
 rfl
theorem aaA (h : cX b) {i : Nat} {g : b9} (hg : b.2.1[i]? = some g) : off b i + (bG b g).length ≤ (bn b).length := by
 rw [xa hg]
 unfold off
 simp only [List.length_append, List.length_map]
 omega
theorem YO {i : Nat} {g : b9} (hg : b.2.1[i]? = some g) : off b (i + 1) = off b i + (bG b g).length := by
 unfold off
 rw [take_succ hg, List.flatMap_append]
 simp
theorem Pa (h : cX b) {c : Cmp} (hc : c ∈ b.2.2.2.2.1) {x : Int} (hx : (x ∈ c.2.2.1 ∧ x ∉ c.2.2.2.1) ∨ (x ∈ c.2.2.2.1 ∧ x ∉ c.2.2.1)) : ∃ j, iz (bn b) x c.2.1 = some j := by
 have hm : x ∈ c.2.2.1 ++ c.2.2.2.1 := by rw [List.mem_append]; exact hx.imp (·.1) (·.1)
 obtain ⟨⟨g, hg, _⟩, _⟩ := h.pile hc hm
 obtain ⟨hgm, hgx⟩ := jd hg
 obtain ⟨i, hi, hgi⟩ := List.mem_iff_getElem.1 hgm
 have hd : c.2.1 ∈ bG b g := lu.2 (.inr (.inl ⟨c, hc, by
  rw [hgx]
  rcases hx with ⟨h1, h2⟩ | ⟨h1, h2⟩
  ·have e1 : c.2.2.1.contains x = true := by simpa using h1
   have e2 : c.2.2.2.1.contains x = false := by simpa using h2
   rw [e1, e2]; simp
  ·have e1 : c.2.2.2.1.contains x = true := by simpa using h1
   have e2 : c.2.2.1.contains x = false := by simpa using h2
   rw [e1, e2]; simp, rfl⟩))
 obtain ⟨k, hk, hkd⟩ := List.mem_iff_getElem.1 hd
 have := LV h (g := g) (i := i) (by rw [List.getElem?_eq_getElem hi, hgi]) (k := k) (d := c.2.1) (by rw [List.getElem?_eq_getElem hk, hkd])
 rw [hgx] at this
 exact ⟨_, this⟩
inductive Vy (b : bH) (p : List Int) (d : Int) (n : Int) : Prop
 | none : p = [] → n = 0 → Vy b p d n
 | one (x : Int) (j : Nat) : p = [x] → iz (bn b) x d = some j → n = (j : Int) + 1 → Vy b p d n
theorem NM (h : cX b) {c : Cmp} (hc : c ∈ b.2.2.2.2.1) : Vy b (cw c.2.2.1 c.2.2.2.1) c.2.1 (cx b c) := by
 have hl := (h.lefts hc).1
 cases hp : cw c.2.2.1 c.2.2.2.1 with
 | nil => exact .none rfl (by unfold cx atP; rw [hp])
 | cons x t =>
   rw [hp] at hl
   have : t = [] := by cases t with | nil => rfl | cons => simp at hl
   subst this
   obtain ⟨j, hj⟩ := Pa h hc (x := x) (.inl (lm.1 (by rw [hp]; simp)))
   exact .one x j rfl hj (by unfold cx atP; rw [hp]; simp only [hj])
theorem HY (h : cX b) {c : Cmp} (hc : c ∈ b.2.2.2.2.1) : Vy b (cw c.2.2.2.1 c.2.2.1) c.2.1 (cy b c) := by
 have hl := (h.lefts hc).2.1
 cases hp : cw c.2.2.2.1 c.2.2.1 with
 | nil => exact .none rfl (by unfold cy atP; rw [hp])
 | cons x t =>
   rw [hp] at hl
   have : t = [] := by cases t with | nil => rfl | cons => simp at hl
   subst this
   obtain ⟨j, hj⟩ := Pa h hc (x := x) (.inr (lm.1 (by rw [hp]; simp)))
   exact .one x j rfl hj (by unfold cy atP; rw [hp]; simp only [hj])
theorem Vy.rng {p : List Int} {d n : Int} (h : Vy b p d n) : 0 ≤ n ∧ n < ((bn b).length + 1 : Nat) := by
 rcases h with ⟨_, h⟩ | ⟨x, j, _, h1, h2⟩
 ·omega
 ·have := (i8 h1).1
  omega
theorem Zl (h : cX b) {c : Cmp} (hc : c ∈ b.2.2.2.2.1) : cx b c ≠ cy b c := by
 have hl := (h.lefts hc).2.2
 rcases NM h hc with ⟨h1, h2⟩ | ⟨x, j, h1, h2, h3⟩
 ·rcases HY h hc with ⟨g1, g2⟩ | ⟨y, k, g1, g2, g3⟩
  ·rw [h1, g1] at hl; simp at hl
  ·omega
 ·rcases HY h hc with ⟨g1, g2⟩ | ⟨y, k, g1, g2, g3⟩
  ·omega
  ·intro e
   have : j = k := by omega
   subst this
   have e1 := (i8 h2).2
   have e2 := (i8 g2).2
   rw [e1] at e2
   simp only [Option.some.injEq, Prod.mk.injEq] at e2
   have m1 : x ∈ cw c.2.2.1 c.2.2.2.1 := by rw [h1]; simp
   have m2 : y ∈ cw c.2.2.2.1 c.2.2.1 := by rw [g1]; simp
   rw [e2.1] at m1
   exact (lm.1 m1).2 (lm.1 m2).1
theorem Qj (h : cX b) : (bC b).length = 2 * (bn b).length + 2 * b.2.2.2.2.1.length := by
 have h1 : ∀ l : List b9, (∀ g ∈ l, g ∈ b.2.1) → (l.flatMap (cW b)).length = 2 * (l.flatMap fun g => (bG b g).map fun d => ((g.1, d) : Int × Int)).length := by
  intro l
  induction l with
  | nil => intro _; rfl
  | cons g t ih =>
    intro hm
    have := ih fun g hg => hm g (by simp [hg])
    have hp := List.length_pos_of_mem (kP (b := b) g)
    simp only [List.flatMap_cons, List.length_append, List.length_map, this]
    unfold cW
    rw [List.length_append, iQ _ _ (fun _ => rfl)]
    simp only [List.length_cons, List.length_nil]
    omega
 have h2 : ∀ l : List Cmp, (l.flatMap (cp b)).length = 2 * l.length := by
  intro l
  induction l with
  | nil => rfl
  | cons c t ih =>
    simp only [List.flatMap_cons, List.length_append, ih, cp, List.length_cons, List.length_nil]
    omega
 unfold bC
 rw [List.length_append, h1 _ fun _ h => h, h2]
 rfl
theorem dq (h : cX b) {i : Nat} {g : b9} (hg : b.2.1[i]? = some g) {l : Lk} : l ∈ cW b g ↔
 l = (0, (off b i : Int) + 1, g.2.2.1 + g.2.2.2.1.2) ∨ l = ((off b i : Int) + 1, 0, -(g.2.2.1 + g.2.2.2.1.1)) ∨
 ∃ (k : Nat) (d e : Int), (bG b g)[k]? = some d ∧ (bG b g)[k + 1]? = some e ∧ (l = ((off b i : Int) + k + 1, (off b i : Int) + k + 2, 0) ∨ l = ((off b i : Int) + k + 2, (off b i : Int) + k + 1, gy b g d e)) := by
 unfold cW
 rw [ZI h hg]
 simp only [List.mem_append, List.mem_cons, List.not_mem_nil, or_false, List.mem_flatMap, List.mem_range]
 constructor
 ·rintro ((h1 | h1) | ⟨k, hk, h1⟩)
  ·exact .inl h1
  ·exact .inr (.inl h1)
  ·refine .inr (.inr ⟨k, (bG b g)[k], (bG b g)[k + 1], List.getElem?_eq_getElem (by omega), List.getElem?_eq_getElem (by omega), ?_⟩)
   rw [List.getElem?_eq_getElem (show k < (bG b g).length by omega), List.getElem?_eq_getElem (show k + 1 < (bG b g).length by omega)] at h1
   simp only [Option.getD_some] at h1
   have e1 : (off b i : Int) + 1 + k = (off b i : Int) + k + 1 := by omega
   have e2 : (off b i : Int) + k + 1 + 1 = (off b i : Int) + k + 2 := by omega
   rw [e1, e2] at h1
   exact h1
 ·rintro (h1 | h1 | ⟨k, d, e, hd, he, h1⟩)
  ·exact .inl (.inl h1)
  ·exact .inl (.inr h1)
  ·obtain ⟨h2, rfl⟩ := List.getElem?_eq_some_iff.1 hd
   obtain ⟨h3, rfl⟩ := List.getElem?_eq_some_iff.1 he
   refine .inr ⟨k, by omega, ?_⟩
   rw [hd, he]
   simp only [Option.getD_some]
   have e1 : (off b i : Int) + 1 + k = (off b i : Int) + k + 1 := by omega
   have e2 : (off b i : Int) + k + 1 + 1 = (off b i : Int) + k + 2 := by omega
   rw [e1, e2]
   exact h1
theorem mu {l : Lk} : l ∈ bC b ↔ (∃ (i : Nat) (g : b9), b.2.1[i]? = some g ∧ l ∈ cW b g) ∨ ∃ c ∈ b.2.2.2.2.1, l = (cy b c, cx b c, (fR b c).2) ∨ l = (cx b c, cy b c, -(fR b c).1) := by
 unfold bC
 simp only [List.mem_append, List.mem_flatMap, cp, List.mem_cons, List.not_mem_nil, or_false]
 constructor
 ·rintro (⟨g, hg, h⟩ | h)
  ·obtain ⟨i, hi, rfl⟩ := List.mem_iff_getElem.1 hg
   exact .inl ⟨i, _, List.getElem?_eq_getElem hi, h⟩
  ·exact .inr h
 ·rintro (⟨i, g, hg, h⟩ | h)
  ·exact .inl ⟨g, List.mem_of_getElem? hg, h⟩
  ·exact .inr h
theorem cX.sys (h : cX b) : gP (bC b) ((bn b).length + 1) := by
 have hN := h.nodes
 have hL := h.links
 have key : ∀ l ∈ bC b, ((0 ≤ l.1 ∧ l.1 < ((bn b).length + 1 : Nat)) ∧ (0 ≤ l.2.1 ∧ l.2.1 < ((bn b).length + 1 : Nat))) ∧ l.1 ≠ l.2.1 ∧ (-4503599627370496 ≤ l.2.2 ∧ l.2.2 ≤ 4503599627370496) := by
  intro l hl
  rcases mu.1 hl with ⟨i, g, hg, hl⟩ | ⟨c, hc, hl⟩
  ·have hgm := List.mem_of_getElem? hg
   have hr := h.gaugeR hgm
   have ho := aaA h hg
   have hp := List.length_pos_of_mem (kP (b := b) g)
   have r1 := hr.2.2.2.2.2.1
   have r2 := hr.2.2.2.2.2.2.1
   rcases (dq h hg).1 hl with rfl | rfl | ⟨k, d, e, hd, he, h1⟩
   ·dsimp only; omega
   ·dsimp only; omega
   ·obtain ⟨h2, _⟩ := List.getElem?_eq_some_iff.1 he
    have d1 := h.day hgm (List.mem_of_getElem? hd)
    have lb := m5 h hgm (t := e) d1.2.1
    rcases h1 with rfl | rfl
    ·dsimp only; omega
    ·dsimp only; omega
  ·have a := (NM h hc).rng
   have b' := (HY h hc).rng
   have ne := Zl h hc
   have sb := Fz h hc
   rcases hl with rfl | rfl
   ·dsimp only; omega
   ·dsimp only; omega
 exact ⟨by omega, by omega, by rw [Qj h]; omega, fun l hl => (key l hl).1, fun l hl => (key l hl).2.1, fun l hl => (key l hl).2.2⟩
end
end Go.Proofs.ZzM
end
noncomputable section
namespace Go.Proofs.ZzM
open Go Go.Am
theorem X0 {ρ : Type} : @qO ρ = @fZ ρ := rfl
theorem XZ {ρ : Type} : @qN ρ = @dS ρ := rfl
theorem XY {ρ : Type} : @qM ρ = @de ρ := rfl
theorem Qt {ρ : Type} {N : Nat} (hN : N ≤ 1000) (x : Option ρ) : ca ((ile (0 : Int) (N : Int)) && (bW N)) x = x := by
 have := Ax hN x
 rwa [Int.toNat_natCast] at this
section
variable {L : List Lk} {N : Nat} {M : Int}
theorem VU {s : Int} (hs : 0 ≤ s ∧ s < N) : (List.replicate N gc).set s.toNat 0 = qj (Wn s) N := by
 refine TQ (by simp [cj]) fun v h0 h1 => ?_
 have hv : v < N := by simpa using h1
 rw [gQ _ h0 hv, un hs.1 h0 (by simp; omega)]
 unfold Wn
 by_cases h : v = s
 ·simp [h]
 ·simp only [h, if_false, beq_iff_eq]
  unfold gv
  rw [List.getElem?_replicate]
  have : v.toNat < N := by omega
  simp [this]
theorem XX (hL : gE L N M) (h1 : 1 ≤ N) (hN : N ≤ 200) (ho : d9 L N = true) {s : Int} (hs : 0 ≤ s ∧ s < N) : vq ((N : Int), L) [] s = some (oZ L N s) := by
 obtain ⟨p, hp⟩ := (gI hL hN).1 ho
 unfold vq B0
 rw [X0, XZ, XY]
 dsimp only
 rw [Ax (by omega), Int.toNat_natCast]
 refine cD (List.replicate N (0 : Int)) (fun i => List.replicate i gc ++ List.replicate (N - i) 0) _ (by simp) (fun i a hi ha kn => ?_) (fun kn => ?_)
 ·dsimp only
  unfold l5
  have hiN : i < N := by simpa using hi
  have hl : i < (List.replicate i gc ++ List.replicate (N - i) (0 : Int)).length := by simp; omega
  rw [bv hi, gO hl, eJ (List.getElem?_eq_getElem hl), br hiN (by omega), Int.toNat_natCast]
  congr 2
  rw [List.set_append_right _ _ (by simp)]
  have : N - i = (N - (i + 1)) + 1 := by omega
  rw [this, List.length_replicate, Nat.sub_self, List.replicate_succ, List.set_cons_zero, List.replicate_succ']
  simp
 ·try dsimp only
  unfold l5
  rw [bU]
  dsimp only
  have e0 : List.replicate (List.replicate N (0 : Int)).length gc ++ List.replicate (N - (List.replicate N (0 : Int)).length) 0 = List.replicate N gc := by simp
  rw [e0]
  have hlen : s.toNat < (List.replicate N gc).length := by simp; omega
  rw [show dt (List.replicate N gc) = ((N : Nat) : Int) by simp [dt], hX hs.1 hs.2, iT hlen, Qt (by omega), Qt (by omega), VU hs]
  refine Eq.trans (TL hL _) ?_
  have hS : ∀ v, Wn s v = true → 0 ≤ v ∧ v < N := fun v h => by simp [Wn] at h; subst h; exact hs
  refine VV (cj _ _) (by omega) _ fun w q hw hq hr hwq hqs => ?_
  have hs0 := Kb hL h1 hS hw hq hr hwq hqs
  refine Ot hL (YS hL hN) hp hS _ (fun x w t q hx hd => ?_) hs0
  have : x = oZ L N s := by
   refine TQ (by rw [hx]; unfold oZ; rw [eu, cj]) fun v a b => ?_
   exact hd.uniq (kF hL hN hp hs) a (by omega)
  dsimp only
  rw [this]
def f8 (L : List Lk) (N : Nat) (s t : Int) : Int × Int :=
 if !d9 L N then (0, 9) else if gv (oZ L N s) t = gc then (0, 5) else (gv (oZ L N s) t, 0)
theorem ZJ (h : gP L N) {ns : List Int} (hn : ∀ n ∈ ns, 0 ≤ n ∧ n < N) (hl : ns.length ≤ 1000) : AJ ((N : Int), L) ns = some (if d9 L N then 0 else 9) := by
 have h2 := h.n60
 unfold AJ Gw
 rw [jP h, aW]
 dsimp only
 rw [bu (by rfl)]
 refine Eq.trans (hO ns (fun _ => false) (fun _ => some 1) (some (if d9 L N then 0 else 9)) (fun i n hi hm kn => ?_) (fun kn => ?_)) ?_
 ·try dsimp only
  unfold nV
  have a := hn n (List.mem_of_getElem? hm)
  have e : (decide (0 ≤ n) && decide (n < (N : Int))) = true := by simp [a.1, a.2]
  rw [bv hi, bp hm, FR, aW, e, br hi (by omega)]
  simp
 ·try dsimp only
  unfold nV
  rw [bU, wT h.links h.n1 (by omega), aW]
  cases d9 L N <;> rfl
 ·rw [List.findIdx?_eq_none_iff.2 (by simp)]
theorem Fk (h : gP L N) {s t : Int} (hs : 0 ≤ s ∧ s < N) (ht : 0 ≤ t ∧ t < N) : nk ((N : Int), L) s t = some (f8 L N s t) := by
 have h2 := h.n60
 unfold nk GK f8
 rw [ZJ h (fun n hn => by simp at hn; rcases hn with rfl | rfl <;> assumption) (by simp), aW]
 by_cases ho : d9 L N = true
 ·rw [if_pos ho, bu (by rfl), XX h.links h.n1 (by omega) ho hs, aW, uk ht.1 (by unfold oZ; rw [eu, cj]; omega), dp, if_neg (show ¬ (!d9 L N) = true by simp [ho])]
  by_cases hf : gv (oZ L N s) t = gc
  ·rw [if_pos (by simpa [ieq] using hf), if_pos hf]
  ·rw [if_neg (by simpa [ieq] using hf), if_neg hf]
 ·rw [if_neg ho, bI (by rfl), if_pos (show (!d9 L N) = true by simpa using ho)]
end
end Go.Proofs.ZzM
end
noncomputable section
namespace Go.Proofs.ZzM
open Go Go.Am
def bK (b : bH) (c : Cmp) : bH := (b.1, b.2.1, b.2.2.1, b.2.2.2.1, b.2.2.2.2.1 ++ [c], b.2.2.2.2.2)
def o8 : bH := ((0, 0), [], [], [], [], [])
def uP (b : bH) (c : Cmp) : bH × Int := if bO b ≠ 0 then (o8, bO b) else if bO (bK b c) ≠ 0 then (o8, bO (bK b c)) else (bK b c, 0)
theorem Wy {b : bH} (h : cX b) {c : Cmp} (hA : c.2.2.1.length ≤ 1000) (hB : c.2.2.2.1.length ≤ 1000) : jM (bK b c) := by
 have hs := h.size
 have := h.nC
 refine ⟨hs.gauges, hs.uses, hs.loans, by simp [bK]; omega, hs.looks, fun d hd => ?_⟩
 rcases List.mem_append.1 (show d ∈ b.2.2.2.2.1 ++ [c] from hd) with hd | hd
 ·exact hs.piles d hd
 ·simp at hd; subst hd; exact ⟨hA, hB⟩
theorem X9 {b : bH} (hs : jM b) (hr : ∀ g ∈ b.2.1, I64 g.2.2.2.2.1.1) {c : Cmp} (hA : c.2.2.1.length ≤ 1000) (hB : c.2.2.2.1.length ≤ 1000) : mf b c = some (uP b c) := by
 unfold mf No uP
 have h1 := hs.gauges; have h2 := hs.uses; have h3 := hs.loans; have h4 := hs.compares; have h5 := hs.looks
 rw [bw (by omega), Am.iff_true, bw (by omega), Am.iff_true, gF hs hr, aW]
 by_cases hc : bO b = 0
 ·have h := (bS b).1 hc
  rw [bu (by simp [ine, hc]), bw (by omega), Am.iff_true, bw (by omega), Am.iff_true, bw (by omega), Am.iff_true, bw (by omega), Am.iff_true, bw (by omega), Am.iff_true, if_neg (show ¬ (bO b ≠ 0) from fun h => h hc)]
  refine cD b.2.2.2.2.1 (fun _ => b.2.2.2.2.1) _ rfl (fun i d hi hd kn => ?_) (fun kn => ?_)
  ·dsimp only
   unfold rg
   obtain ⟨p1, p2⟩ := hs.piles d (List.mem_of_getElem? hd)
   have e1 : b.2.2.2.2.1.set i d = b.2.2.2.2.1 := by
    obtain ⟨h, rfl⟩ := List.getElem?_eq_some_iff.1 hd
    exact List.set_getElem_self h
   rw [bv hi, gO hi, eJ hd, bw (by omega), Am.iff_true, bw (by omega), Am.iff_true, gO hi, eJ hd, Int.toNat_natCast]
   rw [show (d.1, d.2.1, d.2.2.1, d.2.2.2) = d from rfl, e1, gO hi, qo hd, br hi (by omega)]
   rw [show (d.1, d.2.1, d.2.2.1, d.2.2.2.1, d.2.2.2.2) = d from rfl, e1]
  ·try dsimp only
   unfold rg
   rw [bU]
   dsimp only
   rw [bw (by simp only [List.length_singleton]; omega), Am.iff_true]
   rw [show bZ (b.1, b.2.1, b.2.2.1, b.2.2.2.1, b.2.2.2.2.1 ++ [c], b.2.2.2.2.2) = bZ (bK b c) from rfl, gF (Wy h hA hB) hr, aW]
   by_cases hc2 : bO (bK b c) = 0
   ·rw [bu (by simp [ine, hc2]), if_neg (show ¬ (bO (bK b c) ≠ 0) from fun h => h hc2)]
    rfl
   ·rw [bI (by simp [ine, hc2]), if_pos hc2]
    rfl
 ·rw [bI (by simp [ine, hc]), if_pos hc]
  rfl
def bg (c : Cmp) : Cmp := (c.1, c.2.1, c.2.2.1, c.2.2.2.1, 0, c.2.2.2.2.2)
def Sk (b : bH) (c : Cmp) : Int := Ia (dG b c).1 + (je b c).1 - c.2.2.2.2.2.1
def xP (b : bH) (c : Cmp) : Int := (dG b c).2.1 / (dG b c).2.2 + (je b c).2 + c.2.2.2.2.2.1
def Fw (b : bH) (c : Cmp) (s : Int × Int) : (Int × Int) × Int := if xP b c < Sk b c then ((0, 0), 5) else ((s.1 + Sk b c, s.2 + xP b c), 0)
structure ZQ (b : bH) (c : Cmp) : Prop where
 nums : UK c = true
 r1 : qi (D5 (jl b) (cw c.2.2.1 c.2.2.2.1)) 1000 100
 r2 : qi (D5 (jl b) (cw c.2.2.2.1 c.2.2.1)) 1000 100
theorem cX.cmp {b : bH} (h : cX b) {c : Cmp} (hc : c ∈ b.2.2.2.2.1) : ZQ b c := ⟨h.nums hc, (h.rates hc).1, (h.rates hc).2⟩
theorem C0 {b : bH} (hf : 0 ≤ b.1.1 ∧ b.1.1 ≤ b.1.2 ∧ b.1.2 ≤ 1000000) {c : Cmp} (h : ZQ b c) : qi (dG b c).1 2000000000 10000 ∧ qi (dG b c).2 2000000000 10000 ∧ (-3000000000 ≤ Ia (dG b c).1 + (je b c).1 ∧ Ia (dG b c).1 + (je b c).1 ≤ 3000000000) ∧
 (-3000000000 ≤ (dG b c).2.1 / (dG b c).2.2 + (je b c).2 ∧ (dG b c).2.1 / (dG b c).2.2 + (je b c).2 ≤ 3000000000) ∧ (0 ≤ c.2.2.2.2.2.1 ∧ c.2.2.2.2.2.1 ≤ 1073741824) := by
 have hn := (jr c).1 h.nums
 have ha := fw hn.2.2.2.2.2.1
 have hb := fw hn.2.2.2.2.2.2
 obtain ⟨g1, g2⟩ := LR (Lt h.r1 h.r2) hn.2.2.2.2.1
 have fb := xW (b := b) (c := c) (by omega) (by omega) (by omega) (by omega) (by omega) (by omega)
 have q1 : qi (dG b c).1 2000000000 10000 := g1
 have q2 : qi (dG b c).2 2000000000 10000 := g2
 have c1 := CL q1
 have c2 := xT q2
 exact ⟨q1, q2, by omega, by omega, hn.2.2.2.1⟩
theorem YD {b : bH} (hs : jM b) (hf : 0 ≤ b.1.1 ∧ b.1.1 ≤ b.1.2 ∧ b.1.2 ≤ 1000000) {c : Cmp} (h : ZQ b c) {s : Int × Int} (h1 : -2305843009213693952 ≤ s.1 ∧ s.1 ≤ 2305843009213693952) (h2 : -2305843009213693952 ≤ s.2 ∧ s.2 ≤ 2305843009213693952) : p8 b c s = some (Fw b c s) := by
 have hn := (jr c).1 h.nums
 have ha := fw hn.2.2.2.2.2.1
 have hb := fw hn.2.2.2.2.2.2
 obtain ⟨q1, q2, b1, b2, b3⟩ := C0 hf h
 unfold p8 G4 Fw Sk xP
 rw [Qx hs (by omega) (by omega) h.r1 h.r2 hn.2.2.2.2.1, aW, TY (by omega) (by omega) (by omega) (by omega) (by omega) (by omega), aW, Yj q1.rat, aW, Uq q2.rat, aW]
 dsimp only
 rw [bz (by omega) (by omega), bz (by omega) (by omega), bz (by omega) (by omega), bz (by omega) (by omega), dp]
 by_cases hlt : (dG b c).2.1 / (dG b c).2.2 + (je b c).2 + c.2.2.2.2.2.1 < Ia (dG b c).1 + (je b c).1 - c.2.2.2.2.2.1
 ·rw [if_pos (by simpa [igt] using hlt), if_pos hlt]
 ·rw [if_neg (by simpa [igt] using hlt), if_neg hlt, bz (by omega) (by omega), bz (by omega) (by omega)]
def bV (b : bH) : List Lk := (bC b).take ((bC b).length - 2)
def dm (b : bH) (c : Cmp) : (Int × Int) × Int :=
 if (uP b (bg c)).2 ≠ 0 then ((0, 0), (uP b (bg c)).2) else
 if (f8 (bV (bK b (bg c))) ((bn (bK b (bg c))).length + 1) (cy (bK b (bg c)) (bg c)) (cx (bK b (bg c)) (bg c))).2 ≠ 0 then
  ((0, 0), (f8 (bV (bK b (bg c))) ((bn (bK b (bg c))).length + 1) (cy (bK b (bg c)) (bg c)) (cx (bK b (bg c)) (bg c))).2) else
 if (f8 (bV (bK b (bg c))) ((bn (bK b (bg c))).length + 1) (cx (bK b (bg c)) (bg c)) (cy (bK b (bg c)) (bg c))).2 ≠ 0 then
  ((0, 0), (f8 (bV (bK b (bg c))) ((bn (bK b (bg c))).length + 1) (cx (bK b (bg c)) (bg c)) (cy (bK b (bg c)) (bg c))).2) else
 Fw b (bg c) (-(f8 (bV (bK b (bg c))) ((bn (bK b (bg c))).length + 1) (cx (bK b (bg c)) (bg c)) (cy (bK b (bg c)) (bg c))).1,
  (f8 (bV (bK b (bg c))) ((bn (bK b (bg c))).length + 1) (cy (bK b (bg c)) (bg c)) (cx (bK b (bg c)) (bg c))).1)
theorem Ra {L : List Lk} {N : Nat} (h : gP L N) {s t : Int} (hs : 0 ≤ s ∧ s < N) (ht : 0 ≤ t ∧ t < N) : -2305843009213693952 ≤ (f8 L N s t).1 ∧ (f8 L N s t).1 ≤ 2305843009213693952 := by
 unfold f8
 have h2 := h.n60
 split
 ·simp
 ·rename_i ho
  have ho' : d9 L N = true := by simpa using ho
  obtain ⟨p, hp⟩ := (gI h.links (by omega)).1 ho'
  have hd := kF h.links (by omega) hp hs
  split
  ·simp
  ·rename_i hne
   dsimp only
   have hb := hd.bd t ht.1 ht.2
   obtain ⟨vs, hw⟩ := hd.att t ht.1 ht.2 hne
   have h3 := hw.low' hp
   have h4 := LX (L := L) (fun l hl => (h.most l hl).1) (M := 4503599627370496) (by omega)
   have h5 := h.len
   unfold gc at hb
   constructor <;> omega
theorem Vu {b : bH} (hs : jM b) (hr : ∀ g ∈ b.2.1, I64 g.2.2.2.2.1.1) {c : Cmp} (hA : c.2.2.1.length ≤ 1000) (hB : c.2.2.2.1.length ≤ 1000) : rt b c = some (dm b c) := by
 unfold rt xL dm
 rw [show mf b (c.1, c.2.1, c.2.2.1, c.2.2.2.1, 0, c.2.2.2.2.2) = mf b (bg c) from rfl, X9 hs hr (c := bg c) hA hB, aW]
 by_cases hw : (uP b (bg c)).2 = 0
 ·rw [bu (by simp [ine, hw]), if_neg (show ¬ ((uP b (bg c)).2 ≠ 0) from fun h => h hw)]
  -- the book is valid, and so is the greater one
  have hb : bO b = 0 := by
   unfold uP at hw
   split at hw
   ·rename_i h; exact (h hw).elim
   ·rename_i h; simpa using h
  have hm : bO (bK b (bg c)) = 0 := by
   unfold uP at hw
   rw [if_neg (by simp [hb])] at hw
   split at hw
   ·rename_i h; exact (h hw).elim
   ·rename_i h; simpa using h
  have he : uP b (bg c) = (bK b (bg c), 0) := by
   unfold uP
   rw [if_neg (by simp [hb]), if_neg (by simp [hm])]
  have g := (bS b).1 hb
  have gm := (bS _).1 hm
  have hmem : bg c ∈ (bK b (bg c)).2.2.2.2.1 := by simp [bK]
  have hN := gm.nodes
  have hll := Qj gm
  have hcl : (bK b (bg c)).2.2.2.2.1.length = b.2.2.2.2.1.length + 1 := by simp [bK]
  have hlk := gm.links
  have hsys : gP (bV (bK b (bg c))) ((bn (bK b (bg c))).length + 1) := gm.sys.sub (fun l hl => List.mem_of_mem_take hl) (by unfold bV; rw [List.length_take]; omega)
  have hx := (NM gm hmem).rng
  have hy := (HY gm hmem).rng
  have lA : c.2.2.1.length ≤ 1000 := hA
  rw [he]
  dsimp only
  rw [TH gm, aW]
  dsimp only
  rw [b8, bz (by omega) (by omega)]
  have e1 : ((ile (0 : Int) (((bC (bK b (bg c))).length : Int) - 2)) && (ile (((bC (bK b (bg c))).length : Int) - 2) (dt (bC (bK b (bg c)))))) = true := by
   simp [ile, dt]; omega
  have e2 : (((bC (bK b (bg c))).length : Int) - 2).toNat = (bC (bK b (bg c))).length - 2 := by omega
  rw [dA e1, oR (by omega) (by omega), aW, X3 _ _ _ (by dsimp only; omega), aW, oR (by omega) (by omega), aW, X3 _ _ _ (by dsimp only; omega), aW, e2]
  have e3 : (((bn (bK b (bg c))).length : Int) + 1) = (((bn (bK b (bg c))).length + 1 : Nat) : Int) := by push_cast; rfl
  rw [e3]
  rw [show List.take ((bC (bK b (bg c))).length - 2) (bC (bK b (bg c))) = bV (bK b (bg c)) from rfl]
  dsimp only
  rw [show atP (bn (bK b (bg c))) (cw c.2.2.1 c.2.2.2.1) c.2.1 = cx (bK b (bg c)) (bg c) from rfl, show atP (bn (bK b (bg c))) (cw c.2.2.2.1 c.2.2.1) c.2.1 = cy (bK b (bg c)) (bg c) from rfl]
  rw [Fk hsys hy hx, aW, Fk hsys hx hy]
  have b1 := Ra hsys hy hx
  have b2 := Ra hsys hx hy
  generalize hB1 : f8 (bV (bK b (bg c))) ((bn (bK b (bg c))).length + 1) (cy (bK b (bg c)) (bg c)) (cx (bK b (bg c)) (bg c)) = B1 at b1 ⊢
  generalize hB2 : f8 (bV (bK b (bg c))) ((bn (bK b (bg c))).length + 1) (cx (bK b (bg c)) (bg c)) (cy (bK b (bg c)) (bg c)) = B2 at b2 ⊢
  by_cases h1 : B1.2 = 0
  ·rw [bu (by simp [ine, h1]), if_neg (show ¬ (B1.2 ≠ 0) from fun h => h h1), aW]
   by_cases h2 : B2.2 = 0
   ·rw [bu (by simp [ine, h2]), if_neg (show ¬ (B2.2 ≠ 0) from fun h => h h2), bz (by omega) (by omega)]
    have hck : ZQ b (bg c) := ⟨(gm.cmp hmem).nums, (gm.cmp hmem).r1, (gm.cmp hmem).r2⟩
    rw [show p8 b (c.1, c.2.1, c.2.2.1, c.2.2.2.1, 0, c.2.2.2.2.2) (0 - B2.1, B1.1) = p8 b (bg c) (0 - B2.1, B1.1) from rfl, YD g.size g.film hck (by dsimp only; omega) (by dsimp only; omega), aW, Int.zero_sub]
   ·rw [bI (by simp [ine, h2]), if_pos h2]
  ·rw [bI (by simp [ine, h1]), if_pos h1]
 ·rw [bI (by simp [ine, hw]), if_pos hw]
end Go.Proofs.ZzM
end
noncomputable section
namespace Go.Proofs.ZzM
open Go Go.Am
structure In (b : bH) : Prop where
 size : jM b
 num : ∀ g ∈ b.2.1, I64 g.2.2.2.2.1.1
def N5 (b : bH) : Sys × List (Int × Int) × Int := if bO b ≠ 0 then ((0, []), [], bO b) else ((((bn b).length : Int) + 1, bC b), fe b, 0)
theorem nr {b : bH} (h : In b) : dc b = some (N5 b) := by
 unfold dc Cj N5
 rw [gF h.size h.num, aW]
 by_cases hc : bO b = 0
 ·rw [bu (by simp [ine, hc]), TH ((bS b).1 hc), aW, if_neg (show ¬ (bO b ≠ 0) from fun h => h hc)]
 ·rw [bI (by simp [ine, hc]), if_pos hc]
def cmp0 : Cmp := (0, 0, [], [], 0, 0, 0, 0)
def o9 (b : bH) (i : Int) : Cmp × Int := if bO b ≠ 0 then (cmp0, bO b) else if i < 0 ∨ (b.2.2.2.2.1.length : Int) ≤ i then (cmp0, 1) else (b.2.2.2.2.1[i.toNat]?.getD cmp0, 0)
theorem Ys {b : bH} (h : In b) (i : Int) : AM b i = some (o9 b i) := by
 unfold AM G2 o9
 rw [gF h.size h.num, aW]
 by_cases hc : bO b = 0
 ·rw [bu (by simp [ine, hc]), if_neg (show ¬ (bO b ≠ 0) from fun h => h hc), b8]
  by_cases h1 : i < 0
  ·rw [bI (by simp [ilt, h1]), if_pos (.inl h1)]; rfl
  ·rw [bu (by simp [ilt]; omega)]
   by_cases h2 : (b.2.2.2.2.1.length : Int) ≤ i
   ·rw [bI (by simp [ige, h2]), if_pos (.inr h2)]; rfl
   ·rw [bu (by simp [ige]; omega), if_neg (by omega)]
    obtain ⟨j, rfl⟩ := Int.eq_ofNat_of_zero_le (show 0 ≤ i by omega)
    have hj : j < b.2.2.2.2.1.length := by omega
    rw [bp (List.getElem?_eq_getElem hj), Int.toNat_natCast, List.getElem?_eq_getElem hj]
    rfl
 ·rw [bI (by simp [ine, hc]), if_pos hc]; rfl
theorem Rg {b : bH} {i : Int} (h : (o9 b i).2 = 0) : cX b ∧ (o9 b i).1 ∈ b.2.2.2.2.1 ∧ b.2.2.2.2.1[i.toNat]? = some (o9 b i).1 ∧ 0 ≤ i := by
 unfold o9 at h ⊢
 split at h
 ·rename_i hc; exact (hc h).elim
 ·rename_i hc
  have hc0 : bO b = 0 := by simpa using hc
  split at h
  ·simp at h
  ·rename_i hi
   have hj : i.toNat < b.2.2.2.2.1.length := by omega
   rw [if_neg hc, if_neg hi, List.getElem?_eq_getElem hj]
   exact ⟨(bS b).1 hc0, List.getElem_mem hj, rfl, by omega⟩
def ZN (b : bH) (i : Int) : (Int × Int) × Int := if (o9 b i).2 ≠ 0 then ((0, 0), (o9 b i).2) else (fR b (o9 b i).1, 0)
theorem aa6 {b : bH} (h : In b) (i : Int) : Fd b i = some (ZN b i) := by
 unfold Fd Nq ZN
 rw [Ys h, aW]
 by_cases hw : (o9 b i).2 = 0
 ·obtain ⟨g, hm, _, _⟩ := Rg hw
  rw [bu (by simp [ine, hw]), g.says hm, aW, if_neg (show ¬ ((o9 b i).2 ≠ 0) from fun h => h hw)]
 ·rw [bI (by simp [ine, hw]), if_pos hw]
def A5 (b : bH) (g : Int) (ds : List Int) : Int := if bO b ≠ 0 then bO b else if ds.any (fun d => !NL d) then 1 else if (mJ (k := tI) (v := bj) g (jl b)).isNone then 5 else 0
theorem X6 {b : bH} (h : In b) (g : Int) {ds : List Int} (hd : ds.length ≤ 1000) : AP b g ds = some (A5 b g ds) := by
 unfold AP Hl A5
 rw [gF h.size h.num, aW]
 by_cases hc : bO b = 0
 ·rw [bu (by simp [ine, hc]), if_neg (show ¬ (bO b ≠ 0) from fun h => h hc)]
  have last : (aZ (df b) fun r9 => ED (k := tI) (v := bj) g r9 (fun y10 => some (0 : Int)) (some (5 : Int))) = some (if (mJ (k := tI) (v := bj) g (jl b)).isNone then 5 else 0) := by
   rw [uV h.size.gauges, aW]
   unfold ED
   cases mJ (k := tI) (v := bj) g (jl b) <;> rfl
  refine Eq.trans (ip ds (fun d => !NL d) (fun z5 => ifb (ige z5 (0 : Int)) (some (1 : Int)) (aZ (df b) fun r6 => ED (k := tI) (v := bj) g r6 (fun y7 => some (0 : Int)) (some (5 : Int)))) (some 1) (some (if (mJ (k := tI) (v := bj) g (jl b)).isNone then 5 else 0)) (fun j => ?_) (fun i d hi hdi kn => ?_) (fun kn => ?_)) ?_
  ·rw [bI (by simp [ige])]
  ·try dsimp only
   unfold ol
   rw [bv hi, bp hdi, E5, aW, br hi (by omega), dp]
  ·try dsimp only
   unfold ol
   rw [bU, last]
  ·cases ds.any (fun d => !NL d) <;> rfl
 ·rw [bI (by simp [ine, hc]), if_pos hc]
theorem Im {b : bH} {g : Int} {ds : List Int} (h : A5 b g ds = 0) : cX b ∧ (∀ d ∈ ds, 0 ≤ d ∧ d ≤ 20000) ∧ ∃ x, iB b g = some x ∧ mJ (k := tI) (v := bj) g (jl b) = some x := by
 unfold A5 at h
 split at h
 ·rename_i hc; exact (hc h).elim
 ·rename_i hc
  have hc0 : bO b = 0 := by simpa using hc
  have hg := (bS b).1 hc0
  split at h
  ·omega
  ·rename_i hd
   split at h
   ·omega
   ·rename_i hm
    refine ⟨hg, fun d hdm => ?_, ?_⟩
    ·have := List.any_eq_false.1 (Bool.eq_false_iff.2 hd) d hdm
     simpa [NL, inP] using this
    ·rw [Bq hg.ids] at hm ⊢
     cases hx : iB b g with
     | none => rw [hx] at hm; simp at hm
     | some x => exact ⟨x, rfl, rfl⟩
def Vw (b : bH) (g f t : Int) : Int × Int :=
 if A5 b g [f, t] ≠ 0 then (0, A5 b g [f, t]) else
 match mJ (k := tI) (v := bj) g (jl b) with
 | some x => if t < f then (0, 3) else if f < x.2.1 then (0, 3) else (gy b x f t, 0)
 | none => (0, 0)
theorem aa9 {b : bH} (h : In b) (g f t : Int) : Fe b g f t = some (Vw b g f t) := by
 unfold Fe Nr Vw
 rw [X6 h g (by simp), aW]
 by_cases ha : A5 b g [f, t] = 0
 ·obtain ⟨hg, hd, x, hx, hm⟩ := Im ha
  have d1 := hd f (by simp)
  have d2 := hd t (by simp)
  have hr := hg.gaugeR (jd hx).1
  rw [bu (by simp [ine, ha]), if_neg (show ¬ (A5 b g [f, t] ≠ 0) from fun h => h ha), uV h.size.gauges, aW]
  simp only [ED, hm]
  rw [dp]
  by_cases h1 : t < f
  ·rw [if_pos (by simpa [igt] using h1), if_pos h1]
  ·rw [if_neg (by simpa [igt] using h1), if_neg h1, dp]
   by_cases h2 : f < x.2.1
   ·rw [if_pos (by simpa [ilt] using h2), if_pos h2]
   ·rw [if_neg (by simpa [ilt] using h2), if_neg h2, WH hg hr.2.2.2.2.2.2.2 ⟨by omega, by omega⟩ ⟨by omega, by omega⟩, aW]
 ·rw [bI (by simp [ine, ha]), if_pos ha]
def exB : bH := ((0, 2), [(1, 0, 1000, (-5, 5), (1, 10), 1), (2, 0, 1000, (-50, 50), (1, 4), 0)], [(1, 10)], [(1, (20, 29), 3)], [(7, 10, [1], [2], -20, 1, 100, 200)], [])
theorem uE : In exB := ⟨⟨by decide, by decide, by decide, by decide, by decide, by decide⟩, by
 intro g hg
 simp [exB] at hg
 rcases hg with rfl | rfl <;> exact ⟨by decide, by decide⟩⟩
def exC : Cmp := (8, 10, [1], [2], 0, 0, 0, 0)
end Go.Proofs.ZzM
end
noncomputable section
namespace Go.Proofs.ZzM
open Go Go.Am
def sG (b : bH) (x d : Int) : Int := match iz (bn b) x d with | some j => (j : Int) + 1 | none => 0
def Up (b : bH) (n : Int × Int) : Int × Int := if bO b ≠ 0 then (0, bO b) else if sG b n.1 n.2 = 0 then (0, 5) else (sG b n.1 n.2, 0)
theorem Iy {b : bH} (h : In b) (n : Int × Int) : er b n = some (Up b n) := by
 have hl := Kq h.size
 unfold er Ho Up
 rw [gF h.size h.num, aW]
 by_cases hc : bO b = 0
 ·rw [bu (by simp [ine, hc]), if_neg (show ¬ (bO b ≠ 0) from fun h => h hc), LT h.size, aW, show bY (bn b) n = bY (bn b) (n.1, n.2) from rfl, Q5 (by omega), aW]
  unfold sG
  cases hx : iz (bn b) n.1 n.2 with
  | none => rfl
  | some j =>
    have := (i8 hx).1
    simp only
    rw [bu (by simp [ilt]), bz (by omega) (by omega), if_neg (by omega)]
 ·rw [bI (by simp [ine, hc]), if_pos hc]
end Go.Proofs.ZzM
end
noncomputable section
namespace Go.Proofs.ZzM
open Go Go.Am
def lL (b : bH) (n : Int × Int) : bH := (b.1, b.2.1, b.2.2.1, b.2.2.2.1, b.2.2.2.2.1, b.2.2.2.2.2 ++ [n])
theorem WM {b : bH} (h : cX b) (n : Int × Int) : jM (lL b n) := by
 have hs := h.size
 have := h.nK
 exact ⟨hs.gauges, hs.uses, hs.loans, hs.compares, by simp [lL]; omega, hs.piles⟩
def Vx (b : bH) (n : Int × Int) : bH × Int := if bO b ≠ 0 then (o8, bO b) else if bO (lL b n) ≠ 0 then (o8, bO (lL b n)) else (lL b n, 0)
theorem aba {b : bH} (h : In b) (n : Int × Int) : iP b n = some (Vx b n) := by
 have hs := h.size
 have h1 := hs.gauges; have h2 := hs.uses; have h3 := hs.loans; have h4 := hs.compares; have h5 := hs.looks
 unfold iP Nt Vx
 rw [gF hs h.num, aW]
 by_cases hc : bO b = 0
 ·have hg := (bS b).1 hc
  rw [bu (by simp [ine, hc]), bw (by omega), Am.iff_true, bw (by omega), Am.iff_true, bw (by omega), Am.iff_true, bw (by omega), Am.iff_true, bw (by omega), Am.iff_true, if_neg (show ¬ (bO b ≠ 0) from fun h => h hc)]
  refine cD b.2.2.2.2.1 (fun _ => b.2.2.2.2.1) _ rfl (fun i d hi hd kn => ?_) (fun kn => ?_)
  ·dsimp only
   unfold rh
   obtain ⟨p1, p2⟩ := hs.piles d (List.mem_of_getElem? hd)
   have e1 : b.2.2.2.2.1.set i d = b.2.2.2.2.1 := by
    obtain ⟨h, rfl⟩ := List.getElem?_eq_some_iff.1 hd
    exact List.set_getElem_self h
   rw [bv hi, gO hi, eJ hd, bw (by omega), Am.iff_true, bw (by omega), Am.iff_true, gO hi, eJ hd, Int.toNat_natCast]
   rw [show (d.1, d.2.1, d.2.2.1, d.2.2.2) = d from rfl, e1, gO hi, qo hd, br hi (by omega)]
   rw [show (d.1, d.2.1, d.2.2.1, d.2.2.2.1, d.2.2.2.2) = d from rfl, e1]
  ·try dsimp only
   unfold rh
   rw [bU]
   dsimp only
   rw [bw (by simp only [List.length_singleton]; omega), Am.iff_true]
   rw [show bZ (b.1, b.2.1, b.2.2.1, b.2.2.2.1, b.2.2.2.2.1, b.2.2.2.2.2 ++ [n]) = bZ (lL b n) from rfl, gF (WM hg n) h.num, aW]
   by_cases hc2 : bO (lL b n) = 0
   ·rw [bu (by simp [ine, hc2]), if_neg (show ¬ (bO (lL b n) ≠ 0) from fun h => h hc2)]
    rfl
   ·rw [bI (by simp [ine, hc2]), if_pos hc2]
    rfl
 ·rw [bI (by simp [ine, hc]), if_pos hc]
  rfl
end Go.Proofs.ZzM
end
noncomputable section
namespace Go.Proofs.ZzM
open Go Go.Am
section
variable {b : bH}
theorem aaB : off b b.2.1.length = (bn b).length := by unfold off bn; rw [List.take_length]
theorem YP : ∀ n, n ≤ b.2.1.length → ∀ j, j < off b n → ∃ (i : Nat) (g : b9) (k : Nat), b.2.1[i]? = some g ∧ k < (bG b g).length ∧ j = off b i + k := by
 intro n
 induction n with
 | zero => intro _ j hj; simp [off] at hj
 | succ n ih =>
   intro hn j hj
   have hg : b.2.1[n]? = some b.2.1[n] := List.getElem?_eq_getElem (by omega)
   rw [YO hg] at hj
   by_cases h : j < off b n
   ·exact ih (by omega) j h
   ·exact ⟨n, _, j - off b n, hg, by omega, by omega⟩
theorem Kr {v : Int} (h0 : 1 ≤ v) (h1 : v < ((bn b).length + 1 : Nat)) : ∃ (i : Nat) (g : b9) (k : Nat), b.2.1[i]? = some g ∧ k < (bG b g).length ∧ v = (off b i : Int) + k + 1 := by
 obtain ⟨i, g, k, h2, h3, h4⟩ := YP (b := b) b.2.1.length (Nat.le_refl _) (v - 1).toNat (by rw [aaB]; omega)
 exact ⟨i, g, k, h2, h3, by omega⟩
def GL (b : bH) (L : List Lk) : Prop := ∀ (i : Nat) (g : b9), b.2.1[i]? = some g → ∀ l ∈ cW b g, l ∈ L
theorem TR : GL b (bC b) := fun i g hg l hl => mu.2 (.inl ⟨i, g, hg, hl⟩)
theorem VS {L : List Lk} (h : cX b) (hL : GL b L) {v : Int} (h0 : 0 ≤ v) (h1 : v < ((bn b).length + 1 : Nat)) : ∃ vs d, Wl L (fun u => u = 0) vs v d ∧ d ≤ 4503599627370496 := by
 by_cases hv : v = 0
 ·exact ⟨[], 0, .nil hv, by omega⟩
 obtain ⟨i, g, k, hg, hk, rfl⟩ := Kr (by omega) h1
 have hr := h.gaugeR (List.mem_of_getElem? hg)
 have r1 := hr.2.2.2.2.2.1
 have r2 := hr.2.2.2.2.2.2.1
 have key : ∀ k : Nat, k < (bG b g).length → ∃ vs, Wl L (fun u => u = 0) vs ((off b i : Int) + k + 1) (g.2.2.1 + g.2.2.2.1.2) := by
  intro k
  induction k with
  | zero =>
    intro _
    have hw : Wl L (fun u => u = 0) [0] ((off b i : Int) + 1) (0 + (g.2.2.1 + g.2.2.2.1.2)) := Wl.step (.nil rfl) (hL i g hg _ ((dq h hg).2 (.inl rfl)))
    rw [Int.zero_add] at hw
    exact ⟨[0], by simpa using hw⟩
  | succ k ih =>
    intro hk
    obtain ⟨vs, hw⟩ := ih (by omega)
    have hw' := Wl.step hw (hL i g hg _ ((dq h hg).2 (.inr (.inr ⟨k, _, _, List.getElem?_eq_getElem (show k < _ by omega), List.getElem?_eq_getElem hk, .inl rfl⟩))))
    rw [Int.add_zero] at hw'
    have e : (off b i : Int) + ((k + 1 : Nat) : Int) + 1 = (off b i : Int) + k + 2 := by push_cast; omega
    exact ⟨_, by rw [e]; exact hw'⟩
 obtain ⟨vs, hw⟩ := key k hk
 exact ⟨vs, _, hw, by omega⟩
theorem Oj {L : List Lk} (h : cX b) (hL : GL b L) {v : Int} (h0 : 0 ≤ v) (h1 : v < ((bn b).length + 1 : Nat)) : ∃ vs d, Wl L (fun u => u = v) vs 0 d ∧ d ≤ 4503599627370496 := by
 by_cases hv : v = 0
 ·exact ⟨[], 0, .nil hv.symm, by omega⟩
 obtain ⟨i, g, k, hg, hk, rfl⟩ := Kr (by omega) h1
 have hgm := List.mem_of_getElem? hg
 have hr := h.gaugeR hgm
 have r1 := hr.2.2.2.2.2.1
 have r2 := hr.2.2.2.2.2.2.1
 have hd := NJ h hgm
 have key : ∀ m : Nat, m ≤ k → ∃ vs d, Wl L (fun u => u = (off b i : Int) + k + 1) vs ((off b i : Int) + (k - m : Nat) + 1) d ∧ d ≤ m * (12 * (20001 * 1048576) + 40 * 1048576) := by
  intro m
  induction m with
  | zero => intro _; exact ⟨[], 0, .nil (by simp), by simp⟩
  | succ m ih =>
    intro hm
    obtain ⟨vs, d, hw, hd⟩ := ih (by omega)
    have e1 : ((k - m : Nat) : Int) = ((k - (m + 1) : Nat) : Int) + 1 := by omega
    have hl : (((off b i : Int) + (k - (m + 1) : Nat) + 2, (off b i : Int) + (k - (m + 1) : Nat) + 1, gy b g ((bG b g)[k - (m + 1)]'(by omega)) ((bG b g)[k - (m + 1) + 1]'(by omega))) : Lk) ∈ L :=
     hL i g hg _ ((dq h hg).2 (.inr (.inr ⟨k - (m + 1), _, _, List.getElem?_eq_getElem (by omega), List.getElem?_eq_getElem (by omega), .inr rfl⟩)))
    have hb := m5 h hgm (f := (bG b g)[k - (m + 1)]'(by omega)) (t := (bG b g)[k - (m + 1) + 1]'(by omega)) (h.day hgm (List.getElem_mem _)).2.1
    have e2 : (off b i : Int) + (k - m : Nat) + 1 = (off b i : Int) + (k - (m + 1) : Nat) + 2 := by omega
    rw [e2] at hw
    exact ⟨_, _, .step hw hl, by push_cast; omega⟩
 obtain ⟨vs, d, hw, hdb⟩ := key k (Nat.le_refl _)
 have e : (off b i : Int) + (k - k : Nat) + 1 = (off b i : Int) + 1 := by omega
 rw [e] at hw
 have hw' := Wl.step hw (hL i g hg _ ((dq h hg).2 (.inr (.inl rfl))))
 exact ⟨_, _, hw', by omega⟩
end
structure Iv (L : List Lk) (N : Nat) : Prop where
 to : ∀ v : Int, 0 ≤ v → v < N → ∃ vs d, Wl L (fun u => u = 0) vs v d ∧ d ≤ 4503599627370496
 from' : ∀ v : Int, 0 ≤ v → v < N → ∃ vs d, Wl L (fun u => u = v) vs 0 d ∧ d ≤ 4503599627370496
theorem cX.tied {b : bH} (h : cX b) : Iv (bC b) ((bn b).length + 1) := ⟨fun v h0 h1 => VS h TR h0 h1, fun v h0 h1 => Oj h TR h0 h1⟩
theorem cX.tiedL {b : bH} {L : List Lk} (h : cX b) (hL : GL b L) : Iv L ((bn b).length + 1) := ⟨fun v h0 h1 => VS h hL h0 h1, fun v h0 h1 => Oj h hL h0 h1⟩
section
variable {L : List Lk} {N : Nat}
theorem Wm {L : List Lk} {s : Int} {vs : List Int} {v d : Int} : Wl L (fun v => Wn s v = true) vs v d ↔ Wl L (fun u => u = s) vs v d :=
 ⟨fun h => h.mono fun u hu => by simpa [Wn] using hu, fun h => h.mono fun u hu => by simpa [Wn] using hu⟩
theorem ST (h : gP L N) (ho : d9 L N = true) {v : Int} (h0 : 0 ≤ v) (h1 : v < N) : gv (oZ L N v) v = 0 := by
 have h2 := h.n60
 obtain ⟨p, hp⟩ := (gI h.links (by omega)).1 ho
 have hd := kF h.links (by omega) hp (s := v) ⟨h0, h1⟩
 have h3 := hd.low v [] 0 (.nil (by simp [Wn]))
 obtain ⟨vs, hw⟩ := hd.att v h0 h1 (by unfold gc; omega)
 obtain ⟨s, hs, hx⟩ := (Wm.1 hw).pot hp
 subst hs
 omega
end
theorem Vq {b : bH} : ∀ i, i ≤ b.2.2.2.2.1.length → ((b.2.2.2.2.1.take i).flatMap (cp b)).length = 2 * i ∧ (((b.2.2.2.2.1.take i).mapIdx fun i _ => [((3 : Int), (i : Int)), ((3 : Int), (i : Int))]).flatten).length = 2 * i := by
 intro i
 induction i with
 | zero => intro _; simp
 | succ i ih =>
   intro hi
   have ih := ih (by omega)
   have hg : b.2.2.2.2.1[i]? = some b.2.2.2.2.1[i] := List.getElem?_eq_getElem hi
   rw [j8 _ hg, take_succ hg, List.flatMap_append, List.flatten_append, List.length_append, List.length_append]
   simp only [List.flatMap_cons, List.flatMap_nil, List.append_nil, List.flatten_cons, List.flatten_nil, cp, List.length_cons, List.length_nil]
   omega
end Go.Proofs.ZzM
end
noncomputable section
namespace Go.Proofs.ZzM
open Go Go.Am
section
variable {L : List Lk} {N : Nat}
theorem A8 (h : gP L N) : cR ((N : Int), L) = some (d9 L N, 0) := by
 have h2 := h.n60
 unfold cR oL
 rw [jP h, aW]
 dsimp only
 rw [bu (by rfl), wT h.links h.n1 (by omega), aW]
 cases d9 L N <;> rfl
end
end Go.Proofs.ZzM
end
noncomputable section
namespace Go.Proofs.ZzM
open Go Go.Am
def mE (b : bH) (n : Int × Int) : bH × Int := if sG b n.1 n.2 ≠ 0 then (b, 0) else if bO (lL b n) ≠ 0 then (o8, bO (lL b n)) else (lL b n, 0)
def gq : bH → List (Int × Int) → bH × Int
 | b, [] => (b, 0)
 | b, n :: t => if (mE b n).2 ≠ 0 then (o8, (mE b n).2) else gq (mE b n).1 t
def dg (b : bH) (ns : List (Int × Int)) : bH × Int :=
 if bO b ≠ 0 then (o8, bO b) else if (gq b ns).2 ≠ 0 then (o8, (gq b ns).2) else
 if d9 (bC (gq b ns).1) ((bn (gq b ns).1).length + 1) then ((gq b ns).1, 0) else (o8, 9)
theorem On {b : bH} (h : cX b) {n : Int × Int} (e : (mE b n).2 = 0) : cX (mE b n).1 := by
 unfold mE at e ⊢
 split
 ·exact h
 ·rename_i h1
  rw [if_neg h1] at e
  split
  ·rename_i h2
   rw [if_pos h2] at e
   exact absurd e h2
  ·rename_i h2
   exact (bS _).1 (by simpa using h2)
theorem Rk {b : bH} {n : Int × Int} (e : (mE b n).2 = 0) : (mE b n).1.2.1 = b.2.1 := by
 unfold mE at e ⊢
 split
 ·rfl
 ·rename_i h1
  rw [if_neg h1] at e
  split
  ·rename_i h2
   rw [if_pos h2] at e
   exact absurd e h2
  ·rfl
theorem FB : ∀ {ns : List (Int × Int)} {b : bH}, cX b → (gq b ns).2 = 0 → cX (gq b ns).1
 | [], b, h, _ => h
 | n :: t, b, h, e => by
   unfold gq at e ⊢
   split
   ·rename_i h1; rw [if_pos h1] at e; exact absurd e h1
   ·rename_i h1
    rw [if_neg h1] at e
    exact FB (On h (by simpa using h1)) e
theorem qk : ∀ {ns : List (Int × Int)} {b : bH}, (gq b ns).2 = 0 → (gq b ns).1.2.1 = b.2.1
 | [], b, _ => rfl
 | n :: t, b, e => by
   unfold gq at e ⊢
   split
   ·rename_i h1; rw [if_pos h1] at e; exact absurd e h1
   ·rename_i h1
    rw [if_neg h1] at e
    rw [qk e, Rk (by simpa using h1)]
theorem cX.inn {b : bH} (h : cX b) (hn : ∀ g ∈ b.2.1, I64 g.2.2.2.2.1.1) : In b := ⟨h.size, hn⟩
theorem ic {b : bH} (h : cX b) : N5 b = ((((bn b).length : Int) + 1, bC b), fe b, 0) := by
 unfold N5
 rw [if_neg (by simp [(bS b).2 h])]
theorem yb {b : bH} (h : cX b) (n : Int × Int) : Up b n = if sG b n.1 n.2 = 0 then (0, 5) else (sG b n.1 n.2, 0) := by
 unfold Up
 rw [if_neg (by simp [(bS b).2 h])]
abbrev Flat : Type := Int × Int × List b9 × List (Int × Int) × List Ix × List Cmp × List (Int × Int)
def flat (b : bH) : Flat := (b.1.1, b.1.2, b.2.1, b.2.2.1, b.2.2.2.1, b.2.2.2.2.1, b.2.2.2.2.2)
theorem ur (b : bH) : (((flat b).1, (flat b).2.1), (flat b).2.2) = b := rfl
section
variable {ρ : Type}
def aan (ns : List (Int × Int)) (E1 : Int × Flat → Option ρ) (K1 : Flat → Option ρ) (b : bH) : Option ρ :=
 bt (fun (v : Int × Flat) kk => cr (bE ns) ns v.1 v.2.1 v.2.2.1 v.2.2.2.1 v.2.2.2.2.1 v.2.2.2.2.2.1 v.2.2.2.2.2.2.1 v.2.2.2.2.2.2.2 (fun u1 u2 u3 u4 u5 u6 u7 u8 => kk (u1, u2, u3, u4, u5, u6, u7, u8)) (fun z => E1 z) (fun z => K1 z)) ((0 : Int), b.1.1, b.1.2, b.2.1, b.2.2.1, b.2.2.2.1, b.2.2.2.2.1, b.2.2.2.2.2)
theorem V6 {ns : List (Int × Int)} (hl : ns.length ≤ 1000) {E1 : Int × Flat → Option ρ} {K1 : Flat → Option ρ} (R : Int → Option ρ) (h1 : ∀ z, z.1 ≠ 0 → E1 z = R z.1) {b : bH} (hg : cX b) (hn : ∀ g ∈ b.2.1, I64 g.2.2.2.2.1.1) :
 aan ns E1 K1 b = if (gq b ns).2 ≠ 0 then R (gq b ns).2 else K1 (flat (gq b ns).1) := by
 unfold aan
 refine Nw ns (fun (i : Nat) (s : Flat) (t : List (Int × Int)) => if (gq ((s.1, s.2.1), s.2.2) t).2 ≠ 0 then R (gq ((s.1, s.2.1), s.2.2) t).2 else K1 (flat (gq ((s.1, s.2.1), s.2.2) t).1))
  (fun i s => cX ((s.1, s.2.1), s.2.2) ∧ ∀ g ∈ s.2.2.1, I64 g.2.2.2.2.1.1) (fun s hs kn => ?_) (fun i n t s hd hi ha hs kn hk => ?_) (s := flat b) ⟨hg, hn⟩
 ·dsimp only
  unfold cr
  rw [bU]
  rfl
 ·dsimp only
  unfold cr
  obtain ⟨hs1, hs2⟩ := hs
  have hin : In ((s.1, s.2.1), s.2.2) := hs1.inn hs2
  rw [bv hi, gO hi, eJ ha]
  rw [show er ((s.1, s.2.1), s.2.2.1, s.2.2.2.1, s.2.2.2.2.1, s.2.2.2.2.2.1, s.2.2.2.2.2.2) n = er ((s.1, s.2.1), s.2.2) n from rfl, Iy hin, aW]
  rw [show iP ((s.1, s.2.1), s.2.2.1, s.2.2.2.1, s.2.2.2.2.1, s.2.2.2.2.2.1, s.2.2.2.2.2.2) n = iP ((s.1, s.2.1), s.2.2) n from rfl, aba hin, aW]
  rw [yb hs1]
  generalize hB : (((s.1, s.2.1), s.2.2) : bH) = B at hs1 hin ⊢
  have hu : gq B (n :: t) = if (mE B n).2 ≠ 0 then (o8, (mE B n).2) else gq (mE B n).1 t := rfl
  rw [hu]
  by_cases h0 : sG B n.1 n.2 = 0
  ·rw [if_pos h0, bu (by rfl)]
   by_cases h2 : bO (lL B n) = 0
   ·have e : mE B n = (lL B n, 0) := by unfold mE; rw [if_neg (by simp [h0]), if_neg (by simp [h2])]
    have e2 : Vx B n = (lL B n, 0) := by unfold Vx; rw [if_neg (by simp [(bS B).2 hs1]), if_neg (by simp [h2])]
    rw [e2, e, bu (by rfl), br hi (by omega), if_neg (show ¬ ((0 : Int) ≠ 0) by simp)]
    subst hB
    exact hk (s.1, s.2.1, s.2.2.1, s.2.2.2.1, s.2.2.2.2.1, s.2.2.2.2.2.1, s.2.2.2.2.2.2 ++ [n]) ⟨(bS _).1 h2, hs2⟩
   ·have e : mE B n = (o8, bO (lL B n)) := by unfold mE; rw [if_neg (by simp [h0]), if_pos h2]
    have e2 : Vx B n = (o8, bO (lL B n)) := by unfold Vx; rw [if_neg (by simp [(bS B).2 hs1]), if_pos h2]
    rw [e2, e, bI (by simp [ine, h2]), if_pos h2, if_pos h2]
    exact h1 _ h2
  ·have e : mE B n = (B, 0) := by unfold mE; rw [if_pos h0]
   rw [if_neg h0, bI (by rfl), br hi (by omega), e, if_neg (show ¬ ((0 : Int) ≠ 0) by simp)]
   subst hB
   exact hk s ⟨hs1, hs2⟩
theorem qn {b : bH} (hI : In b) {ns : List (Int × Int)} (hl : ns.length ≤ 1000) {E0 : Int → Option ρ} {E1 : Int × Flat → Option ρ} {E2 : Flat → Sys × List (Int × Int) × Int → Option ρ} {E3 : Flat → Sys × List (Int × Int) × Int → Bool × Int → Option ρ}
 {K : Flat → Sys × List (Int × Int) × Int → Bool × Int → Option ρ} (R : Int → Option ρ) (h0 : ∀ e, e ≠ 0 → E0 e = R e) (h1 : ∀ z, z.1 ≠ 0 → E1 z = R z.1) (h3 : ∀ z s r, E3 z s r = R 9) :
 aZ (bZ b) (fun r1 => ifb (ine r1 (0 : Int)) (E0 r1) (aan ns E1 (fun z8 => aZ (dc ((z8.1, z8.2.1), z8.2.2)) fun r9 => ifb (ine r9.2.2 (0 : Int)) (E2 z8 r9) (aZ (cR r9.1) fun r10 => ifb (!r10.1) (E3 z8 r9 r10) (K z8 r9 r10))) b)) =
 if (dg b ns).2 ≠ 0 then R (dg b ns).2 else K (flat (dg b ns).1) ((((bn (dg b ns).1).length : Int) + 1, bC (dg b ns).1), fe (dg b ns).1, 0) (true, 0) := by
 rw [gF hI.size hI.num, aW]
 unfold dg
 by_cases hc : bO b = 0
 ·have hg := (bS b).1 hc
  rw [bu (by simp [ine, hc]), if_neg (show ¬ (bO b ≠ 0) from fun h => h hc), V6 hl R h1 hg hI.num]
  by_cases hr : (gq b ns).2 = 0
  ·rw [if_neg (show ¬ ((gq b ns).2 ≠ 0) from fun h => h hr), if_neg (show ¬ ((gq b ns).2 ≠ 0) from fun h => h hr)]
   have hB := FB hg hr
   have hBn : ∀ g ∈ (gq b ns).1.2.1, I64 g.2.2.2.2.1.1 := by rw [qk hr]; exact hI.num
   generalize (gq b ns).1 = B at hB hBn ⊢
   rw [ur, nr (hB.inn hBn), aW, ic hB, bu (by rfl)]
   dsimp only
   rw [show (((bn B).length : Int) + 1) = (((bn B).length + 1 : Nat) : Int) by push_cast; rfl, A8 hB.sys, aW]
   cases ho : d9 (bC B) ((bn B).length + 1) with
   | true =>
     rw [if_neg (by simp)]
     simp only [Bool.not_true, bX]
     push_cast
     rfl
   | false =>
     rw [if_pos (by simp)]
     simp only [Bool.not_false, ez]
     rw [h3]
     rfl
  ·rw [if_pos hr, if_pos hr, if_pos hr]
 ·rw [bI (by simp [ine, hc]), h0 _ hc, if_pos hc, if_pos hc]
end
end Go.Proofs.ZzM
end
noncomputable section
namespace Go.Proofs.ZzM
open Go Go.Am
def Rh (b : bH) (id day : Int) : Bool := b.2.2.1.any fun u => u.1 == id && u.2 == day
def Xw (b : bH) (g : b9) (d : Int) : Int := match EI b g.1 d with | some l => l.2.2 | none => if Rh b g.1 d then g.2.2.2.2.2 else 0
theorem WP (l : Ix) (id : Int) {f t : Int} (hft : f ≤ t) : (if l.1 = id ∧ 0 < cE l f (t + 1) then cE l f (t + 1) * l.2.2 else 0) = (if l.1 = id ∧ 0 < cE l f t then cE l f t * l.2.2 else 0) + (if l.1 = id ∧ l.2.1.1 ≤ t ∧ t ≤ l.2.1.2 then l.2.2 else 0) := by
 by_cases hid : l.1 = id
 ·by_cases h1 : l.2.1.1 ≤ t ∧ t ≤ l.2.1.2
  ·have e : cE l f (t + 1) = cE l f t + 1 := by unfold cE; omega
   have p : 0 ≤ cE l f t := by unfold cE; omega
   rw [e, if_pos ⟨hid, by omega⟩, if_pos (show l.1 = id ∧ l.2.1.1 ≤ t ∧ t ≤ l.2.1.2 from ⟨hid, h1⟩), Int.add_mul, Int.one_mul]
   by_cases hp : 0 < cE l f t
   ·rw [if_pos ⟨hid, hp⟩]
   ·rw [if_neg (fun h => hp h.2)]
    have : cE l f t = 0 := by omega
    rw [this]
    omega
  ·rw [if_neg (show ¬ (l.1 = id ∧ l.2.1.1 ≤ t ∧ t ≤ l.2.1.2) from fun h => h1 h.2), Int.add_zero]
   by_cases hlo : l.2.1.1 ≤ t
   ·have e : cE l f (t + 1) = cE l f t := by unfold cE; omega
    rw [e]
   ·have p1 : ¬ 0 < cE l f (t + 1) := by unfold cE; omega
    have p2 : ¬ 0 < cE l f t := by unfold cE; omega
    rw [if_neg (fun h => p1 h.2), if_neg (fun h => p2 h.2)]
 ·rw [if_neg (fun h => hid h.1), if_neg (fun h => hid h.1), if_neg (fun h => hid h.1)]
  rfl
theorem KM (id : Int) {f t : Int} (hft : f ≤ t) : ∀ {x : List Ix}, x.Pairwise (fun a c => ¬ (a.1 = c.1 ∧ a.2.1.1 ≤ c.2.1.2 ∧ c.2.1.1 ≤ a.2.1.2)) →
 dl id f (t + 1) x = dl id f t x + (match x.find? (fun l => l.1 == id && inP t l.2.1.1 l.2.1.2) with | some l => l.2.2 | none => 0)
 | [], _ => rfl
 | l :: r, hp => by
   rw [List.pairwise_cons] at hp
   have ih := KM id hft hp.2
   simp only [dl]
   rw [ih, WP l id hft, List.find?_cons]
   by_cases hm : l.1 = id ∧ l.2.1.1 ≤ t ∧ t ≤ l.2.1.2
   ·have e : (l.1 == id && inP t l.2.1.1 l.2.1.2) = true := by simp [inP, hm.1, hm.2.1, hm.2.2]
    have hn : r.find? (fun l => l.1 == id && inP t l.2.1.1 l.2.1.2) = none := by
     rw [List.find?_eq_none]
     intro c hc hcm
     simp only [inP, Bool.and_eq_true, beq_iff_eq, decide_eq_true_eq] at hcm
     exact hp.1 c hc ⟨by rw [hm.1, hcm.1], by omega, by omega⟩
    rw [if_pos hm, e, hn]
    simp only
    omega
   ·have e : (l.1 == id && inP t l.2.1.1 l.2.1.2) = false := by
     rw [Bool.eq_false_iff]
     intro h
     simp only [inP, Bool.and_eq_true, beq_iff_eq, decide_eq_true_eq] at h
     exact hm h
    rw [if_neg hm, e]
    simp only
    omega
section
variable {b : bH}
theorem cX.apart (h : cX b) : b.2.2.2.1.Pairwise (fun a c => ¬ (a.1 = c.1 ∧ a.2.1.1 ≤ c.2.1.2 ∧ c.2.1.1 ≤ a.2.1.2)) := by
 rw [List.pairwise_iff_getElem]
 intro i j hi hj hij ⟨h1, h2, h3⟩
 have hz := h.loans j _ (List.getElem?_eq_getElem hj)
 unfold Sl at hz
 have hany : (b.2.2.2.1.take j).any (fun x => x.1 == b.2.2.2.1[j].1 && (decide (x.2.1.1 ≤ b.2.2.2.1[j].2.1.2) && decide (b.2.2.2.1[j].2.1.1 ≤ x.2.1.2))) = true := by
  rw [List.any_eq_true]
  exact ⟨b.2.2.2.1[i], List.mem_iff_getElem.2 ⟨i, by rw [List.length_take]; omega, by rw [List.getElem_take]⟩, by simp [h1, h2, h3]⟩
 rw [hany] at hz
 (repeat' split at hz) <;> first | omega | simp_all
theorem cX.notUsed (h : cX b) {id d : Int} {l : Ix} (hl : EI b id d = some l) : Rh b id d = false := by
 have hm := List.mem_of_find?_eq_some hl
 have hp := List.find?_some hl
 simp only [inP, Bool.and_eq_true, beq_iff_eq, decide_eq_true_eq] at hp
 obtain ⟨j, hj, rfl⟩ := List.mem_iff_getElem.1 hm
 have hz := h.loans j _ (List.getElem?_eq_getElem hj)
 rw [Bool.eq_false_iff]
 intro hu
 obtain ⟨u, hu, hue⟩ := List.any_eq_true.1 hu
 simp only [Bool.and_eq_true, beq_iff_eq] at hue
 have hany : b.2.2.1.any (fun u => u.1 == b.2.2.2.1[j].1 && inP u.2 b.2.2.2.1[j].2.1.1 b.2.2.2.1[j].2.1.2) = true := by
  rw [List.any_eq_true]
  exact ⟨u, hu, by simp only [inP, Bool.and_eq_true, beq_iff_eq, decide_eq_true_eq]; exact ⟨by rw [hue.1, hp.1], by omega, by omega⟩⟩
 unfold Sl at hz
 rw [hany] at hz
 (repeat' split at hz) <;> first | omega | simp_all
theorem Oc {id f t : Int} (hft : f ≤ t) : Rb (gN b id f (t + 1)) = Rb (gN b id f t) ++ if Rh b id t then [t] else [] := by
 have hm : ∀ t x, x ∈ gN b id f t ↔ Rh b id x = true ∧ f ≤ x ∧ x < t := by
  intro t x
  unfold gN Rh
  simp only [List.mem_map, List.mem_filter, List.any_eq_true, inP, Bool.and_eq_true, beq_iff_eq, decide_eq_true_eq]
  constructor
  ·rintro ⟨u, ⟨h1, h2, h3, h4⟩, rfl⟩
   exact ⟨⟨u, h1, h2, rfl⟩, h3, by omega⟩
  ·rintro ⟨⟨u, h1, h2, rfl⟩, h3, h4⟩
   exact ⟨u, ⟨h1, h2, h3, by omega⟩, rfl⟩
 refine aa4 (Ro _) ?_ fun x => ?_
 ·rw [List.pairwise_append]
  refine ⟨Ro _, by split <;> simp, fun a ha c hc => ?_⟩
  rw [uW, hm] at ha
  split at hc
  ·rw [List.mem_singleton] at hc; omega
  ·cases hc
 ·rw [uW, hm, List.mem_append, uW, hm]
  by_cases hu : Rh b id t = true
  ·rw [if_pos hu, List.mem_singleton]
   constructor
   ·rintro ⟨h1, h2, h3⟩
    by_cases he : x = t
    ·exact .inr he
    ·exact .inl ⟨h1, h2, by omega⟩
   ·rintro (⟨h1, h2, h3⟩ | rfl)
    ·exact ⟨h1, h2, by omega⟩
    ·exact ⟨hu, hft, by omega⟩
  ·rw [if_neg hu]
   constructor
   ·rintro ⟨h1, h2, h3⟩
    refine .inl ⟨h1, h2, ?_⟩
    by_cases he : x = t
    ·rw [he] at h1; exact absurd h1 hu
    ·omega
   ·rintro (⟨h1, h2, h3⟩ | h)
    ·exact ⟨h1, h2, by omega⟩
    ·cases h
theorem Qd (h : cX b) (g : b9) {f t : Int} (hft : f ≤ t) : gy b g f (t + 1) = gy b g f t + Xw b g t := by
 unfold gy Xw
 rw [KM g.1 hft h.apart, Oc hft]
 show dl g.1 f t b.2.2.2.1 + (match EI b g.1 t with | some l => l.2.2 | none => 0) + _ = _
 cases ha : EI b g.1 t with
 | some l =>
   rw [h.notUsed ha]
   simp only [Bool.false_eq_true, if_false, List.append_nil]
   omega
 | none =>
   simp only
   cases Rh b g.1 t with
   | true => simp only [if_true, List.length_append, List.length_singleton, Int.natCast_add, Int.add_mul]; omega
   | false => simp only [Bool.false_eq_true, if_false, List.append_nil]; omega
theorem Qe (g : b9) {f t : Int} (hft : t ≤ f) : gy b g f t = 0 := by
 unfold gy
 have h1 : ∀ x : List Ix, dl g.1 f t x = 0 := by
  intro x
  induction x with
  | nil => rfl
  | cons l r ih =>
    simp only [dl]
    rw [ih, if_neg (by unfold cE; omega)]
    rfl
 have h2 : gN b g.1 f t = [] := by
  unfold gN
  rw [List.filter_eq_nil_iff.2 fun u hu hc => by
   simp only [inP, Bool.and_eq_true, beq_iff_eq, decide_eq_true_eq] at hc
   omega]
  rfl
 rw [h1, h2]
 have h3 : Rb ([] : List Int) = [] := rfl
 rw [h3]
 simp
end
end Go.Proofs.ZzM
end
noncomputable section
namespace Go.Proofs.ZzM
open Go Go.Am
section
variable {b : bH}
theorem EZ (h : cX b) (g : b9) {f t u : Int} (h1 : f ≤ t) (h2 : t ≤ u) : gy b g f u = gy b g f t + gy b g t u := by
 obtain ⟨n, rfl⟩ : ∃ n : Nat, u = t + n := ⟨(u - t).toNat, by omega⟩
 clear h2
 induction n with
 | zero => simp [Qe]
 | succ n ih =>
   have e : t + ((n + 1 : Nat) : Int) = (t + n) + 1 := by omega
   rw [e, Qd h g (show f ≤ t + (n : Int) by omega), Qd h g (show t ≤ t + (n : Int) by omega), ih]
   omega
theorem xM (h : cX b) {g : b9} (hg : g ∈ b.2.1) {f t : Int} (hf : 0 ≤ f) : 0 ≤ gy b g f t := (m5 h hg hf).1
def eS (b : bH) (id d : Int) : Int := match iz (bn b) id d with | some j => (j : Int) + 1 | none => 0
theorem nD (h : cX b) {i : Nat} {g : b9} (hg : b.2.1[i]? = some g) {k : Nat} {d : Int} (hk : (bG b g)[k]? = some d) : eS b g.1 d = (off b i : Int) + k + 1 := by
 unfold eS
 rw [LV h hg hk]
 simp only
 omega
structure nt (b : bH) (p : Int → Int) (g : b9) : Prop where
 hi : p (eS b g.1 g.2.1) ≤ p 0 + (g.2.2.1 + g.2.2.2.1.2)
 lo : p 0 + (g.2.2.1 + g.2.2.2.1.1) ≤ p (eS b g.1 g.2.1)
 down : ∀ d e, d ∈ bG b g → e ∈ bG b g → d ≤ e → p (eS b g.1 e) ≤ p (eS b g.1 d)
 loss : ∀ d e, d ∈ bG b g → e ∈ bG b g → d ≤ e → p (eS b g.1 d) ≤ p (eS b g.1 e) + gy b g d e
theorem l9 (h : cX b) {i : Nat} {g : b9} (hg : b.2.1[i]? = some g) {p : Int → Int} : (∀ l ∈ cW b g, p l.2.1 ≤ p l.1 + l.2.2) ↔ nt b p g := by
 have hgm := List.mem_of_getElem? hg
 obtain ⟨tl, htl⟩ := QJ h hgm
 have h0 : eS b g.1 g.2.1 = (off b i : Int) + 1 := by
  have := nD h hg (k := 0) (d := g.2.1) (by rw [htl]; rfl)
  rw [this]
  omega
 constructor
 ·intro hl
  have e1 := hl _ ((dq h hg).2 (.inl rfl))
  have e2 := hl _ ((dq h hg).2 (.inr (.inl rfl)))
  simp only at e1 e2
  have step : ∀ (k : Nat) (d e : Int), (bG b g)[k]? = some d → (bG b g)[k + 1]? = some e → p (eS b g.1 e) ≤ p (eS b g.1 d) ∧ p (eS b g.1 d) ≤ p (eS b g.1 e) + gy b g d e := by
   intro k d e hd he
   have a1 := hl _ ((dq h hg).2 (.inr (.inr ⟨k, d, e, hd, he, .inl rfl⟩)))
   have a2 := hl _ ((dq h hg).2 (.inr (.inr ⟨k, d, e, hd, he, .inr rfl⟩)))
   simp only at a1 a2
   rw [nD h hg hd, nD h hg he]
   have e3 : (off b i : Int) + ((k + 1 : Nat) : Int) + 1 = (off b i : Int) + k + 2 := by omega
   rw [e3]
   exact ⟨by omega, a2⟩
  have pair : ∀ (n k : Nat) (d e : Int), (bG b g)[k]? = some d → (bG b g)[k + n]? = some e → p (eS b g.1 e) ≤ p (eS b g.1 d) ∧ p (eS b g.1 d) ≤ p (eS b g.1 e) + gy b g d e := by
   intro n
   induction n with
   | zero =>
     intro k d e hd he
     rw [Nat.add_zero, hd] at he
     cases he
     rw [Qe g (Int.le_refl _)]
     omega
   | succ n ih =>
     intro k d e hd he
     have hlt := (List.getElem?_eq_some_iff.1 he).1
     have hm : (bG b g)[k + n]? = some ((bG b g)[k + n]'(by omega)) := List.getElem?_eq_getElem (by omega)
     obtain ⟨a1, a2⟩ := ih k d _ hd hm
     obtain ⟨a3, a4⟩ := step (k + n) _ e hm he
     have o1 : d ≤ (bG b g)[k + n]'(by omega) := by
      obtain ⟨hkl, hkd⟩ := List.getElem?_eq_some_iff.1 hd
      rcases Nat.eq_zero_or_pos n with rfl | hn
      ·rw [← hkd]; exact Int.le_of_eq (by congr 1)
      ·have := (List.pairwise_iff_getElem.1 (xY b g)) k (k + n) hkl (by omega) (by omega)
       rw [hkd] at this; omega
     have o2 : (bG b g)[k + n]'(by omega) ≤ e := by
      obtain ⟨hel, hee⟩ := List.getElem?_eq_some_iff.1 he
      have := (List.pairwise_iff_getElem.1 (xY b g)) (k + n) (k + (n + 1)) (by omega) hel (by omega)
      rw [hee] at this; omega
     have := EZ h g o1 o2
     omega
  have any : ∀ d e, d ∈ bG b g → e ∈ bG b g → d ≤ e → p (eS b g.1 e) ≤ p (eS b g.1 d) ∧ p (eS b g.1 d) ≤ p (eS b g.1 e) + gy b g d e := by
   intro d e hd he hde
   obtain ⟨k, hk, rfl⟩ := List.mem_iff_getElem.1 hd
   obtain ⟨m, hm, rfl⟩ := List.mem_iff_getElem.1 he
   have hkm : k ≤ m := by
    rcases Nat.lt_or_ge m k with hlt | hge
    ·have := (List.pairwise_iff_getElem.1 (xY b g)) m k hm hk hlt; omega
    ·exact hge
   exact pair (m - k) k _ _ (List.getElem?_eq_getElem hk) (by rw [show k + (m - k) = m by omega]; exact List.getElem?_eq_getElem hm)
  exact ⟨by rw [h0]; omega, by rw [h0]; omega, fun d e hd he hde => (any d e hd he hde).1, fun d e hd he hde => (any d e hd he hde).2⟩
 ·intro hf l hl
  rcases (dq h hg).1 hl with rfl | rfl | ⟨k, d, e, hd, he, rfl | rfl⟩
  ·have := hf.hi; rw [h0] at this; simp only; omega
  ·have := hf.lo; rw [h0] at this; simp only; omega
  ·have hde : d ≤ e := by
    obtain ⟨a1, a2⟩ := List.getElem?_eq_some_iff.1 hd
    obtain ⟨a3, a4⟩ := List.getElem?_eq_some_iff.1 he
    have := (List.pairwise_iff_getElem.1 (xY b g)) k (k + 1) a1 a3 (by omega)
    rw [a2, a4] at this; omega
   have := hf.down d e (List.mem_of_getElem? hd) (List.mem_of_getElem? he) hde
   rw [nD h hg hd, nD h hg he] at this
   have e3 : (off b i : Int) + ((k + 1 : Nat) : Int) + 1 = (off b i : Int) + k + 2 := by omega
   rw [e3] at this
   simp only
   omega
  ·have hde : d ≤ e := by
    obtain ⟨a1, a2⟩ := List.getElem?_eq_some_iff.1 hd
    obtain ⟨a3, a4⟩ := List.getElem?_eq_some_iff.1 he
    have := (List.pairwise_iff_getElem.1 (xY b g)) k (k + 1) a1 a3 (by omega)
    rw [a2, a4] at this; omega
   have := hf.loss d e (List.mem_of_getElem? hd) (List.mem_of_getElem? he) hde
   rw [nD h hg hd, nD h hg he] at this
   have e3 : (off b i : Int) + ((k + 1 : Nat) : Int) + 1 = (off b i : Int) + k + 2 := by omega
   rw [e3] at this
   simp only
   exact this
theorem LG (h : cX b) {p : Int → Int} : Pot (bC b) p ↔ (∀ g ∈ b.2.1, nt b p g) ∧ ∀ c ∈ b.2.2.2.2.1, p (cx b c) ≤ p (cy b c) + (fR b c).2 ∧ p (cy b c) + (fR b c).1 ≤ p (cx b c) := by
 constructor
 ·intro hp
  refine ⟨fun g hg => ?_, fun c hc => ?_⟩
  ·obtain ⟨i, hi, rfl⟩ := List.mem_iff_getElem.1 hg
   exact (l9 h (List.getElem?_eq_getElem hi)).1 fun l hl => hp l.1 l.2.1 l.2.2 (mu.2 (.inl ⟨i, _, List.getElem?_eq_getElem hi, hl⟩))
  ·have a1 := hp _ _ _ (mu.2 (.inr ⟨c, hc, .inl rfl⟩))
   have a2 := hp _ _ _ (mu.2 (.inr ⟨c, hc, .inr rfl⟩))
   omega
 ·rintro ⟨hg, hc⟩ u v m hl
  rcases mu.1 hl with ⟨i, g, hig, hl⟩ | ⟨c, hcm, hl⟩
  ·exact (l9 h hig).2 (hg g (List.mem_of_getElem? hig)) (u, v, m) hl
  ·obtain ⟨a1, a2⟩ := hc c hcm
   rcases hl with hl | hl
   ·obtain ⟨rfl, rfl, rfl⟩ : u = cy b c ∧ v = cx b c ∧ m = (fR b c).2 := by simpa using hl
    exact a1
   ·obtain ⟨rfl, rfl, rfl⟩ : u = cx b c ∧ v = cy b c ∧ m = -(fR b c).1 := by simpa using hl
    omega
end
end Go.Proofs.ZzM
end
noncomputable section
namespace Go.Proofs.ZzM
open Go Go.Am
def Z0 : List Int → Int
 | [] => 0
 | [a] => a
 | a :: b :: t => max a (Z0 (b :: t))
theorem Pg : ∀ {l : List Int}, l ≠ [] → (∀ a ∈ l, a ≤ Z0 l) ∧ Z0 l ∈ l
 | [], h => absurd rfl h
 | [a], _ => ⟨fun x hx => by rw [List.mem_singleton] at hx; rw [hx]; exact Int.le_refl _, by simp [Z0]⟩
 | a :: b :: t, _ => by
   obtain ⟨h1, h2⟩ := Pg (l := b :: t) (by simp)
   have e : Z0 (a :: b :: t) = max a (Z0 (b :: t)) := rfl
   rw [e]
   constructor
   ·intro x hx
    rcases List.mem_cons.1 hx with rfl | hx
    ·omega
    ·have := h1 x hx; omega
   ·rcases Int.le_total a (Z0 (b :: t)) with h | h
    ·rw [Int.max_eq_right h]; exact List.mem_cons_of_mem _ h2
    ·rw [Int.max_eq_left h]; exact List.mem_cons_self
section
variable {b : bH}
def IJ (b : bH) (f : Int → Int → Int) (z : Int) (v : Int) : Int := if v = 0 then z else match (bn b)[(v - 1).toNat]? with | some n => f n.1 n.2 | none => 0
theorem kR (f : Int → Int → Int) (z : Int) : IJ b f z 0 = z := by unfold IJ; rw [if_pos rfl]
theorem sP (h : cX b) (f : Int → Int → Int) (z : Int) {g : b9} (hg : g ∈ b.2.1) {d : Int} (hd : d ∈ bG b g) : IJ b f z (eS b g.1 d) = f g.1 d := by
 obtain ⟨i, hi, rfl⟩ := List.mem_iff_getElem.1 hg
 obtain ⟨k, hk, rfl⟩ := List.mem_iff_getElem.1 hd
 have hgi := List.getElem?_eq_getElem hi
 have hdk := List.getElem?_eq_getElem hk
 rw [nD h hgi hdk]
 unfold IJ
 have e : ((off b i : Int) + k + 1 - 1).toNat = off b i + k := by omega
 rw [if_neg (by omega), e, YQ hgi hdk]
def EH (b : bH) (l : List Int) (d : Int) : Int := match l with | [] => 0 | x :: _ => eS b x d
theorem Uh (l : List Int) (d : Int) : atP (bn b) l d = EH b l d := by
 unfold atP EH eS
 cases l <;> rfl
theorem CF (c : Cmp) : cx b c = EH b (cw c.2.2.1 c.2.2.2.1) c.2.1 := Uh _ _
theorem CE (c : Cmp) : cy b c = EH b (cw c.2.2.2.1 c.2.2.1) c.2.1 := Uh _ _
theorem l8 (h : cX b) {c : Cmp} (hc : c ∈ b.2.2.2.2.1) {x : Int} (hx : x ∈ cw c.2.2.1 c.2.2.2.1 ∨ x ∈ cw c.2.2.2.1 c.2.2.1) : ∃ g ∈ b.2.1, g.1 = x ∧ c.2.1 ∈ bG b g := by
 have hx' : (x ∈ c.2.2.1 ∧ x ∉ c.2.2.2.1) ∨ (x ∈ c.2.2.2.1 ∧ x ∉ c.2.2.1) := by
  rcases hx with hx | hx
  ·exact .inl (lm.1 hx)
  ·exact .inr (lm.1 hx)
 have hm : x ∈ c.2.2.1 ++ c.2.2.2.1 := by rw [List.mem_append]; exact hx'.imp (·.1) (·.1)
 obtain ⟨⟨g, hg, _⟩, _⟩ := h.pile hc hm
 obtain ⟨hgm, hid⟩ := jd hg
 refine ⟨g, hgm, hid, lu.2 (.inr (.inl ⟨c, hc, ?_, rfl⟩))⟩
 rw [hid]
 intro he
 rw [Bool.eq_iff_iff, List.contains_iff_mem, List.contains_iff_mem] at he
 rcases hx' with ⟨a, e⟩ | ⟨a, e⟩
 ·exact e (he.1 a)
 ·exact e (he.2 a)
def fill (b : bH) (p : Int → Int) (g : b9) (d : Int) : Int := Z0 ((bG b g).map fun e => if d ≤ e then p (eS b g.1 e) else p (eS b g.1 e) - gy b g e d)
theorem HK {p : Int → Int} {g : b9} (d : Int) : (∀ e ∈ bG b g, (if d ≤ e then p (eS b g.1 e) else p (eS b g.1 e) - gy b g e d) ≤ fill b p g d) ∧ ∃ e ∈ bG b g, fill b p g d = if d ≤ e then p (eS b g.1 e) else p (eS b g.1 e) - gy b g e d := by
 have hne : ((bG b g).map fun e => if d ≤ e then p (eS b g.1 e) else p (eS b g.1 e) - gy b g e d) ≠ [] := by
  intro h
  have := List.map_eq_nil_iff.1 h
  have h2 := kP (b := b) g
  rw [this] at h2
  cases h2
 obtain ⟨h1, h2⟩ := Pg hne
 refine ⟨fun e he => h1 _ (List.mem_map.2 ⟨e, he, rfl⟩), ?_⟩
 obtain ⟨e, he, hx⟩ := List.mem_map.1 h2
 exact ⟨e, he, hx.symm⟩
theorem E7 (h : cX b) {p : Int → Int} {g : b9} (hg : g ∈ b.2.1) (hf : nt b p g) {d : Int} (hd : d ∈ bG b g) : fill b p g d = p (eS b g.1 d) := by
 obtain ⟨h1, e, he, h2⟩ := HK (b := b) (p := p) (g := g) d
 have h3 := h1 d hd
 rw [if_pos (Int.le_refl _)] at h3
 have h4 : fill b p g d ≤ p (eS b g.1 d) := by
  rw [h2]
  split
  ·rename_i hde
   exact hf.down d e hd he hde
  ·rename_i hde
   have := hf.loss e d he hd (by omega)
   omega
 omega
theorem AB (h : cX b) {p : Int → Int} {g : b9} (hg : g ∈ b.2.1) (hf : nt b p g) {d e : Int} (h0 : g.2.1 ≤ d) (hde : d ≤ e) : fill b p g e ≤ fill b p g d ∧ fill b p g d ≤ fill b p g e + gy b g d e := by
 obtain ⟨a1, x, hx, a2⟩ := HK (b := b) (p := p) (g := g) d
 obtain ⟨b1, y, hy, b2⟩ := HK (b := b) (p := p) (g := g) e
 have hm := (h.gaugeR hg).2.2.2.2.1
 have hl := xM h hg (f := d) (t := e) (by omega)
 have dx := h.day hg hx
 have dy := h.day hg hy
 constructor
 ·have q := a1 y hy
  rw [b2]
  by_cases c1 : e ≤ y
  ·rw [if_pos c1]
   rw [if_pos (by omega)] at q
   exact q
  ·rw [if_neg c1]
   by_cases c2 : d ≤ y
   ·rw [if_pos c2] at q
    have := xM h hg (f := y) (t := e) dy.2.1
    omega
   ·rw [if_neg c2] at q
    have := EZ h g (f := y) (t := d) (u := e) (by omega) hde
    omega
 ·have q := b1 x hx
  rw [a2]
  by_cases c1 : d ≤ x
  ·rw [if_pos c1]
   by_cases c2 : e ≤ x
   ·rw [if_pos c2] at q
    omega
   ·rw [if_neg c2] at q
    have := EZ h g (f := d) (t := x) (u := e) c1 (by omega)
    have := xM h hg (f := d) (t := x) (by omega)
    omega
  ·rw [if_neg c1]
   rw [if_neg (by omega)] at q
   have := EZ h g (f := x) (t := d) (u := e) (by omega) hde
   omega
end
end Go.Proofs.ZzM
end
noncomputable section
namespace Go.Proofs.ZzM
open Go Go.Am
section
variable {b : bH} {c : Cmp}
theorem Sv : bV (bK b c) = (bK b c).2.1.flatMap (cW (bK b c)) ++ b.2.2.2.2.1.flatMap (cp (bK b c)) := by
 unfold bV
 have e : bC (bK b c) = ((bK b c).2.1.flatMap (cW (bK b c)) ++ b.2.2.2.2.1.flatMap (cp (bK b c))) ++ cp (bK b c) c := by
  unfold bC
  rw [show (bK b c).2.2.2.2.1 = b.2.2.2.2.1 ++ [c] from rfl, List.flatMap_append, List.append_assoc]
  simp
 rw [e, List.length_append, show (cp (bK b c) c).length = 2 from rfl, Nat.add_sub_cancel, List.take_left]
theorem E6 (h' : cX (bK b c)) {p : Int → Int} : Pot (bV (bK b c)) p ↔ (∀ g ∈ b.2.1, nt (bK b c) p g) ∧ ∀ d ∈ b.2.2.2.2.1, p (cx (bK b c) d) ≤ p (cy (bK b c) d) + (fR b d).2 ∧ p (cy (bK b c) d) + (fR b d).1 ≤ p (cx (bK b c) d) := by
 rw [Sv]
 constructor
 ·intro hp
  refine ⟨fun g hg => ?_, fun d hd => ?_⟩
  ·obtain ⟨i, hi, rfl⟩ := List.mem_iff_getElem.1 hg
   exact (l9 h' (i := i) (List.getElem?_eq_getElem hi)).1 fun l hl => hp l.1 l.2.1 l.2.2 (List.mem_append.2 (.inl (List.mem_flatMap.2 ⟨_, List.getElem_mem hi, hl⟩)))
  ·have a1 := hp (cy (bK b c) d) (cx (bK b c) d) (fR (bK b c) d).2 (List.mem_append.2 (.inr (List.mem_flatMap.2 ⟨d, hd, by simp [cp]⟩)))
   have a2 := hp (cx (bK b c) d) (cy (bK b c) d) (-(fR (bK b c) d).1) (List.mem_append.2 (.inr (List.mem_flatMap.2 ⟨d, hd, by simp [cp]⟩)))
   have e : fR (bK b c) d = fR b d := rfl
   rw [e] at a1 a2
   omega
 ·rintro ⟨hg, hc⟩ u v m hl
  rcases List.mem_append.1 hl with hl | hl
  ·obtain ⟨g, hgm, hl⟩ := List.mem_flatMap.1 hl
   obtain ⟨i, hi, rfl⟩ := List.mem_iff_getElem.1 hgm
   exact (l9 h' (i := i) (List.getElem?_eq_getElem hi)).2 (hg _ hgm) (u, v, m) hl
  ·obtain ⟨d, hd, hl⟩ := List.mem_flatMap.1 hl
   obtain ⟨a1, a2⟩ := hc d hd
   have e : fR (bK b c) d = fR b d := rfl
   simp only [cp, List.mem_cons, List.not_mem_nil, or_false, e] at hl
   rcases hl with hl | hl
   ·obtain ⟨rfl, rfl, rfl⟩ : u = cy (bK b c) d ∧ v = cx (bK b c) d ∧ m = (fR b d).2 := by simpa using hl
    exact a1
   ·obtain ⟨rfl, rfl, rfl⟩ : u = cx (bK b c) d ∧ v = cy (bK b c) d ∧ m = -(fR b d).1 := by simpa using hl
    omega
theorem qe {g : b9} {d : Int} (hd : d ∈ bG b g) : d ∈ bG (bK b c) g := by
 rcases lu.1 hd with e | ⟨x, hx, h1, h2⟩ | hn
 ·exact lu.2 (.inl e)
 ·exact lu.2 (.inr (.inl ⟨x, List.mem_append.2 (.inl hx), h1, h2⟩))
 ·exact lu.2 (.inr (.inr hn))
theorem WI (g : b9) (f t : Int) : gy (bK b c) g f t = gy b g f t := rfl
theorem CO {b' : bH} (h' : cX b') {l : List Int} {day : Int} (f : Int → Int → Int) (z : Int) (hl : ∀ x ∈ l, ∃ g ∈ b'.2.1, g.1 = x ∧ day ∈ bG b' g) : IJ b' f z (EH b' l day) = match l with | [] => z | x :: _ => f x day := by
 unfold EH
 cases l with
 | nil => exact kR f z
 | cons x t =>
   obtain ⟨g, hg, rfl, hd⟩ := hl x (by simp)
   exact sP h' f z hg hd
theorem Wj (h : cX b) (h' : cX (bK b c)) : (∃ p, Pot (bC b) p) ↔ ∃ p, Pot (bV (bK b c)) p := by
 constructor
 ·rintro ⟨p, hp⟩
  obtain ⟨hg, hc⟩ := (LG h).1 hp
  let f : Int → Int → Int := fun id d => match iB b id with | some g => fill b p g d | none => 0
  have hfv : ∀ g ∈ b.2.1, ∀ d, f g.1 d = fill b p g d := fun g hgm d => by
   show (match iB b g.1 with | some g => fill b p g d | none => 0) = _
   rw [xQ h.ids hgm]
  have hq : ∀ g ∈ b.2.1, ∀ d ∈ bG (bK b c) g, IJ (bK b c) f (p 0) (eS (bK b c) g.1 d) = fill b p g d := fun g hgm d hd => by
   rw [sP h' f (p 0) hgm hd, hfv g hgm d]
  refine ⟨IJ (bK b c) f (p 0), (E6 h').2 ⟨fun g hgm => ?_, fun d hd => ?_⟩⟩
  ·have gf := hg g hgm
   have hmade : g.2.1 ∈ bG b g := kP g
   have e0 := hq g hgm g.2.1 (kP g)
   rw [E7 h hgm gf hmade] at e0
   refine ⟨?_, ?_, fun x y hx hy hxy => ?_, fun x y hx hy hxy => ?_⟩
   ·rw [e0, kR]; exact gf.hi
   ·rw [e0, kR]; exact gf.lo
   ·rw [hq g hgm x hx, hq g hgm y hy]
    exact (AB h hgm gf (h'.day hgm hx).1 hxy).1
   ·rw [hq g hgm x hx, hq g hgm y hy, WI]
    exact (AB h hgm gf (h'.day hgm hx).1 hxy).2
  ·have key : ∀ l : List Int, (∀ x ∈ l, ∃ g ∈ b.2.1, g.1 = x ∧ d.2.1 ∈ bG b g) → IJ (bK b c) f (p 0) (EH (bK b c) l d.2.1) = p (EH b l d.2.1) := by
    intro l hl
    rw [CO h' f (p 0) (fun x hx => by obtain ⟨g, q1, q2, q3⟩ := hl x hx; exact ⟨g, q1, q2, qe q3⟩)]
    cases l with
    | nil => rfl
    | cons x t =>
      obtain ⟨g, q1, rfl, q3⟩ := hl x (by simp)
      show f g.1 d.2.1 = p (eS b g.1 d.2.1)
      rw [hfv g q1, E7 h q1 (hg g q1) q3]
   rw [CF, CE, key _ (fun x hx => l8 h hd (.inl hx)), key _ (fun x hx => l8 h hd (.inr hx)), ← CF, ← CE]
   exact hc d hd
 ·rintro ⟨p, hp⟩
  obtain ⟨hg, hc⟩ := (E6 h').1 hp
  let f : Int → Int → Int := fun id d => p (eS (bK b c) id d)
  have hq : ∀ g ∈ b.2.1, ∀ d ∈ bG b g, IJ b f (p 0) (eS b g.1 d) = p (eS (bK b c) g.1 d) := fun g hgm d hd => sP h f (p 0) hgm hd
  refine ⟨IJ b f (p 0), (LG h).2 ⟨fun g hgm => ?_, fun d hd => ?_⟩⟩
  ·have gf := hg g hgm
   have e0 := hq g hgm g.2.1 (kP g)
   refine ⟨?_, ?_, fun x y hx hy hxy => ?_, fun x y hx hy hxy => ?_⟩
   ·rw [e0, kR]; exact gf.hi
   ·rw [e0, kR]; exact gf.lo
   ·rw [hq g hgm x hx, hq g hgm y hy]
    exact gf.down x y (qe hx) (qe hy) hxy
   ·rw [hq g hgm x hx, hq g hgm y hy]
    exact gf.loss x y (qe hx) (qe hy) hxy
  ·have key : ∀ l : List Int, (∀ x ∈ l, ∃ g ∈ b.2.1, g.1 = x ∧ d.2.1 ∈ bG b g) → IJ b f (p 0) (EH b l d.2.1) = p (EH (bK b c) l d.2.1) := by
    intro l hl
    rw [CO h f (p 0) hl]
    cases l <;> rfl
   rw [CF, CE, key _ (fun x hx => l8 h hd (.inl hx)), key _ (fun x hx => l8 h hd (.inr hx)), ← CF, ← CE]
   exact hc d hd
end
end Go.Proofs.ZzM
end