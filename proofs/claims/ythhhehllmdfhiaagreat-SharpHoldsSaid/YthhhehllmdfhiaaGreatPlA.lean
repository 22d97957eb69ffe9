/- lemmas -/
import Derived.Test.YthhhehllmdfhiaaGreatAmF
import Derived.Test.YthhhehllmdfhiaaGreatMdTA
set_option linter.all false
set_option linter.unusedSectionVars false
set_option linter.unusedVariables false
set_option linter.unusedSimpArgs false
noncomputable section
namespace Go.Am
section
variable {ρ : Type}
def fw {α β : Type} (e : Nat → α → Option β) : Nat → List α → Option β
 | _, [] => none
 | i, a :: t => match e i a with
   | some b => some b
   | none => fw e (i + 1) t
theorem qq {α β : Type} (l : List α) (e : Nat → α → Option β) (k0 : β → Option ρ) (k1 : Option ρ) {f : Int → (Int → Option ρ) → Option ρ}
 (h : ∀ (i : Nat) (a : α), i < l.length → l[i]? = some a → ∀ kn, f i kn = match e i a with | some b => k0 b | none => kn ((i : Int) + 1))
 (hn : ∀ kn, f l.length kn = k1) : bw f 0 = match fw e 0 l with | some b => k0 b | none => k1 := by
 refine Yq l (fun i t => match fw e i t with | some b => k0 b | none => k1) hn fun i a t hd hi ha kn hk => ?_
 rw [h i a hi ha kn, hk, fw]
 cases e i a <;> rfl
theorem cI {α σ : Type} (l : List α) (g : Nat → σ) (r : Option ρ) {f : Int × σ → (Int × σ → Option ρ) → Option ρ} {s0 : σ} (h0 : g 0 = s0)
 (h : ∀ (i : Nat) (a : α), i < l.length → l[i]? = some a → ∀ kn, f (i, g i) kn = kn ((i : Int) + 1, g (i + 1)))
 (hn : ∀ kn, f (l.length, g l.length) kn = r) : bw f (0, s0) = r := by
 subst h0
 have hs : ∀ s, (s = g 0) → bw f (0, s) = r := fun s e => F8 l (fun _ _ _ => r) (fun i s => s = g i) (fun s hs kn => by rw [hs]; exact hn kn) (fun i a t s hd hi ha hI kn hk => by
  rw [hI, h i a hi ha kn]; exact hk _ rfl) e
 exact hs _ rfl
theorem bv {i n : Nat} (h : i < n) (hn : n ≤ 1000000000) (f : Int → Option ρ) : ck ((i : Int) + 1) f = f ((i : Int) + 1) := bG (by omega) (by omega) f
theorem ifb_lt {i n : Nat} (h : i < n) (x y : Option ρ) : ifb (ilt (i : Int) (Z0 n)) x y = x := by simp [dA, G0, h]
theorem bX (n : Nat) (x y : Option ρ) : ifb (ilt (n : Int) (Z0 n)) x y = y := by simp [dA, G0]
theorem bC {α : Type} {l : List α} {i : Nat} (h : i < l.length) (x y : Option ρ) : ifb (ilt (i : Int) (bK l)) x y = x := ifb_lt h x y
theorem I4 {α : Type} (p : α → Bool) : ∀ (i : Nat) (l : List α), fw (fun i a => bif p a then some (i : Int) else none) i l = (l.findIdx? p).map fun j => ((i + j : Nat) : Int)
 | _, [] => rfl
 | i, a :: t => by
   simp only [fw, List.findIdx?_cons]
   cases hp : p a with
   | true => simp
   | false =>
     simp only [cond_false, Bool.false_eq_true, if_false]
     rw [I4 p (i + 1) t]
     cases t.findIdx? p with
     | none => rfl
     | some j => simp only [Option.map_some]; congr 1; omega
theorem kK {α β : Type} {e : Nat → α → Option β} : ∀ {i : Nat} {l : List α}, fw e i l = none ↔ ∀ j a, l[j]? = some a → e (i + j) a = none
 | _, [] => by simp [fw]
 | i, a :: t => by
   simp only [fw]
   constructor
   ·intro h j b hb
    cases he : e i a with
    | some c => rw [he] at h; cases h
    | none =>
      rw [he] at h
      cases j with
      | zero => simp at hb; subst hb; simpa using he
      | succ j => have := (kK.1 h) j b (by simpa using hb); rw [← this]; congr 1; omega
   ·intro h
    have h0 := h 0 a (by simp)
    simp only [Nat.add_zero] at h0
    rw [h0]
    exact kK.2 fun j b hb => by have := h (j + 1) b (by simpa using hb); rw [← this]; congr 1; omega
theorem take_succ {α : Type} {l : List α} {i : Nat} {a : α} (h : l[i]? = some a) : l.take (i + 1) = l.take i ++ [a] := by rw [List.take_succ, h]; rfl
end
end Go.Am
end
noncomputable section
namespace Go.Proofs.ZzM
open Go Go.Am
section
variable {ρ : Type}
theorem fK {τ : Type} {f : τ → (τ → Option ρ) → Option ρ} {r : Option ρ} (I : τ → Prop) (μ : τ → Nat)
 (h : ∀ x, I x → (∀ kn, f x kn = r) ∨ ∃ y, I y ∧ μ y < μ x ∧ ∀ kn, f x kn = kn y) {x : τ} (hx : I x) : bw f x = r :=
 qr (F := fun _ => r) I μ (fun x hx kn hk => by
  rcases h x hx with h1 | ⟨y, h1, h2, h3⟩
  ·exact h1 kn
  ·rw [h3, hk y h1 h2]) hx
theorem iq {α : Type} (l : List α) (p : α → Bool) (k0 : Int → Option ρ) (k1 : Option ρ) {f : Int → (Int → Option ρ) → Option ρ}
 (h : ∀ (i : Nat) (a : α), i < l.length → l[i]? = some a → ∀ kn, f i kn = if p a then k0 i else kn ((i : Int) + 1))
 (hn : ∀ kn, f l.length kn = k1) : bw f 0 = match l.findIdx? p with | some j => k0 j | none => k1 := by
 rw [qq l (fun i a => bif p a then some (i : Int) else none) k0 k1 (fun i a hi ha kn => by rw [h i a hi ha kn]; cases p a <;> rfl) hn, I4]
 cases l.findIdx? p with
 | none => rfl
 | some j => simp
theorem gK {α : Type} (l : List α) (p : α → Bool) (k0 : Int → Option ρ) (K k1 : Option ρ) {f : Int → (Int → Option ρ) → Option ρ} (hK : ∀ j : Nat, k0 j = K)
 (h : ∀ (i : Nat) (a : α), i < l.length → l[i]? = some a → ∀ kn, f i kn = if p a then k0 i else kn ((i : Int) + 1))
 (hn : ∀ kn, f l.length kn = k1) : bw f 0 = if l.any p then K else k1 := by
 rw [iq l p k0 k1 h hn]
 cases hf : l.findIdx? p with
 | none =>
   have : l.any p = false := by
    rw [List.any_eq_false]
    intro x hx
    have := List.findIdx?_eq_none_iff.1 hf x hx
    simp [this]
   simp [this]
 | some j =>
   have : l.any p = true := by
    have := List.findIdx?_eq_some_iff_getElem.1 hf
    obtain ⟨hj, hp, _⟩ := this
    exact List.any_eq_true.2 ⟨_, List.getElem_mem hj, hp⟩
   simp [this, hK]
end
abbrev cg : Type := Int × Int × Int × (Int × Int) × ((Int × Int) × Int)
abbrev Gk : Type := Int × ((Int × Int) × Int)
abbrev Cmp : Type := Int × Int × List Int × List Int × Int × (Int × (Int × Int))
abbrev bH : Type := (Int × Int) × List cg × List (Int × Int) × List Gk × List Cmp × List (Int × Int)
abbrev Sys : Type := Int × List (Int × Int × Int)
abbrev Maker : Type := bH × List (Int × Int) × Sys × List (Int × Int)
section
variable {ρ : Type}
theorem bI {b : Bool} (h : b = true) (x y : Option ρ) : ifb b x y = x := by rw [h]; rfl
theorem bz {b : Bool} (h : b = false) (x y : Option ρ) : ifb b x y = y := by rw [h]; rfl
end
def I64 (n : Int) : Prop := -9223372036854775808 ≤ n ∧ n ≤ 9223372036854775807
def inP (n lo hi : Int) : Bool := decide (lo ≤ n) && decide (n ≤ hi)
def Ui (n : Int) : Bool := inP n 0 20000
def nY (s : Int × Int) (lo hi : Int) : Bool := decide (lo ≤ s.1) && (decide (s.1 ≤ s.2) && decide (s.2 ≤ hi))
theorem fH (n lo hi : Int) : cE n lo hi = some (inP n lo hi) := by
 unfold cE C0 inP ile
 cases decide (lo ≤ n) <;> rfl
theorem O3 (n : Int) : lO n = some (Ui n) := by
 unfold lO Iz
 rw [fH]; rfl
theorem Br (s : Int × Int) (lo hi : Int) : fG s lo hi = some (nY s lo hi) := by
 unfold fG C7 nY ile
 cases decide (lo ≤ s.1) <;> cases decide (s.1 ≤ s.2) <;> rfl
theorem MS {n : Int} (h : I64 n) : oR n = some (n.natAbs : Int) := by
 obtain ⟨h1, h2⟩ := h
 unfold oR Ob
 by_cases hn : n < 0
 ·have : ilt n 0 = true := by simpa using hn
  rw [bI this]
  congr 1
  simp only [IntKind.wrap, IntKind.bits, IntKind.signed]
  simp
  omega
 ·have : ilt n 0 = false := by simpa using hn
  rw [bz this]
  congr 1
  simp only [IntKind.wrap, IntKind.bits, IntKind.signed]
  simp
  omega
theorem abK (a b : Nat) : I9 a b = some ((Nat.gcd a b : Nat) : Int) := by
 unfold I9 TL
 refine fK (fun x : Int × Int => ∃ c d : Nat, x = ((c : Int), (d : Int)) ∧ Nat.gcd c d = Nat.gcd a b) (fun x => x.2.toNat) ?_ ⟨a, b, rfl, rfl⟩
 rintro x ⟨c, d, rfl, hg⟩
 cases d with
 | zero =>
   refine .inl fun kn => ?_
   rw [Nat.gcd_zero_right] at hg
   unfold vQ
   simp [hg, ine]
 | succ d =>
   refine .inr ⟨(((d + 1 : Nat) : Int), ((c % (d + 1) : Nat) : Int)), ⟨d + 1, c % (d + 1), rfl, ?_⟩, ?_, fun kn => ?_⟩
   ·rw [← hg, Nat.gcd_comm c (d + 1), Nat.gcd_rec (d + 1) c, Nat.gcd_comm]
   ·have := Nat.mod_lt c (Nat.succ_pos d)
    simp only [Int.toNat_natCast]
    omega
   ·unfold vQ
    have h1 : ine ((d + 1 : Nat) : Int) 0 = true := by simp [ine]; omega
    have h2 : fo ((d + 1 : Nat) : Int) 0 = false := by simp [fo]; omega
    simp only [h1, bI bz h2]
    congr 1
def JR (r : Int × Int) : Bool :=
 decide (1 ≤ r.2) && (decide (r.2 ≤ 2147483647) && (decide ((r.1.natAbs : Int) ≤ 2147483647) && decide (Nat.gcd r.1.natAbs r.2.natAbs = 1)))
theorem Px {r : Int × Int} (h : I64 r.1) : qB r = some (JR r) := by
 unfold qB Id JR
 by_cases h1 : 1 ≤ r.2
 ·by_cases h2 : r.2 ≤ 2147483647
  ·have h3 : I64 r.2 := ⟨by omega, by omega⟩
   have e1 : ige r.2 1 = true := by simp [ige, h1]
   have e2 : ile r.2 2147483647 = true := by simp [ile, h2]
   rw [bI e1, bI e2, MS h, aZ]
   by_cases h4 : (r.1.natAbs : Int) ≤ 2147483647
   ·have e4 : ile (r.1.natAbs : Int) 2147483647 = true := by simp [ile, h4]
    rw [bI e4, aZ, MS h3, aZ, abK, aZ]
    congr 1
    rw [Bool.eq_iff_iff]
    simp only [ieq, beq_iff_eq, h1, h2, h4, decide_true, Bool.true_and, decide_eq_true_eq]
    omega
   ·have e4 : ile (r.1.natAbs : Int) 2147483647 = false := by simp [ile]; omega
    rw [bz e4]
    simp [h4]
  ·have e1 : ige r.2 1 = true := by simp [ige, h1]
   have e2 : ile r.2 2147483647 = false := by simp [ile]; omega
   rw [bI e1, bz e2]
   simp [h2]
 ·have e1 : ige r.2 1 = false := by simp [ige]; omega
  rw [bz e1]
  simp [h1]
def xw (g : cg) : Bool :=
 JR g.2.2.2.2.1 && inP g.2.2.2.2.1.1 (-1000) 1000 && decide (g.2.2.2.2.1.2 ≤ 100) && inP g.1 1 1099511627776 && Ui g.2.1 && inP g.2.2.1 1 1125899906842624 && nY g.2.2.2.1 (-1073741824) 1073741824 && inP g.2.2.2.2.2 0 1048576
theorem WG {g : cg} (h : I64 g.2.2.2.2.1.1) : sh g = some (xw g) := by
 unfold sh yz xw
 rw [Px h, fH, fH, O3, fH, Br, fH]
 generalize JR g.2.2.2.2.1 = x1
 generalize inP g.2.2.2.2.1.1 (-1000) 1000 = x2
 generalize inP g.1 1 1099511627776 = x3
 generalize Ui g.2.1 = x4
 generalize inP g.2.2.1 1 1125899906842624 = x5
 generalize nY g.2.2.2.1 (-1073741824) 1073741824 = x6
 generalize inP g.2.2.2.2.2 0 1048576 = x7
 unfold ile
 generalize decide (g.2.2.2.2.1.2 ≤ 100) = x8
 cases x1 <;> cases x2 <;> cases x3 <;> cases x4 <;> cases x5 <;> cases x6 <;> cases x8 <;> rfl
end Go.Proofs.ZzM
end
noncomputable section
namespace Go.Proofs.ZzM
open Go Go.Am
section
variable {ρ : Type}
theorem RV {α : Type} {l : List α} {i : Nat} {a : α} (h0 : 0 < i) (h : l[i - 1]? = some a) (f : α → Option ρ) : dn l ((i : Int) - 1) f = f a := by
 have : ((i : Int) - 1) = ((i - 1 : Nat) : Int) := by omega
 rw [this, bt h]
theorem Zh {i : Nat} (h : 0 < i) (hn : i ≤ 1000000000) (f : Int → Option ρ) : ck ((i : Int) - 1) f = f ((i : Int) - 1) := bG (by omega) (by omega) f
theorem gY {i n : Nat} (h : i < n) (x : Option ρ) : ca ((ile 0 (i : Int)) && (ilt (i : Int) (n : Int))) x = x := by
 have : ((ile 0 (i : Int)) && (ilt (i : Int) (n : Int))) = true := by simp [ile, ilt, h]
 rw [this, Am.iff_true]
theorem eT {α : Type} {l : List α} {i : Nat} {a : α} (h : l[i]? = some a) (f : α → Option ρ) : gw l (Int.toNat (i : Int)) f = f a := by
 rw [Int.toNat_natCast]; exact qQ h f
end
def JC {α : Type} (key : α → Int) (l : List α) (i : Nat) (a : α) : Bool :=
 decide (0 < i) && (l[i - 1]?).any fun q => decide (key a ≤ key q)
theorem Qa {α : Type} {l : List α} {i : Nat} (hi : i < l.length) (h0 : 0 < i) : ∃ q, l[i - 1]? = some q :=
 ⟨l[i - 1], List.getElem?_eq_getElem (by omega)⟩
theorem VS {α : Type} (key : α → Int) (l : List α) : (∀ i a, l[i]? = some a → JC key l i a = false) ↔ l.Pairwise (fun a b => key a < key b) := by
 rw [List.pairwise_iff_getElem]
 constructor
 ·intro h
  have step : ∀ i (h1 : i + 1 < l.length), key l[i] < key l[i + 1] := by
   intro i h1
   have := h (i + 1) l[i + 1] (List.getElem?_eq_getElem h1)
   simp only [JC, Nat.add_sub_cancel, Nat.succ_pos, decide_true, Bool.true_and, List.getElem?_eq_getElem (show i < l.length by omega), Option.any_some, decide_eq_false_iff_not] at this
   omega
  intro i j hi hj hij
  induction j with
  | zero => omega
  | succ j ih =>
    have := step j hj
    rcases Nat.lt_or_ge i j with hlt | hge
    ·have := ih (by omega) hlt; omega
    ·have : i = j := by omega
     subst this; assumption
 ·intro h i a ha
  obtain ⟨hi, rfl⟩ := List.getElem?_eq_some_iff.1 ha
  unfold JC
  cases i with
  | zero => rfl
  | succ i =>
    have := h i (i + 1) (by omega) hi (by omega)
    simp only [Nat.add_sub_cancel, Nat.succ_pos, decide_true, Bool.true_and, List.getElem?_eq_getElem (show i < l.length by omega), Option.any_some, decide_eq_false_iff_not]
    omega
def vh (l : List cg) (i : Nat) (g : cg) : Option Int :=
 if !xw g then some 1 else if JC (fun g => g.1) l i g then some 6 else none
def l8 (b : bH) : Int := (fw (vh b.2.1) 0 b.2.1).getD 0
theorem Le {b : bH} (hr : ∀ g ∈ b.2.1, I64 g.2.2.2.2.1.1) (hn : b.2.1.length ≤ 1000) : fj b = some (l8 b) := by
 unfold fj nw
 refine Eq.trans (qq b.2.1 (vh b.2.1) some (some 0) (fun i a hi ha kn => ?_) (fun kn => ?_)) ?_
 ·try dsimp only
  unfold hX
  rw [bC hi, bt ha, WG (hr a (List.mem_of_getElem? ha)), aZ]
  unfold vh
  cases hg : xw a with
  | false => simp
  | true =>
    simp only [Bool.not_true, b7, Bool.false_eq_true, if_false]
    rcases Nat.eq_zero_or_pos i with h0 | h0
    ·subst h0
     have : igt ((0 : Nat) : Int) 0 = false := by simp [igt]
     rw [bz this, bv hi (by omega)]
     simp [JC]
    ·obtain ⟨q, hq⟩ := Qa hi h0
     have h1 : igt (i : Int) 0 = true := by simp [igt]; omega
     rw [bI h1, Zh h0 (by omega), RV h0 hq]
     simp only [JC, h0, decide_true, Bool.true_and, hq, Option.any_some]
     unfold ile
     cases h2 : decide (a.1 ≤ q.1) with
     | true => simp
     | false =>
       rw [b7, bv hi (by omega)]
       simp
 ·try dsimp only
  unfold hX
  rw [bX]
 ·unfold l8
  cases fw (vh b.2.1) 0 b.2.1 <;> rfl
def PX (l : List cg) : List (Int × cg) := l.foldl (fun m g => F2 (k := tI) (v := br) g.1 g m) []
def mY (b : bH) : List (Int × cg) := PX b.2.1
theorem Lv {b : bH} (hn : b.2.1.length ≤ 1000) : fV b = some (mY b) := by
 unfold fV yw
 refine cI b.2.1 (fun i => PX (b.2.1.take i)) _ rfl (fun i a hi ha kn => ?_) (fun kn => ?_)
 ·try dsimp only
  unfold kW
  rw [bC hi, bt ha, bv hi (by omega), take_succ ha]
  simp only [PX, List.foldl_append, List.foldl_cons, List.foldl_nil]
 ·try dsimp only
  unfold kW
  rw [bX, List.take_length]
  rfl
theorem QF (x y : Int) (g : cg) : ∀ m : List (Int × cg), pO (k := tI) (v := br) x (F2 (k := tI) (v := br) y g m) = if x = y then some g else pO (k := tI) (v := br) x m
 | [] => by
   unfold F2 pO jg pO
   by_cases h : x = y <;> simp [h]
 | e :: m => by
   unfold F2
   by_cases h : y = e.1
   ·have : jg tI y e.1 = true := by simp [jg, h]
    rw [this]
    try dsimp only
    unfold pO jg
    by_cases h2 : x = y
    ·simp [h2]
    ·have : ¬ x = e.1 := fun h3 => h2 (h3.trans h.symm)
     simp [h2, this]
   ·have : jg tI y e.1 = false := by simp [jg, h]
    rw [this]
    try dsimp only
    have ih := QF x y g m
    unfold pO
    by_cases h2 : x = e.1
    ·have : jg tI x e.1 = true := by simp [jg, h2]
     rw [this]
     have : ¬ x = y := fun h3 => h (h3.symm.trans h2)
     simp [this]
    ·have : jg tI x e.1 = false := by simp [jg, h2]
     rw [this]
     exact ih
def jT (b : bH) (id : Int) : Option cg := b.2.1.find? fun g => g.1 == id
theorem Tq (x : Int) (l : List cg) : pO (k := tI) (v := br) x (PX l) = l.reverse.find? fun g => g.1 == x := by
 unfold PX
 rw [← List.foldr_reverse]
 induction l.reverse with
 | nil => rfl
 | cons g t ih =>
   rw [List.foldr_cons, QF, ih, List.find?_cons]
   by_cases h : x = g.1
   ·simp [h]
   ·have : (g.1 == x) = false := by simp; exact fun h2 => h h2.symm
    simp [h, this]
theorem R7 {l : List cg} (h : l.Pairwise fun a b => a.1 < b.1) (x : Int) : l.reverse.find? (fun g => g.1 == x) = l.find? fun g => g.1 == x := by
 induction l with
 | nil => rfl
 | cons g t ih =>
   rw [List.pairwise_cons] at h
   rw [List.reverse_cons, List.find?_append, ih h.2, List.find?_cons]
   by_cases hx : g.1 = x
   ·have : t.find? (fun g => g.1 == x) = none := List.find?_eq_none.2 fun y hy => by have : g.1 < y.1 := h.1 y hy; simp; omega
    rw [this]; simp [hx]
   ·have : (g.1 == x) = false := by simp [hx]
    simp [this]
theorem LQ {b : bH} (h : b.2.1.Pairwise fun a b => a.1 < b.1) (x : Int) : pO (k := tI) (v := br) x (mY b) = jT b x := by
 unfold mY jT
 rw [Tq, R7 h]
def oX (s : List (Int × cg)) (id day : Int) : Int :=
 match pO (k := tI) (v := br) id s with
 | some g => if day < g.2.1 then 4 else 0
 | none => 5
theorem Ts (s : List (Int × cg)) (id day : Int) : gW s id day = some (oX s id day) := by
 unfold gW pr oX
 cases h : pO (k := tI) (v := br) id s with
 | none => simp only [PF, h]
 | some g =>
   simp only [PF, h]
   rw [dA]
   by_cases h2 : day < g.2.1 <;> simp [h2]
def aaa (s : List (Int × cg)) (id day : Int) : Int := if !Ui day then 1 else oX s id day
theorem Qi (s : List (Int × cg)) (id day : Int) : dJ id day s = some (aaa s id day) := by
 unfold dJ yy aaa
 rw [O3, aZ, Ts, aZ]
 cases Ui day <;> rfl
def T4 (b : bH) (s : List (Int × cg)) (i : Nat) (l : Gk) : Int :=
 if !nY l.2.1 0 20000 then 1 else if !inP l.2.2 0 1048576 then 1 else if oX s l.1 l.2.1.1 != 0 then oX s l.1 l.2.1.1 else
 if (b.2.2.2.1.take i).any (fun x => x.1 == l.1 && (decide (x.2.1.1 ≤ l.2.1.2) && decide (l.2.1.1 ≤ x.2.1.2))) then 9 else
 if b.2.2.1.any (fun u => u.1 == l.1 && inP u.2 l.2.1.1 l.2.1.2) then 9 else 0
theorem Sk {b : bH} (hn : b.2.2.2.1.length ≤ 1000) (hu : b.2.2.1.length ≤ 1000) (s : List (Int × cg)) {i : Nat} {l : Gk} (hl : b.2.2.2.1[i]? = some l) : fL b s i = some (T4 b s i l) := by
 unfold fL rR T4
 have hi : i < b.2.2.2.1.length := (List.getElem?_eq_some_iff.1 hl).1
 rw [bt hl, Br, aZ, fH, aZ, Ts, aZ]
 cases nY l.2.1 0 20000 with
 | false => rfl
 | true =>
 cases inP l.2.2 0 1048576 with
 | false => rfl
 | true =>
 cases hm : (oX s l.1 l.2.1.1 != 0) with
 | true =>
   have : ine (oX s l.1 l.2.1.1) 0 = true := hm
   simp [this]
 | false =>
 have hm' : ine (oX s l.1 l.2.1.1) 0 = false := hm
 have hg : ((ile (0 : Int) (i : Int)) && (ile (i : Int) (dz b.2.2.2.1))) = true := by simp [ile, dz]; omega
 simp only [Bool.not_true, b7, hm', Bool.false_eq_true, if_false]
 rw [dh hg, Int.toNat_natCast]
 have inner : ∀ (k : Int → Option Int), bw (fun (v : Int) kk => fF b.2.2.1 (bK b.2.2.1) l.1 l.2.1.1 l.2.1.2 v (fun u => kk u) (fun z => ifb (ige z 0) (k 9) (k 0)) (fun _ => k 0)) (0 : Int) = if b.2.2.1.any (fun u => u.1 == l.1 && inP u.2 l.2.1.1 l.2.1.2) then k 9 else k 0 := by
  intro k
  refine gK b.2.2.1 _ (fun z => ifb (ige z 0) (k 9) (k 0)) (k 9) (k 0) (fun j => ?_) (fun j a hj ha kn => ?_) (fun kn => ?_)
  ·have : ige (j : Int) 0 = true := by simp [ige]
   rw [bI this]
  ·try dsimp only
   unfold fF
   rw [bC hj, bt ha, fH, aZ, bv hj (by omega)]
   cases h1 : (a.1 == l.1) with
   | false =>
     have : ieq a.1 l.1 = false := h1
     simp [this]
   | true =>
     have : ieq a.1 l.1 = true := h1
     rw [this]
     cases inP a.2 l.2.1.1 l.2.1.2 <;> simp
  ·try dsimp only
   unfold fF
   rw [bX]
 rw [inner]
 refine Eq.trans (gK (b.2.2.2.1.take i) (fun x => x.1 == l.1 && (decide (x.2.1.1 ≤ l.2.1.2) && decide (l.2.1.1 ≤ x.2.1.2))) (fun z => ifb (ige z 0) (some 9) (if b.2.2.1.any (fun u => u.1 == l.1 && inP u.2 l.2.1.1 l.2.1.2) then some 9 else some 0)) (some 9) (if b.2.2.1.any (fun u => u.1 == l.1 && inP u.2 l.2.1.1 l.2.1.2) then some 9 else some 0) (fun j => ?_) (fun j a hj ha kn => ?_) (fun kn => ?_)) ?_
 ·have : ige (j : Int) 0 = true := by simp [ige]
  rw [bI this]
 ·try dsimp only
  unfold iZ
  have hj' : j ≤ 1000 := by rw [List.length_take] at hj; omega
  rw [bC hj, bt ha, bv hj (by rw [List.length_take]; omega)]
  cases h1 : (a.1 == l.1) with
  | false =>
    have : ieq a.1 l.1 = false := h1
    simp [this]
  | true =>
    have : ieq a.1 l.1 = true := h1
    rw [this]
    cases h2 : decide (a.2.1.1 ≤ l.2.1.2) <;> cases h3 : decide (l.2.1.1 ≤ a.2.1.2) <;> simp [ile, h2, h3, dA] <;> simp_all
 ·try dsimp only
  unfold iZ
  rw [bX]
 ·cases List.any (b.2.2.2.1.take i) _ <;> cases b.2.2.1.any _ <;> rfl
end Go.Proofs.ZzM
end
noncomputable section
namespace Go.Proofs.ZzM
open Go Go.Am
theorem ZW {l : List Int} (hn : l.length ≤ 1000000) (x : Int) : iG l x = some (match l.findIdx? (· == x) with | some j => (j : Int) | none => -1) := by
 unfold iG km
 refine Eq.trans (iq l (· == x) some (some (-1)) (fun i a hi ha kn => ?_) (fun kn => ?_)) ?_
 ·try dsimp only
  unfold f9
  rw [bC hi, bt ha, bv hi (by omega), dA]
  by_cases h : x = a
  ·subst h; simp [ieq]
  ·have h2 : ¬ a = x := fun e => h e.symm
   simp [ieq, h, h2]
 ·try dsimp only
  unfold f9
  rw [bX]
 ·cases l.findIdx? (· == x) <;> rfl
theorem lS {l : List Int} (hn : l.length ≤ 1000000) (x : Int) : dj l x = some (l.contains x) := by
 unfold dj iO
 rw [ZW hn, aZ]
 congr 1
 cases h : l.findIdx? (· == x) with
 | none =>
   have : l.contains x = false := by
    rw [Bool.eq_false_iff]
    intro hc
    have := List.findIdx?_eq_none_iff.1 h x (by simpa using hc)
    simp at this
   rw [this]; rfl
 | some j =>
   obtain ⟨hj, hp, _⟩ := List.findIdx?_eq_some_iff_getElem.1 h
   have : l.contains x = true := by
    have h2 : l[j] = x := by simpa using hp
    rw [← h2]; simp
   rw [this]
   simp [ige]
def cB (a b : List Int) : List Int := a.filter fun x => !b.contains x
theorem pw {a b : List Int} (ha : a.length ≤ 1000000) (hb : b.length ≤ 1000000) : eQ a b = some (cB a b) := by
 unfold eQ OB
 rw [bD (by omega), Am.iff_true]
 have second : ∀ z : Nat, z < a.length → cB (a.take z) b = a.take z → b.contains (a[z]?.getD 0) = true →
  bw (fun (v13 : (Val (.pair tI (.pair tI (.slice tI))))) kk17 => je b v13.1 v13.2.1 v13.2.2 (fun u14 u15 u16 => kk17 (u14, u15, u16)) (fun z12 => ca ((ile (0 : Int) z12.1) && (ile z12.1 (dz z12.2))) (ca ((ile (0 : Int) z12.1) && (ile z12.1 (dz (List.take (Int.toNat z12.1) z12.2 ++ List.replicate (List.length z12.2 - (Int.toNat z12.1)) (0 : Int) ++ List.drop ((Int.toNat z12.1) + (List.length z12.2 - (Int.toNat z12.1))) z12.2)))) (some (List.take (Int.toNat z12.1) (List.drop 0 (List.take (Int.toNat z12.1) z12.2 ++ List.replicate (List.length z12.2 - (Int.toNat z12.1)) (0 : Int) ++ List.drop ((Int.toNat z12.1) + (List.length z12.2 - (Int.toNat z12.1))) z12.2))))))) ((z : Int), ((z : Int) + 1), a) = some (cB a b) := by
  intro z hz hp hc
  refine fK (fun x : Int × Int × List Int => ∃ i j : Nat, x.1 = i ∧ x.2.1 = j ∧ i < j ∧ j ≤ a.length ∧ x.2.2.length = a.length ∧ x.2.2.take i = cB (a.take j) b ∧ x.2.2.drop j = a.drop j) (fun x => a.length - x.2.1.toNat) ?_
   ⟨z, z + 1, rfl, by simp, by omega, by omega, rfl, ?_, rfl⟩
  ·rintro ⟨x1, x2, s⟩ ⟨i, j, h1, h2, hij, hja, hl, ht, hd⟩
   simp only at h1 h2 hl ht hd
   subst h1 h2
   rcases Nat.lt_or_ge j a.length with hj | hj
   ·refine .inr ?_
    have hsj : s[j]? = some a[j] := by
     have h3 : (s.drop j)[0]? = (a.drop j)[0]? := by rw [hd]
     rw [List.getElem?_drop, List.getElem?_drop] at h3
     simpa [List.getElem?_eq_getElem hj] using h3
    have hjs : j < s.length := by omega
    have hta : cB (a.take (j + 1)) b = cB (a.take j) b ++ if b.contains a[j] then [] else [a[j]] := by
     rw [take_succ (List.getElem?_eq_getElem hj), cB, cB, List.filter_append]
     congr 1
     cases h : b.contains a[j] with
     | true => simp only [List.filter_cons, h, Bool.not_true, Bool.false_eq_true, if_false, List.filter_nil, if_true]
     | false => simp only [List.filter_cons, h, Bool.not_false, Bool.false_eq_true, if_false, List.filter_nil, if_true]
    cases h : b.contains a[j] with
    | true =>
      refine ⟨(i, (j : Int) + 1, s), ⟨i, j + 1, rfl, by simp, by omega, by omega, hl, ?_, ?_⟩, by simp; omega, fun kn => ?_⟩
      ·rw [hta, h]; simpa using ht
      ·have := congrArg (List.drop 1) hd
       simpa [List.drop_drop, Nat.add_comm] using this
      ·try dsimp only
       unfold je
       rw [bC hjs, gY hjs, eT hsj, lS hb, aZ, h]
       simp only [Bool.not_true, b7]
       rw [bv hjs (by omega)]
    | false =>
      have his : i < s.length := by omega
      refine ⟨((i : Int) + 1, (j : Int) + 1, s.set i a[j]), ⟨i + 1, j + 1, by simp, by simp, by omega, by omega, by simpa using hl, ?_, ?_⟩, by simp; omega, fun kn => ?_⟩
      ·show List.take (i + 1) (s.set i a[j]) = _
       rw [hta, h, List.take_succ, List.getElem?_set, List.take_set_of_le (Nat.le_refl i), ht]
       simp [his]
      ·show List.drop (j + 1) (s.set i a[j]) = _
       rw [List.drop_set_of_lt (by omega)]
       have := congrArg (List.drop 1) hd
       simpa [List.drop_drop, Nat.add_comm] using this
      ·try dsimp only
       unfold je
       rw [bC hjs, gY hjs, eT hsj, lS hb, aZ, h]
       simp only [Bool.not_false, eD]
       rw [gY his, eT (List.getElem?_eq_getElem his), bv his (by omega), bv hjs (by omega), Int.toNat_natCast]
   ·refine .inl fun kn => ?_
    have hje : j = s.length := by omega
    try dsimp only
    unfold je
    rw [hje, bX]
    dsimp only
    have g1 : ((ile (0 : Int) (i : Int)) && (ile (i : Int) (dz s))) = true := by simp [ile, dz]; omega
    rw [dh g1]
    have g2 : ((ile (0 : Int) (i : Int)) && (ile (i : Int) (dz (List.take (Int.toNat (i : Int)) s ++ List.replicate (List.length s - (Int.toNat (i : Int))) (0 : Int) ++ List.drop ((Int.toNat (i : Int)) + (List.length s - (Int.toNat (i : Int)))) s)))) = true := by
     simp [ile, dz]; omega
    rw [dh g2, Int.toNat_natCast, List.drop_zero, List.append_assoc, List.take_append_of_le_length (by simp; omega), List.take_take, Nat.min_self, ht]
    rw [List.take_of_length_le (by omega)]
  ·show List.take z a = cB (a.take (z + 1)) b
   have hz' : a[z]? = some a[z] := List.getElem?_eq_getElem hz
   rw [take_succ hz', cB, List.filter_append]
   rw [hz'] at hc
   simp only [Option.getD_some] at hc
   have : List.filter (fun x => !b.contains x) [a[z]] = [] := by simp only [List.filter_cons, hc, Bool.not_true, Bool.false_eq_true, if_false, List.filter_nil]
   rw [this, List.append_nil]
   exact hp.symm
 refine Eq.trans (iq a (fun x => b.contains x) (fun z4 => ifb (ieq z4 (-1 : Int)) (some a) (ck (z4 + (1 : Int)) fun n5 => bw (fun (v13 : (Val (.pair tI (.pair tI (.slice tI))))) kk17 => je b v13.1 v13.2.1 v13.2.2 (fun u14 u15 u16 => kk17 (u14, u15, u16)) (fun z12 => ca ((ile (0 : Int) z12.1) && (ile z12.1 (dz z12.2))) (ca ((ile (0 : Int) z12.1) && (ile z12.1 (dz (List.take (Int.toNat z12.1) z12.2 ++ List.replicate (List.length z12.2 - (Int.toNat z12.1)) (0 : Int) ++ List.drop ((Int.toNat z12.1) + (List.length z12.2 - (Int.toNat z12.1))) z12.2)))) (some (List.take (Int.toNat z12.1) (List.drop 0 (List.take (Int.toNat z12.1) z12.2 ++ List.replicate (List.length z12.2 - (Int.toNat z12.1)) (0 : Int) ++ List.drop ((Int.toNat z12.1) + (List.length z12.2 - (Int.toNat z12.1))) z12.2))))))) (z4, n5, a))) (some a) (fun i x hi hx kn => ?_) (fun kn => ?_)) ?_
 ·try dsimp only
  unfold rO
  rw [bC hi, gY hi, eT hx, lS hb, aZ, bv hi (by omega), dA]
 ·try dsimp only
  unfold rO
  rw [bX]
 ·cases h : a.findIdx? (fun x => b.contains x) with
  | none =>
    have : cB a b = a := by
     rw [cB, List.filter_eq_self]
     intro x hx
     have := List.findIdx?_eq_none_iff.1 h x hx
     simpa using this
    rw [this]
  | some z =>
    obtain ⟨hz, hc, hlt⟩ := List.findIdx?_eq_some_iff_getElem.1 h
    have h1 : ieq (z : Int) (-1) = false := by simp [ieq]
    try dsimp only
    rw [bz h1, bv hz (by omega)]
    refine second z hz ?_ ?_
    ·rw [cB, List.filter_eq_self]
     intro x hx
     obtain ⟨j, hj, rfl⟩ := List.mem_iff_getElem.1 hx
     rw [List.length_take] at hj
     rw [List.getElem_take]
     have := hlt j (by omega)
     simpa using this
    ·rw [List.getElem?_eq_getElem hz]; exact hc
def E8 (l : List Int) (i : Nat) (a : Int) : Option Bool := if !inP a 1 1099511627776 then some false else if JC (fun x => x) l i a then some false else none
def mo (l : List Int) : Bool := match fw (E8 l) 0 l with | some _ => false | none => decide (l.length ≤ 6)
theorem Bp {l : List Int} (hn : l.length ≤ 1000000) : kL l = some (mo l) := by
 unfold kL C6
 refine Eq.trans (qq l (E8 l) some (some (decide (l.length ≤ 6))) (fun i a hi ha kn => ?_) (fun kn => ?_)) ?_
 ·try dsimp only
  unfold mu
  rw [bC hi, bt ha, fH, aZ]
  unfold E8
  cases inP a 1 1099511627776 with
  | false => rfl
  | true =>
    simp only [Bool.not_true, b7, Bool.false_eq_true, if_false]
    rcases Nat.eq_zero_or_pos i with h0 | h0
    ·subst h0
     have : igt ((0 : Nat) : Int) 0 = false := by simp [igt]
     rw [bz this, bv hi (by omega)]
     simp [JC]
    ·obtain ⟨q, hq⟩ := Qa hi h0
     have h1 : igt (i : Int) 0 = true := by simp [igt]; omega
     rw [bI h1, Zh h0 (by omega), RV h0 hq]
     simp only [JC, h0, decide_true, Bool.true_and, hq, Option.any_some]
     unfold ile
     cases h2 : decide (a ≤ q) with
     | true => rfl
     | false =>
       rw [b7, bv hi (by omega)]
       rfl
 ·try dsimp only
  unfold mu
  rw [bX, bU]
  simp [ile]
  omega
 ·have hb : ∀ x, fw (E8 l) 0 l = some x → x = false := by
   have : ∀ (m : List Int) (j : Nat) (x : Bool), fw (E8 l) j m = some x → x = false := by
    intro m
    induction m with
    | nil => intro j x h; cases h
    | cons a m ih =>
      intro j x h
      unfold fw at h
      cases hp : E8 l j a with
      | none => rw [hp] at h; exact ih _ _ h
      | some y =>
        rw [hp] at h
        cases h
        unfold E8 at hp
        split at hp
        ·cases hp; rfl
        ·split at hp
         ·cases hp; rfl
         ·cases hp
   exact this l 0
  unfold mo
  cases h : fw (E8 l) 0 l with
  | none => rfl
  | some x => rw [hb x h]
theorem Qe (l : List Int) : mo l = true ↔ (∀ x ∈ l, 1 ≤ x ∧ x ≤ 1099511627776) ∧ l.Pairwise (· < ·) ∧ l.length ≤ 6 := by
 have h0 : fw (E8 l) 0 l = none ↔ (∀ x ∈ l, 1 ≤ x ∧ x ≤ 1099511627776) ∧ l.Pairwise (· < ·) := by
  rw [kK, ← VS (fun x => x) l]
  constructor
  ·intro h
   have h1 : ∀ (j : Nat) (a : Int), l[j]? = some a → inP a 1 1099511627776 = true ∧ JC (fun x => x) l j a = false := by
    intro j a ha
    have := h j a ha
    rw [Nat.zero_add] at this
    unfold E8 at this
    split at this
    ·cases this
    ·split at this
     ·cases this
     ·rename_i h1 h2
      exact ⟨by simpa using h1, by simpa using h2⟩
   refine ⟨fun x hx => ?_, fun i a ha => (h1 i a ha).2⟩
   obtain ⟨j, hj, rfl⟩ := List.mem_iff_getElem.1 hx
   have := (h1 j l[j] (List.getElem?_eq_getElem hj)).1
   simpa [inP] using this
  ·rintro ⟨h1, h2⟩ j a ha
   rw [Nat.zero_add]
   have h3 := h1 a (List.mem_of_getElem? ha)
   have : inP a 1 1099511627776 = true := by simpa [inP] using h3
   simp [E8, this, h2 j a ha]
 unfold mo
 cases h : fw (E8 l) 0 l with
 | none =>
   obtain ⟨h1, h2⟩ := h0.1 h
   simp only [decide_eq_true_eq]
   exact ⟨fun h3 => ⟨h1, h2, h3⟩, fun h3 => h3.2.2⟩
 | some x =>
   constructor
   ·intro h2; cases h2
   ·rintro ⟨h1, h2, h3⟩
    rw [h0.2 ⟨h1, h2⟩] at h; cases h
theorem ZX {a b : List Int} (ha : a.length ≤ 1000000) (hb : b.length ≤ 1000000) : bR [a, b] = some (a ++ b) := by
 have hk : ∀ n : Nat, n ≤ 4000000 → ∀ (f : Int → Option (List Int)), ck (n : Int) f = f n := fun n h f => bG (by omega) (by omega) f
 have second : bw (fun (v9 : (Val (.pair tI (.slice tI)))) kk12 => bV [a, b] (bK [a, b]) v9.1 v9.2 (fun u10 u11 => kk12 (u10, u11)) (fun z8 => some z8)) ((0 : Int), ([] : List Int)) = some (a ++ b) := by
  refine cI [a, b] (fun i => ([a, b].take i).flatten) (some (a ++ b)) (f := fun (v9 : (Val (.pair tI (.slice tI)))) kk12 => bV [a, b] (bK [a, b]) v9.1 v9.2 (fun u10 u11 => kk12 (u10, u11)) (fun z8 => some z8)) rfl (fun i x hi hx kn => ?_) (fun kn => ?_)
  ·try dsimp only
   unfold bV
   rw [bC hi, bt hx, bv hi (by simp), take_succ hx, List.flatten_append]
   have : bZ ((List.take i [a, b]).flatten.length + x.length) = true := by
    refine bD ?_
    have h1 : x.length ≤ 1000000 := by
     have := List.mem_of_getElem? hx
     simp at this
     rcases this with rfl | rfl <;> assumption
    have h2 : (List.take i [a, b]).flatten.length ≤ 2000000 := by
     have : i = 0 ∨ i = 1 := by simp at hi; omega
     rcases this with rfl | rfl <;> simp <;> omega
    omega
   rw [dh this]
   simp
  ·try dsimp only
   unfold bV
   rw [bX]
   simp
 unfold bR g9
 refine fK (fun x : Int × Int => ∃ i : Nat, i ≤ 2 ∧ x = ((([a, b].take i).flatten.length : Int), (i : Int))) (fun x => 2 - x.2.toNat) ?_ ⟨0, by omega, rfl⟩
 rintro x ⟨i, hi, rfl⟩
 rcases Nat.lt_or_ge i 2 with h2 | h2
 ·refine .inr ⟨((([a, b].take (i + 1)).flatten.length : Int), (i : Int) + 1), ⟨i + 1, h2, by simp⟩, by simp; omega, fun kn => ?_⟩
  have hi' : i < [a, b].length := h2
  obtain ⟨x, hx⟩ : ∃ x, [a, b][i]? = some x := ⟨_, List.getElem?_eq_getElem hi'⟩
  have hxl : x.length ≤ 1000000 := by
   have := List.mem_of_getElem? hx
   simp at this
   rcases this with rfl | rfl <;> assumption
  have h3 : (List.take i [a, b]).flatten.length ≤ 2000000 := by
   have : i = 0 ∨ i = 1 := by omega
   rcases this with rfl | rfl <;> simp <;> omega
  try dsimp only
  unfold dq
  rw [bC hi', bt hx, bU]
  have e1 : (((List.take i [a, b]).flatten.length : Int) + (x.length : Int)) = ((List.take i [a, b]).flatten.length + x.length : Nat) := by omega
  rw [e1, hk _ (by omega)]
  have : ilt ((((List.take i [a, b]).flatten.length + x.length : Nat)) : Int) 0 = false := by simp [ilt]; omega
  rw [bz this, bv hi' (by simp), take_succ hx]
  simp
 ·refine .inl fun kn => ?_
  obtain rfl : i = 2 := by omega
  try dsimp only
  unfold dq
  rw [show ((2 : Nat) : Int) = (([a, b].length : Nat) : Int) from rfl, bX]
  have e1 : ((List.take 2 [a, b]).flatten.length : Int) = ((a.length + b.length : Nat) : Int) := by simp
  have e2 : ilt (((a.length + b.length : Nat)) : Int) 0 = false := by simp [ilt]; omega
  rw [e1]
  dsimp only
  rw [bz e2, Int.sub_zero, hk _ (by omega)]
  rcases Nat.eq_zero_or_pos (a.length + b.length) with h0 | h0
  ·have : igt (((a.length + b.length : Nat)) : Int) 0 = false := by simp [igt]; omega
   rw [bz this]
   exact second
  ·have : igt (((a.length + b.length : Nat)) : Int) 0 = true := by simp [igt]; omega
   rw [bI this]
   have : ((ilt (0 : Int) (((a.length + b.length : Nat)) : Int)) && (bZ (Int.toNat (((a.length + b.length : Nat)) : Int)))) = true := by
    rw [Int.toNat_natCast, bD (by omega)]
    simp [ilt]; omega
   rw [dh this]
   have : ile 0 (dz (List.replicate (Int.toNat (((a.length + b.length : Nat)) : Int)) (0 : Int))) = true := by simp [ile]
   rw [dh this]
   exact second
def FN (b : bH) (id day : Int) : Option Gk := b.2.2.2.1.find? fun l => l.1 == id && inP day l.2.1.1 l.2.1.2
theorem Vz {α : Type} (p : α → Bool) : ∀ l : List α, l.find? p = (match l.findIdx? p with | some j => l[j]? | none => none)
 | [] => rfl
 | a :: l => by
   rw [List.find?_cons, List.findIdx?_cons]
   cases h : p a with
   | true => simp
   | false =>
     simp only [Bool.false_eq_true, if_false]
     rw [Vz p l]
     cases l.findIdx? p <;> simp
theorem acR {b : bH} (hn : b.2.2.2.1.length ≤ 1000) (id day : Int) : wg b id day = some (match FN b id day with | some l => (l, true) | none => ((0, (0, 0), 0), false)) := by
 unfold wg OM
 refine Eq.trans (iq b.2.2.2.1 (fun l => l.1 == id && inP day l.2.1.1 l.2.1.2) (fun z5 => ifb (ilt z5 (0 : Int)) (some (((0 : Int), ((0 : Int), (0 : Int)), (0 : Int)), false)) (dn b.2.2.2.1 z5 fun e6 => some (e6, true))) (some ((0, (0, 0), 0), false)) (fun i a hi ha kn => ?_) (fun kn => ?_)) ?_
 ·try dsimp only
  unfold rS
  rw [bC hi, bt ha, fH, aZ, bv hi (by omega)]
  cases h1 : (a.1 == id) with
  | false =>
    have : ieq a.1 id = false := h1
    simp [this]
  | true =>
    have : ieq a.1 id = true := h1
    rw [this]
    cases inP day a.2.1.1 a.2.1.2 <;> simp
 ·try dsimp only
  unfold rS
  rw [bX]
 ·unfold FN
  rw [Vz]
  cases h : b.2.2.2.1.findIdx? (fun l => l.1 == id && inP day l.2.1.1 l.2.1.2) with
  | none => rfl
  | some j =>
    obtain ⟨hj, _, _⟩ := List.findIdx?_eq_some_iff_getElem.1 h
    have : ilt (j : Int) 0 = false := by simp [ilt]
    try dsimp only
    rw [bz this, bt (List.getElem?_eq_getElem hj), List.getElem?_eq_getElem hj]
end Go.Proofs.ZzM
end
noncomputable section
namespace Go.Proofs.ZzM
open Go Go.Am
def acs (a : Int) : List Int → List Int
 | [] => [a]
 | b :: t => if a ≤ b then a :: b :: t else b :: acs a t
def Mh : List Int → List Int
 | [] => []
 | a :: t => acs a (Mh t)
def tz (p : Option Int) : List Int → List Int
 | [] => []
 | a :: t => if p = some a then tz (some a) t else a :: tz (some a) t
def SL (l : List Int) : List Int := tz none (Mh l)
theorem IQ (a : Int) : ∀ l, (acs a l).Perm (a :: l)
 | [] => List.Perm.refl _
 | b :: t => by
   unfold acs
   split
   ·exact List.Perm.refl _
   ·exact ((IQ a t).cons b).trans (List.Perm.swap a b t)
theorem rY : ∀ l, (Mh l).Perm l
 | [] => List.Perm.refl _
 | a :: t => (IQ a _).trans ((rY t).cons a)
theorem IP (a : Int) : ∀ {l : List Int}, l.Pairwise (· ≤ ·) → (acs a l).Pairwise (· ≤ ·)
 | [], _ => by simp [acs]
 | b :: t, h => by
   rw [List.pairwise_cons] at h
   unfold acs
   split
   ·rename_i hab
    refine List.pairwise_cons.2 ⟨fun x hx => ?_, List.pairwise_cons.2 h⟩
    rcases List.mem_cons.1 hx with rfl | hx
    ·exact hab
    ·have := h.1 x hx; omega
   ·rename_i hab
    refine List.pairwise_cons.2 ⟨fun x hx => ?_, IP a h.2⟩
    rcases List.mem_cons.1 ((IQ a t).mem_iff.1 hx) with rfl | hx
    ·omega
    ·exact h.1 x hx
theorem rX : ∀ l : List Int, (Mh l).Pairwise (· ≤ ·)
 | [] => List.Pairwise.nil
 | a :: t => IP a (rX t)
theorem aag (l : List Int) : za l = Mh l := by
 have h1 : (za l).Pairwise (· ≤ ·) := by
  have := List.pairwise_mergeSort (le := fun a b : Int => decide (a ≤ b)) (fun a b c h1 h2 => by simp at *; omega) (fun a b => by simp; omega) l
  exact this.imp fun h => by simpa using h
 exact List.Perm.eq_of_pairwise (le := (· ≤ ·)) (fun a b _ _ h1 h2 => by omega) h1 (rX l) ((List.mergeSort_perm l _).trans (rY l).symm)
theorem Lp (a : Int) : ∀ (l : List Int) (p : Option Int), tz p (l ++ [a]) = tz p l ++ (if (match l.getLast? with | some b => some b | none => p) = some a then [] else [a])
 | [], p => by simp only [List.nil_append, tz, List.getLast?_nil]; rfl
 | b :: t, p => by
   have ih := Lp a t (some b)
   have e : (match (b :: t).getLast? with | some c => some c | none => p) = (match t.getLast? with | some c => some c | none => some b) := by
    cases t with
    | nil => rfl
    | cons c t =>
      rw [List.getLast?_cons_cons]
      cases h : (c :: t).getLast? with
      | none => simp at h
      | some x => rfl
   rw [e]
   simp only [List.cons_append, tz, ih]
   split <;> simp
theorem xz (l : List Int) : ∀ m, m ≤ l.length → Lib.compactUpTo l.toArray m = tz none (l.take m)
 | 0, _ => by simp [Lib.compactUpTo, tz]
 | m + 1, h => by
   have hm : m < l.length := h
   rw [Lib.compactUpTo_succ, xz l m (by omega), take_succ (List.getElem?_eq_getElem hm), Lp]
   congr 1
   have e1 : l.toArray[m]! = l[m] := by simp [getElem!_pos, hm]
   rw [e1]
   unfold Lib.keeps
   rw [e1]
   cases m with
   | zero => simp
   | succ m =>
     have hm' : m < l.length := by omega
     have e2 : l.toArray[m + 1 - 1]! = l[m] := by simp [getElem!_pos, hm']
     rw [e2]
     have e3 : (l.take (m + 1)).getLast? = some l[m] := by rw [take_succ (List.getElem?_eq_getElem hm'), List.getLast?_append]; rfl
     rw [e3]
     by_cases hne : l[m + 1] = l[m]
     ·simp [hne]
     ·have : ¬ l[m] = l[m + 1] := fun h => hne h.symm
      simp [hne, this]
theorem Um (l : List Int) : wj l = tz none l := by
 unfold wj Lib.compact
 rw [xz l l.length (Nat.le_refl _), List.take_length]
theorem XJ (l : List Int) : wj (za l) = SL l := by rw [aag, Um]; rfl
theorem PM : ∀ {l : List Int} {p : Option Int} {x : Int}, p ≠ some x → (x ∈ tz p l ↔ x ∈ l)
 | [], _, _, _ => Iff.rfl
 | a :: t, p, x, hp => by
   unfold tz
   by_cases hx : x = a
   ·subst hx
    rw [if_neg hp]; simp
   ·have ih := PM (l := t) (p := some a) (x := x) (fun e => hx (by cases e; rfl))
    split <;> simp [ih, hx]
theorem UQ : ∀ {l : List Int} {p : Option Int}, l.Pairwise (· ≤ ·) → (∀ q, p = some q → ∀ x ∈ l, q ≤ x) → (tz p l).Pairwise (· < ·) ∧ ∀ q, p = some q → ∀ x ∈ tz p l, q < x
 | [], p, _, _ => ⟨List.Pairwise.nil, fun _ _ _ h => by cases h⟩
 | a :: t, p, h, hp => by
   rw [List.pairwise_cons] at h
   obtain ⟨i1, i2⟩ := UQ (l := t) (p := some a) h.2 (fun q hq x hx => by cases hq; exact h.1 x hx)
   unfold tz
   split
   ·rename_i e
    exact ⟨i1, fun q hq x hx => by rw [e] at hq; cases hq; exact i2 _ rfl x hx⟩
   ·rename_i e
    refine ⟨List.pairwise_cons.2 ⟨fun x hx => i2 _ rfl x hx, i1⟩, fun q hq x hx => ?_⟩
    have := hp q hq a (by simp)
    have hne : q ≠ a := fun h => e (by rw [hq, h])
    rcases List.mem_cons.1 hx with rfl | hx
    ·omega
    ·have := i2 _ rfl x hx; omega
theorem vH {l : List Int} {x : Int} : x ∈ SL l ↔ x ∈ l := by
 unfold SL
 rw [PM (by simp), (rY l).mem_iff]
theorem S7 (l : List Int) : (SL l).Pairwise (· < ·) := (UQ (rX l) (fun q hq => by cases hq)).1
theorem PN : ∀ (l : List Int) (p : Option Int), (tz p l).length ≤ l.length
 | [], _ => Nat.le_refl _
 | a :: t, p => by
   have := PN t (some a)
   unfold tz
   split <;> simp <;> omega
theorem FW (l : List Int) : (SL l).length ≤ l.length := by
 unfold SL
 have := PN (Mh l) none
 rwa [(rY l).length_eq] at this
theorem acS {l m : List Int} (hl : l.Pairwise (· < ·)) (hm : m.Pairwise (· < ·)) (h : ∀ x, x ∈ l ↔ x ∈ m) : l = m := by
 induction l generalizing m with
 | nil =>
   cases m with
   | nil => rfl
   | cons a t => have := (h a).2 (by simp); cases this
 | cons a t ih =>
   rw [List.pairwise_cons] at hl
   cases m with
   | nil => have := (h a).1 (by simp); cases this
   | cons b u =>
     rw [List.pairwise_cons] at hm
     have hab : a = b := by
      rcases List.mem_cons.1 ((h a).1 (by simp)) with h1 | h1
      ·exact h1
      ·rcases List.mem_cons.1 ((h b).2 (by simp)) with h2 | h2
       ·exact h2.symm
       ·have := hm.1 a h1; have := hl.1 b h2; omega
     subst hab
     rw [ih hl.2 hm.2 fun x => ?_]
     constructor
     ·intro hx
      rcases List.mem_cons.1 ((h x).1 (by simp [hx])) with h1 | h1
      ·have := hl.1 x hx; omega
      ·exact h1
     ·intro hx
      rcases List.mem_cons.1 ((h x).2 (by simp [hx])) with h1 | h1
      ·have := hm.1 x hx; omega
      ·exact h1
end Go.Proofs.ZzM
end
noncomputable section
namespace Go.Proofs.ZzM
open Go Go.Am
def DZ (b : bH) (s : List (Int × cg)) (c : Cmp) : Int :=
 if (c.2.2.1 ++ c.2.2.2.1).any (fun id => oX s id c.2.1 == 5) then 5 else
 if (c.2.2.1 ++ c.2.2.2.1).any (fun id => oX s id c.2.1 == 4) then 4 else
 if (c.2.2.1 ++ c.2.2.2.1).any (fun id => (FN b id c.2.1).isSome) then 9 else
 if 1 < (cB c.2.2.1 c.2.2.2.1).length then 1 else if 1 < (cB c.2.2.2.1 c.2.2.1).length then 1 else
 if (cB c.2.2.1 c.2.2.2.1).length + (cB c.2.2.2.1 c.2.2.1).length = 0 then 1 else 0
def Wo (c : Cmp) : Bool :=
 inP c.1 1 1099511627776 && (Ui c.2.1 && (inP c.2.2.2.2.1 (-1125899906842624) 1125899906842624 && (inP c.2.2.2.2.2.1 0 1073741824 && (nY c.2.2.2.2.2.2 (-10000) 10000 && (mo c.2.2.1 && mo c.2.2.2.1)))))
def wi (b : bH) (s : List (Int × cg)) (i : Nat) (c : Cmp) : Int :=
 if !Wo c then 1 else if (b.2.2.2.2.1.take i).any (fun x => x.1 == c.1) then 6 else DZ b s c
theorem RN (a b : List Int) : (cB a b).length ≤ a.length := List.length_filter_le _ _
set_option maxHeartbeats 1000000 in
theorem Jm {b : bH} (hn : b.2.2.2.2.1.length ≤ 1000) (hl : b.2.2.2.1.length ≤ 1000) (s : List (Int × cg)) {i : Nat} {c : Cmp} (hA : c.2.2.1.length ≤ 1000) (hB : c.2.2.2.1.length ≤ 1000)
 (hc : b.2.2.2.2.1[i]? = some c) : dK b s i = some (wi b s i c) := by
 have hi : i < b.2.2.2.2.1.length := (List.getElem?_eq_some_iff.1 hc).1
 unfold dK lZ wi Wo
 rw [bt hc, fH, aZ]
 cases inP c.1 1 1099511627776 with
 | false => rfl
 | true =>
 rw [O3, aZ]
 cases Ui c.2.1 with
 | false => rfl
 | true =>
 rw [fH, aZ]
 cases inP c.2.2.2.2.1 (-1125899906842624) 1125899906842624 with
 | false => rfl
 | true =>
 rw [fH, aZ]
 cases inP c.2.2.2.2.2.1 0 1073741824 with
 | false => rfl
 | true =>
 rw [Br, aZ]
 cases nY c.2.2.2.2.2.2 (-10000) 10000 with
 | false => rfl
 | true =>
 rw [Bp (by omega), aZ]
 cases mo c.2.2.1 with
 | false => rfl
 | true =>
 rw [Bp (by omega), aZ]
 cases mo c.2.2.2.1 with
 | false => rfl
 | true =>
 have hg : ((ile (0 : Int) (i : Int)) && (ile (i : Int) (dz b.2.2.2.2.1))) = true := by simp [ile, dz]; omega
 simp only [Bool.not_true, b7, Bool.and_self, Bool.false_eq_true, if_false]
 rw [dh hg, Int.toNat_natCast]
 -- what comes behind the IDs
 have rest : (bf (bR ([c.2.2.1, c.2.2.2.1])) fun r12 => bw (fun (v36 : Int) kk38 => dV s r12 (bK ([(5 : Int), (4 : Int)])) c.2.1 ([(5 : Int), (4 : Int)]) v36 (fun u37 => kk38 u37) (fun z23 => some z23) (fun _ => bw (fun (v33 : Int) kk35 => dU r12 (bK r12) b.1.1 b.1.2 b.2.1 b.2.2.1 b.2.2.2.1 b.2.2.2.2.1 b.2.2.2.2.2 c.2.1 v33 (fun u34 => kk35 u34) (fun z28 => some z28) (fun _ => bf (eQ c.2.2.1 c.2.2.2.1) fun r30 => bf (eQ c.2.2.2.1 c.2.2.1) fun r31 => ifb (igt (bK r30) (1 : Int)) (some (1 : Int)) (ifb (igt (bK r31) (1 : Int)) (some (1 : Int)) (ck ((bK r30) + (bK r31)) fun n32 => ifb (ieq n32 (0 : Int)) (some (1 : Int)) (some (0 : Int)))))) (0 : Int))) (0 : Int)) = some (DZ b s c) := by
  rw [ZX (by omega) (by omega), aZ]
  have hall : (c.2.2.1 ++ c.2.2.2.1).length ≤ 2000 := by simp; omega
  have last : (bf (eQ c.2.2.1 c.2.2.2.1) fun r30 => bf (eQ c.2.2.2.1 c.2.2.1) fun r31 => ifb (igt (bK r30) (1 : Int)) (some (1 : Int)) (ifb (igt (bK r31) (1 : Int)) (some (1 : Int)) (ck ((bK r30) + (bK r31)) fun n32 => ifb (ieq n32 (0 : Int)) (some (1 : Int)) (some (0 : Int))))) =
   some (if 1 < (cB c.2.2.1 c.2.2.2.1).length then 1 else if 1 < (cB c.2.2.2.1 c.2.2.1).length then 1 else if (cB c.2.2.1 c.2.2.2.1).length + (cB c.2.2.2.1 c.2.2.1).length = 0 then 1 else 0) := by
   rw [pw (by omega) (by omega), aZ, pw (by omega) (by omega), aZ]
   have l1 := RN c.2.2.1 c.2.2.2.1
   have l2 := RN c.2.2.2.1 c.2.2.1
   rw [bU, bU, bG (by omega) (by omega)]
   by_cases c1 : 1 < (cB c.2.2.1 c.2.2.2.1).length
   ·rw [bI (by simp [igt]; omega), if_pos c1]
   rw [bz (by simp [igt]; omega), if_neg c1]
   by_cases c2 : 1 < (cB c.2.2.2.1 c.2.2.1).length
   ·rw [bI (by simp [igt]; omega), if_pos c2]
   rw [bz (by simp [igt]; omega), if_neg c2]
   by_cases c3 : (cB c.2.2.1 c.2.2.2.1).length + (cB c.2.2.2.1 c.2.2.1).length = 0
   ·rw [bI (by simp [ieq]; omega), if_pos c3]
   rw [bz (by simp [ieq]; omega), if_neg c3]
  refine Eq.trans (qq [(5 : Int), 4] (fun _ want => if (c.2.2.1 ++ c.2.2.2.1).any (fun id => oX s id c.2.1 == want) then some want else none) some (some (if (c.2.2.1 ++ c.2.2.2.1).any (fun id => (FN b id c.2.1).isSome) then 9 else if 1 < (cB c.2.2.1 c.2.2.2.1).length then 1 else if 1 < (cB c.2.2.2.1 c.2.2.1).length then 1 else if (cB c.2.2.1 c.2.2.2.1).length + (cB c.2.2.2.1 c.2.2.1).length = 0 then 1 else 0)) (fun j want hj hw kn => ?_) (fun kn => ?_)) ?_
  ·try dsimp only
   unfold dV
   rw [bC hj, gY hj, eT hw]
   refine Eq.trans (gK (c.2.2.1 ++ c.2.2.2.1) (fun id => oX s id c.2.1 == want) (fun _ => some want) (some want) (kn ((j : Int) + 1)) (fun _ => rfl) (fun k a hk ha kn' => ?_) (fun kn' => ?_)) ?_
   ·try dsimp only
    unfold gH
    rw [bC hk, bt ha, Ts, aZ, bv hk (by omega), dA]
   ·try dsimp only
    unfold gH
    rw [bX, bv hj (by simp)]
   ·cases List.any (c.2.2.1 ++ c.2.2.2.1) (fun id => oX s id c.2.1 == want) <;> rfl
  ·try dsimp only
   unfold dV
   rw [bX]
   refine Eq.trans (gK (c.2.2.1 ++ c.2.2.2.1) (fun id => (FN b id c.2.1).isSome) (fun _ => some 9) (some 9) (some (if 1 < (cB c.2.2.1 c.2.2.2.1).length then 1 else if 1 < (cB c.2.2.2.1 c.2.2.1).length then 1 else if (cB c.2.2.1 c.2.2.2.1).length + (cB c.2.2.2.1 c.2.2.1).length = 0 then 1 else 0)) (fun _ => rfl) (fun k a hk ha kn' => ?_) (fun kn' => ?_)) ?_
   ·try dsimp only
    unfold dU
    have haw := acR hl a c.2.1
    rw [bC hk, bt ha, bv hk (by omega)]
    rw [show wg ((b.1.1, b.1.2), b.2.1, b.2.2.1, b.2.2.2.1, b.2.2.2.2.1, b.2.2.2.2.2) a c.2.1 = wg b a c.2.1 from rfl, haw, aZ]
    cases FN b a c.2.1 <;> rfl
   ·try dsimp only
    unfold dU
    rw [bX, last]
   ·cases List.any (c.2.2.1 ++ c.2.2.2.1) (fun id => (FN b id c.2.1).isSome) <;> rfl
  ·unfold DZ fw fw fw
   try dsimp only
   cases List.any (c.2.2.1 ++ c.2.2.2.1) (fun id => oX s id c.2.1 == 5) with
   | true => rfl
   | false =>
   cases List.any (c.2.2.1 ++ c.2.2.2.1) (fun id => oX s id c.2.1 == 4) <;> rfl
 refine Eq.trans (gK (b.2.2.2.2.1.take i) (fun x => x.1 == c.1) (fun z11 => ifb (ige z11 (0 : Int)) (some 6) (some (DZ b s c))) (some 6) (some (DZ b s c)) (fun j => ?_) (fun j a hj ha kn => ?_) (fun kn => ?_)) ?_
 ·have : ige (j : Int) 0 = true := by simp [ige]
  rw [bI this]
 ·try dsimp only
  unfold gI
  rw [rest, bC hj, bt ha, bv hj (by rw [List.length_take]; omega), dA]
 ·try dsimp only
  unfold gI
  rw [bX, rest]
 ·cases List.any (b.2.2.2.2.1.take i) (fun x => x.1 == c.1) <;> rfl
def Pd (b : bH) (g : cg) : List Int :=
 [g.2.1] ++ (b.2.2.2.2.1.filter fun c => !(c.2.2.1.contains g.1 == c.2.2.2.1.contains g.1)).map (fun c => c.2.1) ++ (b.2.2.2.2.2.filter fun n => n.1 == g.1).map (fun n => n.2)
def bO (b : bH) (g : cg) : List Int := SL (Pd b g)
structure jt (b : bH) : Prop where
 gauges : b.2.1.length ≤ 1000
 uses : b.2.2.1.length ≤ 1000
 loans : b.2.2.2.1.length ≤ 1000
 compares : b.2.2.2.2.1.length ≤ 1000
 looks : b.2.2.2.2.2.length ≤ 1000
 piles : ∀ c ∈ b.2.2.2.2.1, c.2.2.1.length ≤ 1000 ∧ c.2.2.2.1.length ≤ 1000
theorem PU (l : List Int) : (za l).length = l.length := List.length_mergeSort l
theorem Sg {b : bH} (hs : jt b) (g : cg) : (Pd b g).length ≤ 2001 := by
 have h1 := hs.compares
 have h2 := hs.looks
 have h3 := List.length_filter_le (fun c : Cmp => !(c.2.2.1.contains g.1 == c.2.2.2.1.contains g.1)) b.2.2.2.2.1
 have h4 := List.length_filter_le (fun n : Int × Int => n.1 == g.1) b.2.2.2.2.2
 simp only [Pd, List.length_append, List.length_map, List.length_singleton]
 omega
theorem Y8 {b : bH} (hs : jt b) (g : cg) : mC b g = some (bO b g) := by
 unfold mC OK
 have hr := Sg hs g
 have hd : (bO b g).length ≤ 2001 := by
  unfold bO
  have := FW (Pd b g)
  omega
 have hcl := hs.compares
 have hll := hs.looks
 refine cI b.2.2.2.2.1 (fun i => [g.2.1] ++ ((b.2.2.2.2.1.take i).filter fun c => !(c.2.2.1.contains g.1 == c.2.2.2.1.contains g.1)).map (fun c => c.2.1)) _ rfl (fun i c hi hc kn => ?_) (fun kn => ?_)
 ·try dsimp only
  unfold rQ
  obtain ⟨p1, p2⟩ := hs.piles c (List.mem_of_getElem? hc)
  rw [bC hi, bt hc, lS (by omega), aZ, lS (by omega), aZ, bv hi (by omega), bv hi (by omega), take_succ hc, List.filter_append, List.map_append]
  have hlen : ([g.2.1] ++ ((b.2.2.2.2.1.take i).filter fun c => !(c.2.2.1.contains g.1 == c.2.2.2.1.contains g.1)).map (fun c => c.2.1)).length ≤ 1001 := by
   have h3 := List.length_filter_le (fun c : Cmp => !(c.2.2.1.contains g.1 == c.2.2.2.1.contains g.1)) (b.2.2.2.2.1.take i)
   rw [List.length_take] at h3
   simp only [List.length_append, List.length_map, List.length_singleton]
   omega
  rw [bD (by simp only [List.length_singleton]; omega), Am.iff_true]
  cases h : (c.2.2.1.contains g.1 == c.2.2.2.1.contains g.1) with
  | true => simp only [Bool.not_true, b7, List.filter_cons, h, Bool.false_eq_true, if_false, List.filter_nil, List.map_nil, List.append_nil]
  | false => simp only [Bool.not_false, eD, List.filter_cons, h, if_true, List.filter_nil, List.map_cons, List.map_nil, List.append_assoc]
 ·try dsimp only
  unfold rQ
  rw [bX, List.take_length]
  refine cI b.2.2.2.2.2 (fun i => [g.2.1] ++ (b.2.2.2.2.1.filter fun c => !(c.2.2.1.contains g.1 == c.2.2.2.1.contains g.1)).map (fun c => c.2.1) ++ ((b.2.2.2.2.2.take i).filter fun n => n.1 == g.1).map (fun n => n.2)) _ (by simp) (fun i n hi hn kn => ?_) (fun kn => ?_)
  ·try dsimp only
   unfold rP
   rw [bC hi, bt hn, bv hi (by omega), bv hi (by omega), take_succ hn, List.filter_append, List.map_append]
   have hlen : ([g.2.1] ++ (b.2.2.2.2.1.filter fun c => !(c.2.2.1.contains g.1 == c.2.2.2.1.contains g.1)).map (fun c => c.2.1) ++ ((b.2.2.2.2.2.take i).filter fun n => n.1 == g.1).map (fun n => n.2)).length ≤ 2001 := by
    have h3 := List.length_filter_le (fun c : Cmp => !(c.2.2.1.contains g.1 == c.2.2.2.1.contains g.1)) b.2.2.2.2.1
    have h4 := List.length_filter_le (fun n : Int × Int => n.1 == g.1) (b.2.2.2.2.2.take i)
    rw [List.length_take] at h4
    simp only [List.length_append, List.length_map, List.length_singleton]
    omega
   rw [bD (by simp only [List.length_singleton]; omega), Am.iff_true]
   cases h : (n.1 == g.1) with
   | true =>
     have : ieq n.1 g.1 = true := h
     simp [h, this]
   | false =>
     have : ieq n.1 g.1 = false := h
     simp [h, this]
  ·try dsimp only
   unfold rP
   rw [bX, List.take_length]
   rw [show ([g.2.1] ++ (b.2.2.2.2.1.filter fun c => !(c.2.2.1.contains g.1 == c.2.2.2.1.contains g.1)).map (fun c => c.2.1) ++ (b.2.2.2.2.2.filter fun n => n.1 == g.1).map (fun n => n.2)) = Pd b g from rfl]
   dsimp only
   rw [bD (by omega), Am.iff_true, bD (by rw [PU]; omega), Am.iff_true, XJ]
   rfl
def bm (b : bH) : List (Int × Int) := b.2.1.flatMap fun g => (bO b g).map fun d => ((g.1, d) : Int × Int)
theorem Jh {b : bH} (hs : jt b) (g : cg) : (bO b g).length ≤ 2001 := by
 unfold bO
 have := FW (Pd b g)
 have := Sg hs g
 omega
theorem yO {α β : Type} (f : α → List β) (n : Nat) (h : ∀ a, (f a).length ≤ n) : ∀ l : List α, (l.flatMap f).length ≤ l.length * n
 | [] => by simp
 | a :: l => by
   have := yO f n h l
   have := h a
   simp only [List.flatMap_cons, List.length_append, List.length_cons, Nat.add_mul, Nat.one_mul]
   omega
theorem Nf {b : bH} (hs : jt b) : nO b = some (bm b) := by
 unfold nO Iu
 have hg := hs.gauges
 have hlen : ∀ l : List cg, (l.flatMap fun g => (bO b g).map fun d => ((g.1, d) : Int × Int)).length ≤ l.length * 2001 := fun l =>
  yO _ 2001 (fun g => by rw [List.length_map]; exact Jh hs g) l
 refine cI b.2.1 (fun i => (b.2.1.take i).flatMap fun g => (bO b g).map fun d => ((g.1, d) : Int × Int)) _ rfl (fun i g hi hg' kn => ?_) (fun kn => ?_)
 ·try dsimp only
  unfold oJ
  rw [bC hi, bt hg']
  rw [show mC ((b.1.1, b.1.2), b.2.1, b.2.2.1, b.2.2.2.1, b.2.2.2.2.1, b.2.2.2.2.2) g = mC b g from rfl, Y8 hs, aZ]
  have hd := Jh hs g
  have hi2 := hlen (b.2.1.take i)
  have htl : (b.2.1.take i).length ≤ 1000 := by rw [List.length_take]; omega
  refine cI (bO b g) (fun j => ((b.2.1.take i).flatMap fun g => (bO b g).map fun d => ((g.1, d) : Int × Int)) ++ ((bO b g).take j).map fun d => ((g.1, d) : Int × Int)) _ (by simp) (fun j d hj hd' kn' => ?_) (fun kn' => ?_)
  ·try dsimp only
   unfold oI
   rw [bC hj, bt hd', bv hj (by omega), take_succ hd', List.map_append]
   rw [bD (by simp only [List.length_append, List.length_map, List.length_take, List.length_singleton]; omega), Am.iff_true]
   simp
  ·try dsimp only
   unfold oI
   rw [bX, List.take_length]
   dsimp only
   rw [bv hi (by omega), take_succ hg', List.flatMap_append]
   simp
 ·try dsimp only
  unfold oJ
  rw [bX, List.take_length]
  rfl
def D0 (b : bH) (s : List (Int × cg)) : List Int :=
 b.2.2.1.map (fun u => aaa s u.1 u.2) ++ (b.2.2.2.1.mapIdx (fun i l => T4 b s i l) ++ (b.2.2.2.2.1.mapIdx (fun i c => wi b s i c) ++ b.2.2.2.2.2.map (fun u => aaa s u.1 u.2)))
theorem QL {α : Type} {f : Int → Option Int} {g : Nat → α → Int} (l : List α) (h : ∀ (i : Nat) (a : α), l[i]? = some a → f i = some (g i a)) : G4 f (tx l.length) = some (l.mapIdx g) := by
 have h1 : ∀ i, i < l.length → f (i : Int) = some ((l.mapIdx g)[i]?.getD 0) := by
  intro i hi
  rw [h i l[i] (List.getElem?_eq_getElem hi)]
  simp [hi]
 have h2 : ∀ x ∈ tx l.length, f x = some ((l.mapIdx g)[x.toNat]?.getD 0) := by
  intro x hx
  unfold tx at hx
  obtain ⟨i, hi, rfl⟩ := List.mem_map.1 hx
  rw [h1 i (by simpa using hi)]
  rfl
 rw [zB h2]
 congr 1
 refine List.ext_getElem (by simp [tx]) fun i h3 h4 => ?_
 have h5 : i < l.length := by simpa using h4
 simp [tx, h5]
theorem aaq {b : bH} (hs : jt b) (s : List (Int × cg)) : lK b s = some (D0 b s) := by
 unfold lK D0
 rw [zB (fun u _ => Qi s u.1 u.2), aZ, QL b.2.2.2.1 (fun i l hl => Sk hs.loans hs.uses s hl), aZ,
  QL b.2.2.2.2.1 (fun i c hc => Jm hs.compares hs.loans s (hs.piles c (List.mem_of_getElem? hc)).1 (hs.piles c (List.mem_of_getElem? hc)).2 hc), aZ, zB (fun u _ => Qi s u.1 u.2), aZ]
def bN (b : bH) : Int :=
 if !nY b.1 0 1000000 then 1 else
 if 12 < b.2.1.length then 2 else if 40 < b.2.2.1.length then 2 else if 12 < b.2.2.2.1.length then 2 else if 40 < b.2.2.2.2.1.length then 2 else if 10 < b.2.2.2.2.2.length then 2 else
 if l8 b != 0 then l8 b else
 match (D0 b (mY b)).find? (fun e => e != 0) with
 | some e => e
 | none => if 59 < (bm b).length then 2 else if 300 < 2 * b.2.1.length + 2 * ((bm b).length - b.2.1.length : Int) + 2 * b.2.2.2.2.1.length then 2 else 0
theorem Cj {b : bH} (hs : jt b) : (bm b).length ≤ 2001000 := by
 have := yO (fun g : cg => (bO b g).map fun d => ((g.1, d) : Int × Int)) 2001 (fun g => by rw [List.length_map]; exact Jh hs g) b.2.1
 have h2 := hs.gauges
 unfold bm
 omega
theorem gQ {b : bH} (hs : jt b) (hr : ∀ g ∈ b.2.1, I64 g.2.2.2.2.1.1) : b9 b = some (bN b) := by
 unfold b9 IG bN
 rw [Br, aZ]
 cases nY b.1 0 1000000 with
 | false => rfl
 | true =>
 have h1 := hs.gauges
 have h2 := hs.compares
 have h3 := Cj hs
 rw [bz (show (!true) = false from rfl), if_neg (by simp)]
 simp only [bU]
 by_cases c0 : 12 < b.2.1.length
 ·rw [bI (by simp [igt]; omega), if_pos c0]
 rw [bz (by simp [igt]; omega), if_neg c0]
 by_cases c1 : 40 < b.2.2.1.length
 ·rw [bI (by simp [igt]; omega), if_pos c1]
 rw [bz (by simp [igt]; omega), if_neg c1]
 by_cases c2 : 12 < b.2.2.2.1.length
 ·rw [bI (by simp [igt]; omega), if_pos c2]
 rw [bz (by simp [igt]; omega), if_neg c2]
 by_cases c3 : 40 < b.2.2.2.2.1.length
 ·rw [bI (by simp [igt]; omega), if_pos c3]
 rw [bz (by simp [igt]; omega), if_neg c3]
 by_cases c4 : 10 < b.2.2.2.2.2.length
 ·rw [bI (by simp [igt]; omega), if_pos c4]
 rw [bz (by simp [igt]; omega), if_neg c4]
 rw [Le hr h1, aZ]
 cases hm : (l8 b != 0) with
 | true =>
   have : ine (l8 b) 0 = true := hm
   rw [bI this, if_pos rfl]
 | false =>
 have : ine (l8 b) 0 = false := hm
 rw [bz this, if_neg (by simp)]
 rw [Lv h1, aZ]
 unfold P8
 rw [aaq hs, aZ]
 cases (D0 b (mY b)).find? (fun e => e != 0) with
 | some e => rfl
 | none =>
 dsimp only
 rw [Nf hs, aZ]
 by_cases c5 : 59 < (bm b).length
 ·rw [bI (by simp [igt]; omega), if_pos c5]
 rw [bz (by simp [igt]; omega), if_neg c5]
 rw [bG (by omega) (by omega), bG (by omega) (by omega), bG (by omega) (by omega), bG (by omega) (by omega), bG (by omega) (by omega), bG (by omega) (by omega)]
 by_cases c6 : 300 < 2 * b.2.1.length + 2 * ((bm b).length - b.2.1.length : Int) + 2 * b.2.2.2.2.1.length
 ·rw [bI (by simp [igt]; omega), if_pos c6]
 rw [bz (by simp [igt]; omega), if_neg c6]
end Go.Proofs.ZzM
end
noncomputable section
namespace Go.Proofs.ZzM
open Go Go.Am
theorem wrapU {n : Nat} (h : n < 18446744073709551616) : IntKind.wrap .u64 (n : Int) = n := by
 simp only [IntKind.wrap, IntKind.bits, IntKind.signed]
 simp
 omega
theorem wrapI {n : Nat} (h : n < 9223372036854775808) : IntKind.wrap .i64 (n : Int) = n := by
 simp only [IntKind.wrap, IntKind.bits, IntKind.signed]
 simp
 omega
def iN (l : List (Int × Int)) (x d : Int) : Option Nat := l.findIdx? fun n => decide (x = n.1) && decide (d = n.2)
theorem SE {l : List (Int × Int)} (hn : l.length ≤ 100000000) (x d : Int) : cd l (x, d) = some (match iN l x d with | some j => (j : Int) | none => -1) := by
 unfold cd fe
 refine Eq.trans (iq l (fun n => decide (x = n.1) && decide (d = n.2)) some (some (-1)) (fun i a hi ha kn => ?_) (fun kn => ?_)) ?_
 ·try dsimp only
  unfold dk
  rw [bC hi, bt ha, bv hi (by omega), dA, Bool.and_true]
 ·try dsimp only
  unfold dk
  rw [bX]
 ·unfold iN
  cases List.findIdx? (fun n => decide (x = n.1) && decide (d = n.2)) l <;> rfl
def atP (l : List (Int × Int)) (p : List Int) (d : Int) : Int :=
 match p with
 | [] => 0
 | x :: _ => match iN l x d with | some j => (j : Int) + 1 | none => 0
theorem jj {l : List (Int × Int)} {x d : Int} {j : Nat} (h : iN l x d = some j) : j < l.length ∧ l[j]? = some (x, d) := by
 unfold iN at h
 obtain ⟨hj, hp, _⟩ := List.findIdx?_eq_some_iff_getElem.1 h
 refine ⟨hj, ?_⟩
 rw [List.getElem?_eq_getElem hj]
 simp only [Bool.and_eq_true, decide_eq_true_eq] at hp
 congr 1
 exact Prod.ext hp.1.symm hp.2.symm
theorem ZI (m : Maker) (p : List Int) (d : Int) (hn : m.2.1.length ≤ 100000000) : gD m p d = some (atP m.2.1 p d) := by
 unfold gD uQ atP
 cases p with
 | nil => simp [bU, ieq]
 | cons x p =>
   have h : ieq (bK (x :: p)) 0 = false := by
    rw [bU]
    simp only [ieq, List.length_cons, beq_eq_false_iff_ne, ne_eq]
    omega
   rw [h, b7, show (0 : Int) = ((0 : Nat) : Int) from rfl, bt (a := x) rfl, SE hn, aZ]
   cases hx : iN m.2.1 x d with
   | none => dsimp only; rw [bG (by omega) (by omega)]; simp only [hx]; rfl
   | some j =>
     have := (jj hx).1
     dsimp only
     rw [bG (by omega) (by omega)]
     simp only [hx]
def E7 (s : List (Int × cg)) (p : List Int) : Int × Int :=
 match p with
 | [] => (0, 1)
 | x :: _ => match pO (k := tI) (v := br) x s with
   | some g => g.2.2.2.2.1
   | none => (0, 0)
theorem P7 (s : List (Int × cg)) (p : List Int) : gU s p = some (E7 s p) := by
 unfold gU lY E7
 cases p with
 | nil => simp [bU, ieq]
 | cons x p =>
   have h : ieq (bK (x :: p)) 0 = false := by
    rw [bU]
    simp only [ieq, List.length_cons, beq_eq_false_iff_ne, ne_eq]
    omega
   rw [h, b7, show (0 : Int) = ((0 : Nat) : Int) from rfl, bt (a := x) rfl]
   cases hx : pO (k := tI) (v := br) x s with
   | none => simp only [PF, hx]
   | some g => simp only [PF, hx]
theorem UN {l : List (Int × Int)} (hr : ∀ r ∈ l, I64 r.1) (hn : l.length ≤ 1000) : iW l = some (if l.any (fun r => !JR r) then 1 else 0) := by
 unfold iW H5
 refine Eq.trans (gK l (fun r => !JR r) (fun _ => some 1) (some 1) (some 0) (fun _ => rfl) (fun i a hi ha kn => ?_) (fun kn => ?_)) ?_
 ·try dsimp only
  unfold oE
  rw [bC hi, bt ha, Px (hr a (List.mem_of_getElem? ha)), aZ, bv hi (by omega), dA]
 ·try dsimp only
  unfold oE
  rw [bX]
 ·cases l.any (fun r => !JR r) <;> rfl
def sG (n d : Int) : Int × Int := (n / (Nat.gcd n.natAbs d.natAbs : Nat), d / (Nat.gcd n.natAbs d.natAbs : Nat))
theorem mn (r : Int × Int) : JR r = true ↔ 1 ≤ r.2 ∧ r.2 ≤ 2147483647 ∧ (r.1.natAbs : Int) ≤ 2147483647 ∧ Nat.gcd r.1.natAbs r.2.natAbs = 1 := by
 simp [JR]
theorem MX {n d : Int} (hd : 0 < d) : ∃ g : Nat, 0 < g ∧ g = Nat.gcd n.natAbs d.natAbs ∧ n = (sG n d).1 * g ∧ d = (sG n d).2 * g := by
 have hg : 0 < Nat.gcd n.natAbs d.natAbs := Nat.gcd_pos_of_pos_right _ (by omega)
 refine ⟨_, hg, rfl, ?_, ?_⟩
 ·exact (Int.ediv_mul_cancel (Int.ofNat_dvd_left.2 (Nat.gcd_dvd_left _ _))).symm
 ·exact (Int.ediv_mul_cancel (Int.ofNat_dvd_left.2 (Nat.gcd_dvd_right _ _))).symm
theorem Th {n d : Int} (hd : 0 < d) (hn : n.natAbs ≤ 2147483647) (hd2 : d ≤ 2147483647) : JR (sG n d) = true := by
 obtain ⟨g, h0, hg, h1, h2⟩ := MX (n := n) hd
 rw [mn]
 have a1 : n.natAbs = (sG n d).1.natAbs * g := by conv => lhs; rw [h1]; rw [Int.natAbs_mul, Int.natAbs_natCast]
 have a2 : d.natAbs = (sG n d).2.natAbs * g := by conv => lhs; rw [h2]; rw [Int.natAbs_mul, Int.natAbs_natCast]
 have p2 : 0 < (sG n d).2 := by
  rcases Int.lt_trichotomy (sG n d).2 0 with h | h | h
  ·have := Int.mul_neg_of_neg_of_pos h (show (0 : Int) < g by omega); omega
  ·rw [h] at h2; simp at h2; omega
  ·exact h
 have b1 : (sG n d).1.natAbs ≤ n.natAbs := by rw [a1]; exact Nat.le_mul_of_pos_right _ h0
 have b2 : (sG n d).2.natAbs ≤ d.natAbs := by rw [a2]; exact Nat.le_mul_of_pos_right _ h0
 refine ⟨by omega, by omega, by omega, ?_⟩
 have := Nat.gcd_mul_right (sG n d).1.natAbs g (sG n d).2.natAbs
 rw [← a1, ← a2, ← hg] at this
 have h3 : (Nat.gcd (sG n d).1.natAbs (sG n d).2.natAbs) * g = 1 * g := by omega
 exact Nat.eq_of_mul_eq_mul_right h0 h3
theorem Ly {n d : Int} (hd : 0 < d) (hn : n.natAbs ≤ 2147483647) (hd2 : d ≤ 2147483647) : nN n d = some (sG n d, 0) := by
 obtain ⟨g, h0, hg, h1, h2⟩ := MX (n := n) hd
 have hr := (mn _).1 (Th hd hn hd2)
 unfold nN yu
 rw [MS ⟨by omega, by omega⟩, aZ, MS ⟨by omega, by omega⟩, aZ, abK, aZ, ← hg]
 have a1 : n.natAbs = (sG n d).1.natAbs * g := by conv => lhs; rw [h1]; rw [Int.natAbs_mul, Int.natAbs_natCast]
 have a2 : d.natAbs = (sG n d).2.natAbs * g := by conv => lhs; rw [h2]; rw [Int.natAbs_mul, Int.natAbs_natCast]
 have q1 : Int.tdiv (n.natAbs : Int) (g : Int) = ((sG n d).1.natAbs : Int) := by
  rw [a1, Int.natCast_mul]; exact Int.mul_tdiv_cancel _ (by omega)
 have q2 : Int.tdiv (d.natAbs : Int) (g : Int) = ((sG n d).2.natAbs : Int) := by
  rw [a2, Int.natCast_mul]; exact Int.mul_tdiv_cancel _ (by omega)
 have z : fo (g : Int) 0 = false := by simp [fo]; omega
 have g1 : igt ((sG n d).1.natAbs : Int) 2147483647 = false := by simp [igt]; omega
 have g2 : igt ((sG n d).2.natAbs : Int) 2147483647 = false := by simp [igt]; omega
 rw [bz z, bz z, q1, q2, wrapU (by omega), wrapU (by omega), wrapI (by omega), wrapI (by omega), bz g1, bz g2]
 have hd0 : ilt d 0 = false := by simp [ilt]; omega
 rw [hd0]
 have e2 : ((sG n d).2.natAbs : Int) = (sG n d).2 := by omega
 rw [e2]
 by_cases hneg : n < 0
 ·have hn0 : ilt n 0 = true := by simp [ilt, hneg]
  have : (sG n d).1 ≤ 0 := by
   rcases Int.lt_or_le 0 (sG n d).1 with h | h
   ·have := Int.mul_pos h (show (0 : Int) < g by omega); omega
   ·exact h
  rw [hn0]
  rw [show (!true == false) = true from rfl, eD, bG (by omega) (by omega)]
  have : 0 - ((sG n d).1.natAbs : Int) = (sG n d).1 := by omega
  rw [this]
 ·have hn0 : ilt n 0 = false := by simp [ilt]; omega
  have : 0 ≤ (sG n d).1 := by
   rcases Int.lt_or_le (sG n d).1 0 with h | h
   ·have := Int.mul_neg_of_neg_of_pos h (show (0 : Int) < g by omega); omega
   ·exact h
  rw [hn0]
  rw [show (!false == false) = false from rfl, b7]
  have : ((sG n d).1.natAbs : Int) = (sG n d).1 := by omega
  rw [this]
structure qJ (r : Int × Int) (n d : Int) : Prop where
 rat : JR r = true
 num : -n ≤ r.1 ∧ r.1 ≤ n
 den : r.2 ≤ d
theorem qJ.pos {r : Int × Int} {n d : Int} (h : qJ r n d) : 1 ≤ r.2 := ((mn r).1 h.rat).1
theorem qJ.i64 {r : Int × Int} {n d : Int} (h : qJ r n d) : I64 r.1 := by
 have := ((mn r).1 h.rat).2.2.1
 exact ⟨by omega, by omega⟩
theorem Xx {x y : Int × Int} (hx : JR x = true) (hy : JR y = true) : iW [x, y] = some 0 := by
 rw [UN]
 ·simp [hx, hy]
 ·intro r hr
  have : JR r = true := by simp at hr; rcases hr with rfl | rfl <;> assumption
  have := ((mn r).1 this).2.2.1
  exact ⟨by omega, by omega⟩
 ·simp
theorem oe {a b m n : Int} (h1 : -m ≤ a ∧ a ≤ m) (h2 : -n ≤ b ∧ b ≤ n) : -(m * n) ≤ a * b ∧ a * b ≤ m * n := by
 have hm : 0 ≤ m := by omega
 have hn : 0 ≤ n := by omega
 have h3 : (a * b).natAbs ≤ (m * n).natAbs := by
  rw [Int.natAbs_mul, Int.natAbs_mul]
  exact Nat.mul_le_mul (by omega) (by omega)
 have h4 : 0 ≤ m * n := Int.mul_nonneg hm hn
 omega
def subP (x y : Int × Int) : Int × Int := sG (x.1 * y.2 - y.1 * x.2) (x.2 * y.2)
theorem Lr {x y : Int × Int} (hx : qJ x 1000 100) (hy : qJ y 1000 100) : (x.1 * y.2 - y.1 * x.2).natAbs ≤ 200000 ∧ 0 < x.2 * y.2 ∧ x.2 * y.2 ≤ 10000 := by
 have h1 := oe hx.num (show -100 ≤ y.2 ∧ y.2 ≤ 100 from ⟨by have := hy.pos; omega, hy.den⟩)
 have h2 := oe hy.num (show -100 ≤ x.2 ∧ x.2 ≤ 100 from ⟨by have := hx.pos; omega, hx.den⟩)
 have h3 := oe (show -100 ≤ x.2 ∧ x.2 ≤ 100 from ⟨by have := hx.pos; omega, hx.den⟩) (show -100 ≤ y.2 ∧ y.2 ≤ 100 from ⟨by have := hy.pos; omega, hy.den⟩)
 have h4 := Int.mul_pos (show 0 < x.2 by have := hx.pos; omega) (show 0 < y.2 by have := hy.pos; omega)
 refine ⟨by omega, h4, by omega⟩
theorem Sub_ok {x y : Int × Int} (hx : qJ x 1000 100) (hy : qJ y 1000 100) : Pa x y = some (subP x y, 0) := by
 obtain ⟨b1, b2, b3⟩ := Lr hx hy
 have h1 := oe hx.num (show -100 ≤ y.2 ∧ y.2 ≤ 100 from ⟨by have := hy.pos; omega, hy.den⟩)
 have h2 := oe hy.num (show -100 ≤ x.2 ∧ x.2 ≤ 100 from ⟨by have := hx.pos; omega, hx.den⟩)
 unfold Pa TP
 rw [Xx hx.rat hy.rat, aZ]
 rw [show ine (0 : Int) 0 = false from rfl, b7, bG (by omega) (by omega), bG (by omega) (by omega), bG (by omega) (by omega), bG (by omega) (by omega), Ly b2 (by omega) (by omega), aZ]
 rfl
theorem XT {n d : Int} (hd : 0 < d) : (sG n d).1.natAbs ≤ n.natAbs ∧ (sG n d).2 ≤ d := by
 obtain ⟨g, h0, hg, h1, h2⟩ := MX (n := n) hd
 have a1 : n.natAbs = (sG n d).1.natAbs * g := by conv => lhs; rw [h1]; rw [Int.natAbs_mul, Int.natAbs_natCast]
 have a2 : d.natAbs = (sG n d).2.natAbs * g := by conv => lhs; rw [h2]; rw [Int.natAbs_mul, Int.natAbs_natCast]
 have b1 : (sG n d).1.natAbs ≤ n.natAbs := by rw [a1]; exact Nat.le_mul_of_pos_right _ h0
 have b2 : (sG n d).2.natAbs ≤ d.natAbs := by rw [a2]; exact Nat.le_mul_of_pos_right _ h0
 exact ⟨b1, by omega⟩
theorem MN {x y : Int × Int} (hx : qJ x 1000 100) (hy : qJ y 1000 100) : qJ (subP x y) 200000 10000 := by
 obtain ⟨b1, b2, b3⟩ := Lr hx hy
 obtain ⟨c1, c2⟩ := XT (n := x.1 * y.2 - y.1 * x.2) b2
 exact ⟨Th b2 (by omega) (by omega), by unfold subP; omega, by unfold subP; omega⟩
def Xl (k : Int × Int) (n : Int) : Int × Int := sG (k.1 * n) k.2
theorem LP {k : Int × Int} (hk : qJ k 200000 10000) {n : Int} (hn : -10000 ≤ n ∧ n ≤ 10000) : (k.1 * n).natAbs ≤ 2000000000 := by
 have := oe hk.num hn
 omega
theorem T6 {n : Int} (hn : -10000 ≤ n ∧ n ≤ 10000) : JR (n, 1) = true := by
 rw [mn]
 exact ⟨by simp, by simp, by simp; omega, by simp⟩
theorem abX {k : Int × Int} (hk : qJ k 200000 10000) {n : Int} (hn : -10000 ≤ n ∧ n ≤ 10000) : Jc k (n, 1) = some (Xl k n, 0) := by
 have b := LP hk hn
 have p := hk.pos
 have q := hk.den
 unfold Jc TR
 rw [Xx hk.rat (T6 hn), aZ]
 rw [show ine (0 : Int) 0 = false from rfl, b7, bG (by simp only; omega) (by simp only; omega), Int.mul_one, bG (by omega) (by omega), Ly (by omega) (by simp only; omega) (by omega), aZ]
 rfl
theorem Nj {k : Int × Int} (hk : qJ k 200000 10000) {n : Int} (hn : -10000 ≤ n ∧ n ≤ 10000) : qJ (Xl k n) 2000000000 10000 := by
 have b := LP hk hn
 have p := hk.pos
 have q := hk.den
 obtain ⟨c1, c2⟩ := XT (n := k.1 * n) (show 0 < k.2 by omega)
 exact ⟨Th (by omega) (by omega) (by omega), by unfold Xl; omega, by unfold Xl; omega⟩
def cmpP (x y : Int × Int) : Int := if x = y then 0 else if x.1 * y.2 < y.1 * x.2 then -1 else if y.1 * x.2 < x.1 * y.2 then 1 else 0
theorem abP {x y : Int × Int} {m d : Int} (hx : qJ x m d) (hy : qJ y m d) (hm : m ≤ 2000000000) (hd : d ≤ 10000) : Ja x y = some (cmpP x y) := by
 have h1 := oe hx.num (show -d ≤ y.2 ∧ y.2 ≤ d from ⟨by have := hy.pos; have := hy.den; omega, hy.den⟩)
 have h2 := oe hy.num (show -d ≤ x.2 ∧ x.2 ≤ d from ⟨by have := hx.pos; have := hx.den; omega, hx.den⟩)
 have h0 : 0 ≤ m ∧ 0 ≤ d := ⟨by have := hx.num; omega, by have := hx.pos; have := hx.den; omega⟩
 have h3 : m * d ≤ 2000000000 * 10000 := Int.mul_le_mul hm hd h0.2 (by omega)
 unfold Ja TN cmpP
 rw [bG (by omega) (by omega), bG (by omega) (by omega)]
 simp only [dA, Bool.and_true, Bool.and_eq_true, decide_eq_true_eq, fo, ilt, igt, gt_iff_lt]
 have : (x.1 = y.1 ∧ x.2 = y.2) ↔ x = y := ⟨fun h => Prod.ext h.1 h.2, fun h => by rw [h]; exact ⟨rfl, rfl⟩⟩
 simp only [this]
 (repeat' split) <;> rfl
def Wh (k : Int × Int) (heat : Int × Int) : (Int × Int) × (Int × Int) :=
 if 0 < cmpP (Xl k heat.1) (Xl k heat.2) then (Xl k heat.2, Xl k heat.1) else (Xl k heat.1, Xl k heat.2)
theorem aci {k heat : Int × Int} (hk : qJ k 200000 10000) (hh : nY heat (-10000) 10000 = true) : mB k heat = some (Wh k heat) := by
 simp only [nY, Bool.and_eq_true, decide_eq_true_eq] at hh
 obtain ⟨h1, h2, h3⟩ := hh
 have n1 : -10000 ≤ heat.1 ∧ heat.1 ≤ 10000 := ⟨by omega, by omega⟩
 have n2 : -10000 ≤ heat.2 ∧ heat.2 ≤ 10000 := ⟨by omega, by omega⟩
 have r1 : qJ (heat.1, 1) 10000 10000 := ⟨T6 n1, n1, by simp⟩
 have r2 : qJ (heat.2, 1) 10000 10000 := ⟨T6 n2, n2, by simp⟩
 unfold mB rE Jb If pB pq
 rw [Xx r1.rat r2.rat, aZ]
 have : ieq 0 0 = true := rfl
 rw [bI this, abP r1 r2 (by omega) (by omega), aZ]
 have hc : ile (cmpP (heat.1, 1) (heat.2, 1)) 0 = true := by
  unfold cmpP
  simp only [ile, decide_eq_true_eq, Int.mul_one]
  split
  ·omega
  ·split
   ·omega
   ·rw [if_neg (by omega)]; omega
 rw [hc, aZ]
 simp only [Bool.not_true, b7]
 rw [Px hk.i64, hk.rat, aZ]
 simp only [Bool.not_true, b7]
 rw [abX hk n1, aZ, abX hk n2, aZ]
 simp only [show ine (0 : Int) 0 = false from rfl, b7]
 rw [abP (Nj hk n1) (Nj hk n2) (by omega) (by omega), aZ]
 unfold Wh
 rw [dA]
 by_cases h : 0 < cmpP (Xl k heat.1) (Xl k heat.2)
 ·rw [if_pos h, if_pos (by simpa [igt] using h)]; rfl
 ·rw [if_neg h, if_neg (by simpa [igt] using h)]; rfl
def rateK (s : List (Int × cg)) (c : Cmp) : Int × Int := subP (E7 s (cB c.2.2.1 c.2.2.2.1)) (E7 s (cB c.2.2.2.1 c.2.2.1))
def dN (b : bH) (c : Cmp) : (Int × Int) × (Int × Int) := Wh (rateK (mY b) c) c.2.2.2.2.2.2
theorem R0 {b : bH} (hs : jt b) {c : Cmp} (hA : c.2.2.1.length ≤ 1000) (hB : c.2.2.2.1.length ≤ 1000)
 (h1 : qJ (E7 (mY b) (cB c.2.2.1 c.2.2.2.1)) 1000 100) (h2 : qJ (E7 (mY b) (cB c.2.2.2.1 c.2.2.1)) 1000 100) (hh : nY c.2.2.2.2.2.2 (-10000) 10000 = true) : mS b c = some (dN b c) := by
 unfold mS C8
 rw [Lv hs.gauges, aZ, pw (by omega) (by omega), aZ, P7, aZ, pw (by omega) (by omega), aZ, P7, aZ]
 unfold sg rG
 rw [Sub_ok h1 h2, aZ, aZ]
 try dsimp only
 rw [aci (MN h1 h2) hh, aZ]
 rfl
def jo (b : bH) (c : Cmp) : Int × Int :=
 (((c.2.2.1.length - 1 : Nat) : Int) * b.1.1 - ((c.2.2.2.1.length - 1 : Nat) : Int) * b.1.2, ((c.2.2.1.length - 1 : Nat) : Int) * b.1.2 - ((c.2.2.2.1.length - 1 : Nat) : Int) * b.1.1)
theorem VA {b : bH} {c : Cmp} (hA : c.2.2.1.length ≤ 1000) (hB : c.2.2.2.1.length ≤ 1000) (h1 : 0 ≤ b.1.1) (h2 : b.1.1 ≤ 1000000) (h3 : 0 ≤ b.1.2) (h4 : b.1.2 ≤ 1000000) : qD b c = some (jo b c) := by
 unfold qD IB jo
 have e : ∀ n : Nat, SN 0 ((n : Int) - 1) = ((n - 1 : Nat) : Int) := by
  intro n
  unfold SN
  split <;> omega
 have bd : ∀ (n : Nat) (x : Int), n ≤ 1000 → 0 ≤ x → x ≤ 1000000 → 0 ≤ ((n - 1 : Nat) : Int) * x ∧ ((n - 1 : Nat) : Int) * x ≤ 1000000000 := by
  intro n x hn h0 hx
  refine ⟨Int.mul_nonneg (by omega) h0, ?_⟩
  have := Int.mul_le_mul (show ((n - 1 : Nat) : Int) ≤ 1000 by omega) hx h0 (by omega)
  omega
 have b1 := bd _ _ hA h1 h2
 have b2 := bd _ _ hA h3 h4
 have b3 := bd _ _ hB h1 h2
 have b4 := bd _ _ hB h3 h4
 simp only [bU]
 rw [bG (by omega) (by omega), bG (by omega) (by omega)]
 simp only [e]
 rw [bG (by omega) (by omega), bG (by omega) (by omega), bG (by omega) (by omega), bG (by omega) (by omega), bG (by omega) (by omega), bG (by omega) (by omega)]
theorem Vy {n d : Int} (hd : 1 ≤ d) (hn : -4000000000 ≤ n ∧ n ≤ 4000000000) : vo n d = some (n / d) := by
 unfold vo Ia
 have z : fo d 0 = false := by simp [fo]; omega
 rw [bz z]
 have t := Int.mul_tdiv_add_tmod n d
 have b1 : -4000000000 ≤ Int.tdiv n d ∧ Int.tdiv n d ≤ 4000000000 := by
  have := Int.natAbs_tdiv_le_natAbs n d
  omega
 rw [bG (by omega) (by omega), bz z, dA]
 by_cases h : Int.tmod n d < 0
 ·rw [if_pos (by simpa [ilt] using h), bG (by omega) (by omega)]
  congr 1
  have h5 : -d < Int.tmod n d := by
   have h6 := Int.natAbs_tmod n d
   have h7 := Nat.mod_lt n.natAbs (show 0 < d.natAbs by omega)
   omega
  refine (Int.ediv_eq_iff_of_pos (by omega)).2 ⟨?_, ?_⟩ |>.symm
  ·rw [Int.sub_mul, Int.mul_comm]; omega
  ·rw [Int.sub_mul, Int.mul_comm (Int.tdiv n d)]; omega
 ·rw [if_neg (by simpa [ilt] using h)]
  congr 1
  have h5 : Int.tmod n d < d := by
   have h6 := Int.natAbs_tmod n d
   have h7 := Nat.mod_lt n.natAbs (show 0 < d.natAbs by omega)
   omega
  refine (Int.ediv_eq_iff_of_pos (by omega)).2 ⟨?_, ?_⟩ |>.symm
  ·rw [Int.mul_comm]; omega
  ·rw [Int.mul_comm (Int.tdiv n d)]; omega
theorem abC {x : Int × Int} (hx : JR x = true) : iW [x] = some 0 := by
 rw [UN]
 ·simp [hx]
 ·intro r hr
  have : JR r = true := by simp at hr; subst hr; assumption
  have := ((mn r).1 this).2.2.1
  exact ⟨by omega, by omega⟩
 ·simp
def Jq (r : Int × Int) : Int := -(-r.1 / r.2)
theorem V1 {r : Int × Int} (h : JR r = true) : vp r = some (r.1 / r.2, 0) := by
 unfold vp Ii
 have := (mn r).1 h
 rw [abC h, aZ]
 rw [show ine (0 : Int) 0 = false from rfl, b7, Vy (by omega) (by omega), aZ]
theorem Dx {n d : Int} (hd : 1 ≤ d) : (n / d).natAbs ≤ n.natAbs := by
 exact Int.natAbs_ediv_le_natAbs n d
theorem ZY {r : Int × Int} (h : JR r = true) : BJ r = some (Jq r, 0) := by
 unfold BJ Oi Jq
 have := (mn r).1 h
 rw [abC h, aZ]
 rw [show ine (0 : Int) 0 = false from rfl, b7, bG (by omega) (by omega), Vy (by omega) (by omega), aZ]
 have hb := Dx (n := 0 - r.1) (show 1 ≤ r.2 by omega)
 rw [bG (by omega) (by omega), Int.zero_sub, Int.zero_sub]
def f8 (b : bH) (c : Cmp) : Int × Int :=
 (c.2.2.2.2.1 - c.2.2.2.2.2.1 - (jo b c).2 - (dN b c).2.1 / (dN b c).2.2, c.2.2.2.2.1 + c.2.2.2.2.2.1 - (jo b c).1 - Jq (dN b c).1)
end Go.Proofs.ZzM
end
noncomputable section
namespace Go.Proofs.ZzM
open Go Go.Am
structure cW (b : bH) : Prop where
 film : 0 ≤ b.1.1 ∧ b.1.1 ≤ b.1.2 ∧ b.1.2 ≤ 1000000
 nG : b.2.1.length ≤ 12
 nU : b.2.2.1.length ≤ 40
 nL : b.2.2.2.1.length ≤ 12
 nC : b.2.2.2.2.1.length ≤ 40
 nK : b.2.2.2.2.2.length ≤ 10
 gauge : ∀ g ∈ b.2.1, xw g = true
 ids : b.2.1.Pairwise fun a b => a.1 < b.1
 uses : ∀ u ∈ b.2.2.1, aaa (mY b) u.1 u.2 = 0
 loans : ∀ i l, b.2.2.2.1[i]? = some l → T4 b (mY b) i l = 0
 compares : ∀ i c, b.2.2.2.2.1[i]? = some c → wi b (mY b) i c = 0
 looks : ∀ u ∈ b.2.2.2.2.2, aaa (mY b) u.1 u.2 = 0
 nodes : (bm b).length ≤ 59
 links : 2 * (bm b).length + 2 * b.2.2.2.2.1.length ≤ 300
theorem IW (b : bH) : l8 b = 0 ↔ (∀ g ∈ b.2.1, xw g = true) ∧ b.2.1.Pairwise fun a b => a.1 < b.1 := by
 have h0 : fw (vh b.2.1) 0 b.2.1 = none ↔ (∀ g ∈ b.2.1, xw g = true) ∧ b.2.1.Pairwise fun a b => a.1 < b.1 := by
  rw [kK, ← VS (fun g : cg => g.1) b.2.1]
  constructor
  ·intro h
   have h1 : ∀ (j : Nat) (a : cg), b.2.1[j]? = some a → xw a = true ∧ JC (fun g : cg => g.1) b.2.1 j a = false := by
    intro j a ha
    have := h j a ha
    rw [Nat.zero_add] at this
    unfold vh at this
    split at this
    ·cases this
    ·split at this
     ·cases this
     ·rename_i h1 h2
      exact ⟨by simpa using h1, by simpa using h2⟩
   refine ⟨fun x hx => ?_, fun i a ha => (h1 i a ha).2⟩
   obtain ⟨j, hj, rfl⟩ := List.mem_iff_getElem.1 hx
   exact (h1 j _ (List.getElem?_eq_getElem hj)).1
  ·rintro ⟨h1, h2⟩ j a ha
   rw [Nat.zero_add]
   simp [vh, h1 a (List.mem_of_getElem? ha), h2 j a ha]
 rw [← h0]
 unfold l8
 cases h : fw (vh b.2.1) 0 b.2.1 with
 | none => simp
 | some e =>
   have : ∀ (m : List cg) (j : Nat) (x : Int), fw (vh b.2.1) j m = some x → x ≠ 0 := by
    intro m
    induction m with
    | nil => intro j x h; cases h
    | cons a m ih =>
      intro j x h
      unfold fw at h
      cases hp : vh b.2.1 j a with
      | none => rw [hp] at h; exact ih _ _ h
      | some y =>
        rw [hp] at h
        cases h
        unfold vh at hp
        split at hp
        ·cases hp; omega
        ·split at hp
         ·cases hp; omega
         ·cases hp
   simp [this _ _ _ h]
theorem bE (b : bH) : bN b = 0 ↔ cW b := by
 unfold bN
 constructor
 ·intro h
  split at h
  ·omega
  rename_i h1
  (repeat' split at h) <;> try omega
  ·rename_i hg
   have hg' : l8 b ≠ 0 := by simpa using hg
   exact (hg' h).elim
  ·rename_i hf
   have := List.find?_some hf
   rename_i e
   simp at this
   exact (this h).elim
  ·rename_i hn1 hn2 hn3 hn4 hn5 hg e hf hn6 hn7
   have hg0 : l8 b = 0 := by simpa using hg
   obtain ⟨g1, g2⟩ := (IW b).1 hg0
   have hall : ∀ x ∈ D0 b (mY b), x = 0 := fun x hx => by
    have := List.find?_eq_none.1 hf x hx
    simpa using this
   simp only [D0, List.mem_append] at hall
   have hs : nY b.1 0 1000000 = true := by simpa using h1
   simp only [nY, Bool.and_eq_true, decide_eq_true_eq] at hs
   refine ⟨⟨hs.1, hs.2.1, hs.2.2⟩, by omega, by omega, by omega, by omega, by omega, g1, g2, fun u hu => hall _ (.inl (List.mem_map.2 ⟨u, hu, rfl⟩)), fun i l hl => ?_, fun i c hc => ?_, fun u hu => hall _ (.inr (.inr (.inr (List.mem_map.2 ⟨u, hu, rfl⟩)))), by omega, by omega⟩
   ·obtain ⟨hi, rfl⟩ := List.getElem?_eq_some_iff.1 hl
    exact hall _ (.inr (.inl (List.mem_mapIdx.2 ⟨i, hi, rfl⟩)))
   ·obtain ⟨hi, rfl⟩ := List.getElem?_eq_some_iff.1 hc
    exact hall _ (.inr (.inr (.inl (List.mem_mapIdx.2 ⟨i, hi, rfl⟩))))
 ·intro h
  have hs : nY b.1 0 1000000 = true := by simp [nY, h.film.1, h.film.2.1, h.film.2.2]
  have hg : l8 b = 0 := (IW b).2 ⟨h.gauge, h.ids⟩
  have hall : (D0 b (mY b)).find? (fun e => e != 0) = none := by
   rw [List.find?_eq_none]
   intro x hx
   simp only [D0, List.mem_append, List.mem_map, List.mem_mapIdx] at hx
   have : x = 0 := by
    rcases hx with ⟨u, hu, rfl⟩ | ⟨i, hi, rfl⟩ | ⟨i, hi, rfl⟩ | ⟨u, hu, rfl⟩
    ·exact h.uses u hu
    ·exact h.loans i _ (List.getElem?_eq_getElem hi)
    ·exact h.compares i _ (List.getElem?_eq_getElem hi)
    ·exact h.looks u hu
   simp [this]
  have := h.nG; have := h.nU; have := h.nL; have := h.nC; have := h.nK; have := h.nodes; have := h.links
  rw [hs, hg, hall]
  simp only [Bool.not_true, Bool.false_eq_true, if_false, bne_self_eq_false]
  rw [if_neg (by omega), if_neg (by omega), if_neg (by omega), if_neg (by omega), if_neg (by omega), if_neg (by omega), if_neg (by omega)]
section
variable {b : bH}
theorem fI {l : List Int} (h : mo l = true) : l.length ≤ 6 := ((Qe l).1 h).2.2
theorem cW.nums (h : cW b) {c : Cmp} (hc : c ∈ b.2.2.2.2.1) : Wo c = true := by
 obtain ⟨i, hi, rfl⟩ := List.mem_iff_getElem.1 hc
 have := h.compares i _ (List.getElem?_eq_getElem hi)
 unfold wi at this
 split at this
 ·omega
 ·rename_i h; simpa using h
theorem cW.pilesOf (h : cW b) {c : Cmp} (hc : c ∈ b.2.2.2.2.1) : DZ b (mY b) c = 0 := by
 obtain ⟨i, hi, rfl⟩ := List.mem_iff_getElem.1 hc
 have := h.compares i _ (List.getElem?_eq_getElem hi)
 unfold wi at this
 split at this
 ·omega
 ·split at this
  ·omega
  ·exact this
theorem jF (c : Cmp) : Wo c = true ↔ (1 ≤ c.1 ∧ c.1 ≤ 1099511627776) ∧ (0 ≤ c.2.1 ∧ c.2.1 ≤ 20000) ∧ (-1125899906842624 ≤ c.2.2.2.2.1 ∧ c.2.2.2.2.1 ≤ 1125899906842624) ∧ (0 ≤ c.2.2.2.2.2.1 ∧ c.2.2.2.2.2.1 ≤ 1073741824) ∧ nY c.2.2.2.2.2.2 (-10000) 10000 = true ∧ mo c.2.2.1 = true ∧ mo c.2.2.2.1 = true := by
 simp [Wo, inP, Ui, and_assoc]
theorem cW.size (h : cW b) : jt b := by
 have h1 := h.nG; have h2 := h.nU; have h3 := h.nL; have h4 := h.nC; have h5 := h.nK
 refine ⟨by omega, by omega, by omega, by omega, by omega, fun c hc => ?_⟩
 have := (jF c).1 (h.nums hc)
 have a := fI this.2.2.2.2.2.1
 have b := fI this.2.2.2.2.2.2
 omega
theorem Mp (g : cg) : xw g = true ↔ JR g.2.2.2.2.1 = true ∧ (-1000 ≤ g.2.2.2.2.1.1 ∧ g.2.2.2.2.1.1 ≤ 1000) ∧ g.2.2.2.2.1.2 ≤ 100 ∧ (1 ≤ g.1 ∧ g.1 ≤ 1099511627776) ∧ (0 ≤ g.2.1 ∧ g.2.1 ≤ 20000) ∧ (1 ≤ g.2.2.1 ∧ g.2.2.1 ≤ 1125899906842624) ∧ (-1073741824 ≤ g.2.2.2.1.1 ∧ g.2.2.2.1.1 ≤ g.2.2.2.1.2 ∧ g.2.2.2.1.2 ≤ 1073741824) ∧ (0 ≤ g.2.2.2.2.2 ∧ g.2.2.2.2.2 ≤ 1048576) := by
 simp [xw, inP, Ui, nY, and_assoc]
theorem oP {id : Int} {g : cg} (h : jT b id = some g) : g ∈ b.2.1 ∧ g.1 = id := by
 unfold jT at h
 exact ⟨List.mem_of_find?_eq_some h, by simpa using List.find?_some h⟩
theorem yJ (hi : b.2.1.Pairwise fun a b => a.1 < b.1) {g : cg} (hg : g ∈ b.2.1) : jT b g.1 = some g := by
 unfold jT
 induction hl : b.2.1 generalizing b with
 | nil => rw [hl] at hg; cases hg
 | cons a t ih =>
   rw [hl] at hg hi
   rw [List.pairwise_cons] at hi
   rw [List.find?_cons]
   rcases List.mem_cons.1 hg with rfl | hg
   ·simp
   ·have h1 := hi.1 g hg
    have : (a.1 == g.1) = false := by simp; omega
    rw [this]
    have := ih (b := (b.1, t, b.2.2)) hi.2 hg rfl
    exact this
theorem Ck (h : cW b) {id day : Int} (hm : oX (mY b) id day = 0) : ∃ g, jT b id = some g ∧ g.2.1 ≤ day := by
 unfold oX at hm
 rw [LQ h.ids] at hm
 split at hm
 ·rename_i g hg
  split at hm
  ·omega
  ·exact ⟨g, hg, by omega⟩
 ·omega
theorem Tt (s : List (Int × cg)) (id day : Int) : oX s id day = 0 ∨ oX s id day = 4 ∨ oX s id day = 5 := by
 unfold oX
 split
 ·split <;> simp
 ·simp
theorem cW.pile (h : cW b) {c : Cmp} (hc : c ∈ b.2.2.2.2.1) {x : Int} (hx : x ∈ c.2.2.1 ++ c.2.2.2.1) : (∃ g, jT b x = some g ∧ g.2.1 ≤ c.2.1) ∧ FN b x c.2.1 = none := by
 have hp := h.pilesOf hc
 unfold DZ at hp
 split at hp
 ·omega
 rename_i h5
 split at hp
 ·omega
 rename_i h4
 split at hp
 ·omega
 rename_i h9
 have a5 := (List.any_eq_false.1 (Bool.eq_false_iff.2 h5)) x hx
 have a4 := (List.any_eq_false.1 (Bool.eq_false_iff.2 h4)) x hx
 have a9 := (List.any_eq_false.1 (Bool.eq_false_iff.2 h9)) x hx
 simp at a5 a4 a9
 refine ⟨Ck h ?_, a9⟩
 rcases Tt (mY b) x c.2.1 with h0 | h0 | h0
 ·exact h0
 ·exact (a4 h0).elim
 ·exact (a5 h0).elim
theorem cW.lefts (h : cW b) {c : Cmp} (hc : c ∈ b.2.2.2.2.1) : (cB c.2.2.1 c.2.2.2.1).length ≤ 1 ∧ (cB c.2.2.2.1 c.2.2.1).length ≤ 1 ∧ (cB c.2.2.1 c.2.2.2.1).length + (cB c.2.2.2.1 c.2.2.1).length ≠ 0 := by
 have hp := h.pilesOf hc
 unfold DZ at hp
 (repeat' split at hp) <;> first | omega | exact ⟨by omega, by omega, by omega⟩
theorem lJ {a c : List Int} {x : Int} : x ∈ cB a c ↔ x ∈ a ∧ x ∉ c := by
 simp [cB]
theorem cW.rate (h : cW b) {p : List Int} (hp : ∀ x ∈ p, ∃ g, jT b x = some g) : qJ (E7 (mY b) p) 1000 100 := by
 unfold E7
 cases p with
 | nil =>
   have : qJ (0, 1) 1000 100 := ⟨by decide, by decide, by decide⟩
   exact this
 | cons x t =>
   obtain ⟨g, hg⟩ := hp x (by simp)
   try dsimp only
   rw [LQ h.ids, hg]
   have := (Mp g).1 (h.gauge g (oP hg).1)
   exact ⟨this.1, this.2.1, this.2.2.1⟩
theorem cW.rates (h : cW b) {c : Cmp} (hc : c ∈ b.2.2.2.2.1) : qJ (E7 (mY b) (cB c.2.2.1 c.2.2.2.1)) 1000 100 ∧ qJ (E7 (mY b) (cB c.2.2.2.1 c.2.2.1)) 1000 100 := by
 constructor
 ·exact h.rate fun x hx => by
   obtain ⟨⟨g, hg, _⟩, _⟩ := h.pile hc (List.mem_append_left _ (lJ.1 hx).1)
   exact ⟨g, hg⟩
 ·exact h.rate fun x hx => by
   obtain ⟨⟨g, hg, _⟩, _⟩ := h.pile hc (List.mem_append_right _ (lJ.1 hx).1)
   exact ⟨g, hg⟩
theorem cW.growth (h : cW b) {c : Cmp} (hc : c ∈ b.2.2.2.2.1) : mS b c = some (dN b c) := by
 obtain ⟨r1, r2⟩ := h.rates hc
 have hn := (jF c).1 (h.nums hc)
 have a := fI hn.2.2.2.2.2.1
 have b := fI hn.2.2.2.2.2.2
 exact R0 h.size (by omega) (by omega) r1 r2 hn.2.2.2.2.1
theorem cW.films (h : cW b) {c : Cmp} (hA : c.2.2.1.length ≤ 1000) (hB : c.2.2.2.1.length ≤ 1000) : qD b c = some (jo b c) := by
 have := h.film
 exact VA hA hB (by omega) (by omega) (by omega) (by omega)
theorem Nb {k heat : Int × Int} (hk : qJ k 200000 10000) (hh : nY heat (-10000) 10000 = true) : qJ (Wh k heat).1 2000000000 10000 ∧ qJ (Wh k heat).2 2000000000 10000 := by
 simp only [nY, Bool.and_eq_true, decide_eq_true_eq] at hh
 have r1 := Nj hk (n := heat.1) ⟨by omega, by omega⟩
 have r2 := Nj hk (n := heat.2) ⟨by omega, by omega⟩
 unfold Wh
 split
 ·exact ⟨r2, r1⟩
 ·exact ⟨r1, r2⟩
theorem yP {c : Cmp} (hA : c.2.2.1.length ≤ 1000) (hB : c.2.2.2.1.length ≤ 1000) (h1 : 0 ≤ b.1.1) (h2 : b.1.1 ≤ 1000000) (h3 : 0 ≤ b.1.2) (h4 : b.1.2 ≤ 1000000) :
 (-1000000000 ≤ (jo b c).1 ∧ (jo b c).1 ≤ 1000000000) ∧ (-1000000000 ≤ (jo b c).2 ∧ (jo b c).2 ≤ 1000000000) := by
 have bd : ∀ (n : Nat) (x : Int), n ≤ 1000 → 0 ≤ x → x ≤ 1000000 → 0 ≤ ((n - 1 : Nat) : Int) * x ∧ ((n - 1 : Nat) : Int) * x ≤ 1000000000 := by
  intro n x hn h0 hx
  refine ⟨Int.mul_nonneg (by omega) h0, ?_⟩
  have := Int.mul_le_mul (show ((n - 1 : Nat) : Int) ≤ 1000 by omega) hx h0 (by omega)
  omega
 have b1 := bd _ _ hA h1 h2
 have b2 := bd _ _ hA h3 h4
 have b3 := bd _ _ hB h1 h2
 have b4 := bd _ _ hB h3 h4
 unfold jo
 try dsimp only
 omega
theorem yM {r : Int × Int} (h : qJ r 2000000000 10000) : -2000000000 ≤ r.1 / r.2 ∧ r.1 / r.2 ≤ 2000000000 := by
 have := Dx (n := r.1) h.pos
 have := h.num
 omega
theorem DE {r : Int × Int} (h : qJ r 2000000000 10000) : -2000000000 ≤ Jq r ∧ Jq r ≤ 2000000000 := by
 have := Dx (n := -r.1) h.pos
 have := h.num
 unfold Jq
 omega
theorem cW.says (h : cW b) {c : Cmp} (hc : c ∈ b.2.2.2.2.1) : sf b c = some (f8 b c) := by
 obtain ⟨r1, r2⟩ := h.rates hc
 have hn := (jF c).1 (h.nums hc)
 have ha := fI hn.2.2.2.2.2.1
 have hb := fI hn.2.2.2.2.2.2
 have hf := h.film
 obtain ⟨g1, g2⟩ := Nb (MN r1 r2) hn.2.2.2.2.1
 have fb := yP (b := b) (c := c) (by omega) (by omega) (by omega) (by omega) (by omega) (by omega)
 have q1 : qJ (dN b c).1 2000000000 10000 := g1
 have q2 : qJ (dN b c).2 2000000000 10000 := g2
 have c1 := DE q1
 have c2 := yM q2
 unfold sf On f8
 rw [h.growth hc, aZ, h.films (by omega) (by omega), aZ, V1 q2.rat, aZ, ZY q1.rat, aZ]
 try dsimp only
 have n3 := hn.2.2.1
 have n4 := hn.2.2.2.1
 rw [bG (by omega) (by omega), bG (by omega) (by omega), bG (by omega) (by omega), bG (by omega) (by omega), bG (by omega) (by omega), bG (by omega) (by omega)]
end
def cJ (l : Gk) (f t : Int) : Int := min l.2.1.2 (t - 1) - max l.2.1.1 f + 1
def du (id f t : Int) : List Gk → Int
 | [] => 0
 | l :: r => (if l.1 = id ∧ 0 < cJ l f t then cJ l f t * l.2.2 else 0) + du id f t r
theorem vc (id f t : Int) : ∀ (x y : List Gk), du id f t (x ++ y) = du id f t x + du id f t y
 | [], y => by simp [du]
 | l :: r, y => by
   simp only [List.cons_append, du, vc id f t r y]
   omega
def gX (b : bH) (id f t : Int) : List Int := (b.2.2.1.filter fun u => u.1 == id && inP u.2 f (t - 1)).map fun u => u.2
def jf (b : bH) (g : cg) (f t : Int) : Int := du g.1 f t b.2.2.2.1 + (SL (gX b g.1 f t)).length * g.2.2.2.2.2
theorem IT (a c : Int) : SM a c = min a c := by unfold SM; split <;> omega
theorem T9 (a c : Int) : SN a c = max a c := by unfold SN; split <;> omega
theorem Dg {b : bH} (h : cW b) {l : Gk} (hl : l ∈ b.2.2.2.1) : (0 ≤ l.2.1.1 ∧ l.2.1.1 ≤ l.2.1.2 ∧ l.2.1.2 ≤ 20000) ∧ (0 ≤ l.2.2 ∧ l.2.2 ≤ 1048576) := by
 obtain ⟨i, hi, rfl⟩ := List.mem_iff_getElem.1 hl
 have := h.loans i _ (List.getElem?_eq_getElem hi)
 unfold T4 at this
 split at this
 ·omega
 rename_i h1
 split at this
 ·omega
 rename_i h2
 simp only [Bool.not_eq_true', Bool.not_eq_false, nY, inP, Bool.and_eq_true, decide_eq_true_eq] at h1 h2
 exact ⟨h1, h2⟩
theorem L8 {l : Gk} (h : (0 ≤ l.2.1.1 ∧ l.2.1.1 ≤ l.2.1.2 ∧ l.2.1.2 ≤ 20000) ∧ (0 ≤ l.2.2 ∧ l.2.2 ≤ 1048576)) {f t : Int} (hf : 0 ≤ f) (hd : 0 < cJ l f t) : 0 ≤ cJ l f t * l.2.2 ∧ cJ l f t * l.2.2 ≤ 20001 * 1048576 := by
 refine ⟨Int.mul_nonneg (by omega) h.2.1, Int.mul_le_mul ?_ h.2.2 h.2.1 (by omega)⟩
 unfold cJ
 omega
theorem pv {id f t : Int} (hf : 0 ≤ f) : ∀ {x : List Gk}, (∀ l ∈ x, (0 ≤ l.2.1.1 ∧ l.2.1.1 ≤ l.2.1.2 ∧ l.2.1.2 ≤ 20000) ∧ (0 ≤ l.2.2 ∧ l.2.2 ≤ 1048576)) → 0 ≤ du id f t x ∧ du id f t x ≤ x.length * (20001 * 1048576)
 | [], _ => by simp [du]
 | l :: r, h => by
   have ih := pv (id := id) (t := t) hf (x := r) fun l hl => h l (by simp [hl])
   simp only [du, List.length_cons, Int.natCast_succ, Int.add_mul, Int.one_mul]
   split
   ·rename_i hc
    have := L8 (h l (by simp)) hf hc.2
    omega
   ·omega
theorem acq {b : bH} (h : cW b) {g : cg} (hg : 0 ≤ g.2.2.2.2.2 ∧ g.2.2.2.2.2 ≤ 1048576) {f t : Int} (hf : 0 ≤ f ∧ f ≤ 100000) (ht : 0 ≤ t ∧ t ≤ 100000) : we b g f t = some (jf b g f t) := by
 have hL := h.nL
 have hU := h.nU
 have hlb : ∀ i, 0 ≤ du g.1 f t (b.2.2.2.1.take i) ∧ du g.1 f t (b.2.2.2.1.take i) ≤ 12 * (20001 * 1048576) := by
  intro i
  have h1 := pv (id := g.1) (t := t) hf.1 (x := b.2.2.2.1.take i) fun l hl => Dg h (List.mem_of_mem_take hl)
  have h2 : ((b.2.2.2.1.take i).length : Int) * (20001 * 1048576) ≤ 12 * (20001 * 1048576) := Int.mul_le_mul_of_nonneg_right (by rw [List.length_take]; omega) (by omega)
  omega
 unfold we Oy
 refine fK (fun x : Int × Int => ∃ i : Nat, i ≤ b.2.2.2.1.length ∧ x = (du g.1 f t (b.2.2.2.1.take i), (i : Int))) (fun x => b.2.2.2.1.length - x.2.toNat) ?_ ⟨0, by omega, rfl⟩
 rintro x ⟨i, hi, rfl⟩
 rcases Nat.lt_or_ge i b.2.2.2.1.length with hlt | hge
 ·have hl : b.2.2.2.1[i]? = some b.2.2.2.1[i] := List.getElem?_eq_getElem hlt
  have hz := Dg h (List.mem_of_getElem? hl)
  refine .inr ⟨(du g.1 f t (b.2.2.2.1.take (i + 1)), (i : Int) + 1), ⟨i + 1, hlt, by simp⟩, by simp; omega, fun kn => ?_⟩
  try dsimp only
  unfold rN
  have b1 := hlb i
  have b2 := hlb (i + 1)
  have e1 : du g.1 f t (b.2.2.2.1.take (i + 1)) = du g.1 f t (b.2.2.2.1.take i) + (if b.2.2.2.1[i].1 = g.1 ∧ 0 < cJ b.2.2.2.1[i] f t then cJ b.2.2.2.1[i] f t * b.2.2.2.1[i].2.2 else 0) := by
   rw [take_succ hl, vc]; simp [du]
  rw [bC hlt, bt hl, bG (by omega) (by omega), IT, T9, bG (by omega) (by omega), bG (by omega) (by omega)]
  rw [show min b.2.2.2.1[i].2.1.2 (t - 1) - max b.2.2.2.1[i].2.1.1 f + 1 = cJ b.2.2.2.1[i] f t from rfl, dA]
  by_cases hid : b.2.2.2.1[i].1 = g.1
  ·rw [if_pos (by simpa [ieq] using hid), dA]
   by_cases hd : 0 < cJ b.2.2.2.1[i] f t
   ·have lb := L8 hz hf.1 hd
    rw [if_pos ⟨hid, hd⟩] at e1
    rw [if_pos (by simpa [igt] using hd), bG (by omega) (by omega), bG (by omega) (by omega), bv hlt (by omega), e1]
   ·rw [if_neg (fun hc => hd hc.2)] at e1
    rw [if_neg (by simpa [igt] using hd), bv hlt (by omega), e1, Int.add_zero]
  ·rw [if_neg (fun hc => hid hc.1)] at e1
   rw [if_neg (by simpa [ieq] using hid), bv hlt (by omega), e1, Int.add_zero]
 ·refine .inl fun kn => ?_
  have : i = b.2.2.2.1.length := by omega
  subst this
  try dsimp only
  unfold rN
  rw [bX, List.take_length]
  have hud : ∀ x : List (Int × Int), x.length ≤ 40 → ((x.filter fun u => u.1 == g.1 && inP u.2 f (t - 1)).map fun u => u.2).length ≤ 40 := by
   intro x hx
   rw [List.length_map]
   exact Nat.le_trans (List.length_filter_le _ _) hx
  refine cI b.2.2.1 (fun i => ((b.2.2.1.take i).filter fun u => u.1 == g.1 && inP u.2 f (t - 1)).map fun u => u.2) _ rfl (fun i u hi hu kn' => ?_) (fun kn' => ?_)
  ·try dsimp only
   unfold rM
   have hx := hud (b.2.2.1.take i) (by rw [List.length_take]; omega)
   rw [bC hi, bt hu, bG (by omega) (by omega), fH, aZ, bD (by simp only [List.length_singleton]; omega), Am.iff_true, bv hi (by omega), bv hi (by omega), take_succ hu, List.filter_append, List.map_append]
   cases h1 : (u.1 == g.1) with
   | false =>
     have : ieq u.1 g.1 = false := h1
     simp only [this, b7, List.filter_cons, h1, Bool.false_and, Bool.false_eq_true, if_false, List.filter_nil, List.map_nil, List.append_nil]
   | true =>
     have : ieq u.1 g.1 = true := h1
     rw [this]
     cases h2 : inP u.2 f (t - 1) with
     | false => simp only [eD, b7, List.filter_cons, h1, h2, Bool.true_and, Bool.false_eq_true, if_false, List.filter_nil, List.map_nil, List.append_nil]
     | true => simp only [eD, List.filter_cons, h1, h2, Bool.true_and, if_true, List.filter_nil, List.map_nil, List.map_cons]
  ·try dsimp only
   unfold rM
   rw [bX, List.take_length]
   rw [show ((b.2.2.1.filter fun u => u.1 == g.1 && inP u.2 f (t - 1)).map fun u => u.2) = gX b g.1 f t from rfl]
   have h40 : (gX b g.1 f t).length ≤ 40 := hud _ hU
   have hc40 : (SL (gX b g.1 f t)).length ≤ 40 := by
    have := FW (gX b g.1 f t)
    omega
   have hm : 0 ≤ ((SL (gX b g.1 f t)).length : Int) * g.2.2.2.2.2 ∧ ((SL (gX b g.1 f t)).length : Int) * g.2.2.2.2.2 ≤ 40 * 1048576 :=
    ⟨Int.mul_nonneg (by omega) hg.1, Int.mul_le_mul (by omega) hg.2 hg.1 (by omega)⟩
   have b1 := hlb b.2.2.2.1.length
   rw [List.take_length] at b1
   dsimp only
   rw [bD (by omega), Am.iff_true, bD (by rw [PU]; omega), Am.iff_true, XJ, bU, bG (by omega) (by omega), bG (by omega) (by omega)]
   rfl
end Go.Proofs.ZzM
end
noncomputable section
namespace Go.Proofs.ZzM
open Go Go.Am
abbrev Lk : Type := Int × Int × Int
inductive Wl (L : List Lk) (S : Int → Prop) : List Int → Int → Int → Prop
 | nil {v : Int} : S v → Wl L S [] v 0
 | step {vs : List Int} {u v m d : Int} : Wl L S vs u d → (u, v, m) ∈ L → Wl L S (u :: vs) v (d + m)
def Pot (L : List Lk) (p : Int → Int) : Prop := ∀ u v m, (u, v, m) ∈ L → p v ≤ p u + m
def InR (L : List Lk) (N : Nat) : Prop := ∀ l ∈ L, (0 ≤ l.1 ∧ l.1 < N) ∧ (0 ≤ l.2.1 ∧ l.2.1 < N)
section
variable {L : List Lk} {S : Int → Prop} {N : Nat} {p : Int → Int}
theorem Wl.cut (hp : Pot L p) {vs : List Int} {v d : Int} (h : Wl L S vs v d) : ∀ x ∈ vs, ∃ vs1 d1, Wl L S vs1 x d1 ∧ (x :: vs1) <:+ vs ∧ d1 + (p v - p x) ≤ d := by
 induction h with
 | nil h => intro x hx; cases hx
 | @step vs u v m d hw hl ih =>
   intro x hx
   have h1 := hp u v m hl
   rcases List.mem_cons.1 hx with rfl | hx
   ·exact ⟨vs, d, hw, List.suffix_refl _, by omega⟩
   ·obtain ⟨vs1, d1, g1, g2, g3⟩ := ih x hx
    exact ⟨vs1, d1, g1, g2.trans (List.suffix_cons _ _), by omega⟩
theorem Wl.simple (hp : Pot L p) {vs : List Int} {v d : Int} (h : Wl L S vs v d) : ∃ vs' d', Wl L S vs' v d' ∧ d' ≤ d ∧ (v :: vs').Nodup := by
 induction h with
 | nil h => exact ⟨[], 0, .nil h, Int.le_refl _, by simp⟩
 | @step vs u v m d hw hl ih =>
   obtain ⟨vs1, d1, g1, g2, g3⟩ := ih
   have hw1 := Wl.step g1 hl
   by_cases hv : v ∈ u :: vs1
   ·obtain ⟨vs2, d2, k1, k2, k3⟩ := hw1.cut hp v hv
    exact ⟨vs2, d2, k1, by omega, g3.sublist k2.sublist⟩
   ·exact ⟨u :: vs1, d1 + m, hw1, by omega, List.nodup_cons.2 ⟨hv, g3⟩⟩
theorem Wl.range (hL : InR L N) (hS : ∀ v, S v → 0 ≤ v ∧ v < N) {vs : List Int} {v d : Int} (h : Wl L S vs v d) : (0 ≤ v ∧ v < N) ∧ ∀ u ∈ vs, 0 ≤ u ∧ u < N := by
 induction h with
 | nil h => exact ⟨hS _ h, fun u hu => by cases hu⟩
 | @step vs u v m d hw hl ih =>
   refine ⟨(hL _ hl).2, fun w hw' => ?_⟩
   rcases List.mem_cons.1 hw' with rfl | h
   ·exact ih.1
   ·exact ih.2 w h
theorem U7 : ∀ (N : Nat) (l : List Int), l.Nodup → (∀ x ∈ l, 0 ≤ x ∧ x < N) → l.length ≤ N
 | 0, l, _, h => by
   cases l with
   | nil => simp
   | cons a l => have := h a (by simp); omega
 | N + 1, l, hn, h => by
   have h1 : (l.erase (N : Int)).length ≤ N := U7 N _ (hn.erase _) fun x hx => by
    have h2 := (hn.mem_erase_iff).1 hx
    have := h x h2.2
    have := h2.1
    omega
   have := List.length_erase (a := (N : Int)) (l := l)
   split at this <;> omega
theorem Wl.short (hL : InR L N) (hS : ∀ v, S v → 0 ≤ v ∧ v < N) {vs : List Int} {v d : Int} (h : Wl L S vs v d) (hn : (v :: vs).Nodup) : vs.length + 1 ≤ N := by
 have := h.range hL hS
 exact U7 N (v :: vs) hn fun x hx => by
  rcases List.mem_cons.1 hx with rfl | hx
  ·exact this.1
  ·exact this.2 x hx
def Fd (f : Lk → Bool) : List Lk → Int
 | [] => 0
 | l :: t => (if f l then min l.2.2 0 else 0) + Fd f t
theorem Yc (f : Lk → Bool) : ∀ L : List Lk, Fd (fun _ => true) L ≤ Fd f L
 | [] => Int.le_refl _
 | l :: t => by
   have := Yc f t
   simp only [Fd, if_true]
   split <;> omega
theorem qR (f : Lk → Bool) : ∀ L : List Lk, Fd f L ≤ 0
 | [] => Int.le_refl _
 | l :: t => by
   have := qR f t
   simp only [Fd]
   split <;> omega
theorem Vj {f : Lk → Bool} {l : Lk} (hf : f l = true) : ∀ {L : List Lk}, l ∈ L → Fd f L ≤ l.2.2
 | a :: t, h => by
   simp only [Fd]
   rcases List.mem_cons.1 h with rfl | h
   ·have := qR f t
    rw [if_pos hf]; omega
   ·have := Vj hf h
    split <;> omega
theorem Yb {f g : Lk → Bool} (h : ∀ l, f l = true → g l = false) : ∀ L : List Lk, Fd (fun l => f l || g l) L = Fd f L + Fd g L
 | [] => rfl
 | l :: t => by
   have ih := Yb h t
   simp only [Fd, ih]
   by_cases hf : f l = true
   ·simp [hf, h l hf]; omega
   ·have hf' : f l = false := by simpa using hf
    by_cases hg : g l = true
    ·simp [hf', hg]; omega
    ·simp [hf', hg]
theorem Wl.low {vs : List Int} {v d : Int} (h : Wl L S vs v d) : vs.Nodup → Fd (fun l => vs.contains l.1) L ≤ d := by
 induction h with
 | nil h => intro _; exact qR _ _
 | @step vs u v m d hw hl ih =>
   intro hn
   rw [List.nodup_cons] at hn
   have h1 := ih hn.2
   have h2 : Fd (fun l => l.1 == u) L ≤ m := Vj (f := fun l => l.1 == u) (l := (u, v, m)) (by simp) hl
   have h3 := Yb (f := fun l : Lk => l.1 == u) (g := fun l => vs.contains l.1) (fun l hf => by
    simp only [beq_iff_eq] at hf
    rw [hf]
    simpa using hn.1) L
   have h4 : (fun l : Lk => (u :: vs).contains l.1) = fun l => (l.1 == u) || vs.contains l.1 := by funext l; rw [List.contains_cons]
   rw [h4, h3]
   omega
def F0 (L : List Lk) : Int := Fd (fun _ => true) L
theorem Wl.low' (hp : Pot L p) {vs : List Int} {v d : Int} (h : Wl L S vs v d) : F0 L ≤ d := by
 obtain ⟨vs', d', h1, h2, h3⟩ := h.simple hp
 have := h1.low (List.nodup_cons.1 h3).2
 have := Yc (fun l => vs'.contains l.1) L
 unfold F0
 omega
theorem Wl.high {M : Int} (hM : ∀ l ∈ L, l.2.2 ≤ M) {vs : List Int} {v d : Int} (h : Wl L S vs v d) : d ≤ vs.length * M := by
 induction h with
 | nil h => simp
 | @step vs u v m d hw hl ih =>
   have := hM _ hl
   simp only [List.length_cons, Int.natCast_succ, Int.add_mul, Int.one_mul]
   simp only at this
   omega
theorem Wl.mono {S' : Int → Prop} (hS : ∀ v, S v → S' v) {vs : List Int} {v d : Int} (h : Wl L S vs v d) : Wl L S' vs v d := by
 induction h with
 | nil h => exact .nil (hS _ h)
 | step hw hl ih => exact .step ih hl
theorem Wl.pot (hp : Pot L p) {vs : List Int} {v d : Int} (h : Wl L S vs v d) : ∃ s, S s ∧ p v - p s ≤ d := by
 induction h with
 | @nil v h => exact ⟨v, h, by omega⟩
 | @step vs u v m d hw hl ih =>
   obtain ⟨s, h1, h2⟩ := ih
   have := hp u v m hl
   exact ⟨s, h1, by omega⟩
end
abbrev fP : Int := 1152921504606846976
structure Xp (L : List Lk) (S : Int → Prop) (N : Nat) (x : Int → Int) : Prop where
 att : ∀ v : Int, 0 ≤ v → v < N → x v ≠ fP → ∃ vs, Wl L S vs v (x v)
 low : ∀ v vs d, Wl L S vs v d → x v ≤ d
 bd : ∀ v : Int, 0 ≤ v → v < N → x v ≤ fP
theorem Xp.uniq {L : List Lk} {S : Int → Prop} {N : Nat} {x y : Int → Int} (hx : Xp L S N x) (hy : Xp L S N y) {v : Int} (h0 : 0 ≤ v) (h1 : v < N) : x v = y v := by
 have key : ∀ {x y : Int → Int}, Xp L S N x → Xp L S N y → x v ≤ y v := by
  intro x y hx hy
  by_cases h : y v = fP
  ·rw [h]; exact hx.bd v h0 h1
  ·obtain ⟨vs, hw⟩ := hy.att v h0 h1 h
   exact hx.low v vs _ hw
 exact Int.le_antisymm (key hx hy) (key hy hx)
def gv (x : List Int) (v : Int) : Int := x[v.toNat]?.getD 0
theorem Ml {x : List Int} {v : Int} (h : v.toNat < x.length) : x[v.toNat]? = some (gv x v) := by
 unfold gv; rw [List.getElem?_eq_getElem h]; rfl
theorem vg {x : List Int} {u v : Int} (hu : 0 ≤ u) (hv : 0 ≤ v) (h : u.toNat < x.length) (y : Int) : gv (x.set u.toNat y) v = if v = u then y else gv x v := by
 unfold gv
 rw [List.getElem?_set]
 by_cases hvu : v = u
 ·subst hvu; simp [h]
 ·have : ¬ u.toNat = v.toNat := by omega
  simp [hvu, this]
theorem Vt {x y : List Int} (hl : x.length = y.length) (h : ∀ v : Int, 0 ≤ v → v < x.length → gv x v = gv y v) : x = y := by
 refine List.ext_getElem hl fun i h1 h2 => ?_
 have := h i (by omega) (by omega)
 unfold gv at this
 simpa [h1, h2] using this
def j7 (x : List Int) (l : Lk) : List Int := if gv x l.1 < fP ∧ gv x l.1 + l.2.2 < gv x l.2.1 then x.set l.2.1.toNat (gv x l.1 + l.2.2) else x
def E9 (L : List Lk) (x : List Int) : List Int := L.foldl j7 x
def jC (L : List Lk) : Nat → List Int → List Int
 | 0, x => x
 | n + 1, x => jC L n (E9 L x)
theorem mm (x : List Int) (l : Lk) : (j7 x l).length = x.length := by unfold j7; split <;> simp
theorem tG (L : List Lk) : ∀ x : List Int, (E9 L x).length = x.length := by
 induction L with
 | nil => intro x; rfl
 | cons l t ih => intro x; show (E9 t (j7 x l)).length = _; rw [ih, mm]
theorem dp (L : List Lk) : ∀ (n : Nat) (x : List Int), (jC L n x).length = x.length
 | 0, x => rfl
 | n + 1, x => by rw [jC, dp L n, tG]
theorem xK (L : List Lk) : ∀ (n : Nat) (x : List Int), jC L (n + 1) x = E9 L (jC L n x)
 | 0, x => rfl
 | n + 1, x => by rw [jC, xK L n]; rfl
section
variable {L0 : List Lk} {S : Int → Prop} {N : Nat}
theorem P4 {x : List Int} {l : Lk} (hl : (0 ≤ l.1 ∧ l.1 < N) ∧ (0 ≤ l.2.1 ∧ l.2.1 < N)) (hx : x.length = N) (v : Int) (hv : 0 ≤ v) : gv (j7 x l) v ≤ gv x v := by
 unfold j7
 split
 ·rename_i h
  rw [vg hl.2.1 hv (by omega)]
  split
  ·rename_i h2; subst h2; omega
  ·exact Int.le_refl _
 ·exact Int.le_refl _
theorem zh : ∀ {L : List Lk}, InR L N → ∀ {x : List Int}, x.length = N → ∀ v, 0 ≤ v → gv (E9 L x) v ≤ gv x v
 | [], _, x, _, v, _ => Int.le_refl _
 | l :: t, hL, x, hx, v, hv => by
   have h1 := P4 (hL l (by simp)) hx v hv
   have h2 := zh (L := t) (fun l hl => hL l (by simp [hl])) (x := j7 x l) (by rw [mm, hx]) v hv
   show gv (E9 t (j7 x l)) v ≤ _
   omega
theorem Ce : ∀ {L : List Lk}, InR L N → ∀ {x : List Int}, x.length = N → ∀ u v m, (u, v, m) ∈ L → gv x u < fP → gv (E9 L x) v ≤ gv x u + m
 | l :: t, hL, x, hx, u, v, m, hm, hf => by
   have ht : InR t N := fun l hl => hL l (by simp [hl])
   have hx' : (j7 x l).length = N := by rw [mm, hx]
   show gv (E9 t (j7 x l)) v ≤ _
   rcases List.mem_cons.1 hm with rfl | hm
   ·have hl := hL (u, v, m) (by simp)
    have h2 := zh ht hx' v hl.2.1
    have h3 : gv (j7 x (u, v, m)) v ≤ gv x u + m := by
     unfold j7
     split
     ·rw [vg hl.2.1 hl.2.1 (by simp only at hl; simp only; omega), if_pos rfl]; exact Int.le_refl _
     ·rename_i h; simp only [not_and, Int.not_lt] at h; exact h hf
    omega
   ·have hl := hL (u, v, m) (by simp [hm])
    have h1 := P4 (hL l (by simp)) hx u hl.1.1
    have := Ce ht hx' u v m hm (by omega)
    omega
def Att (L0 : List Lk) (S : Int → Prop) (N : Nat) (x : List Int) : Prop := ∀ v : Int, 0 ≤ v → v < N → gv x v < fP → ∃ vs, Wl L0 S vs v (gv x v)
theorem Wf {x : List Int} {l : Lk} (hl : (0 ≤ l.1 ∧ l.1 < N) ∧ (0 ≤ l.2.1 ∧ l.2.1 < N)) (hm : l ∈ L0) (hx : x.length = N) (h : Att L0 S N x) : Att L0 S N (j7 x l) := by
 unfold j7
 split
 ·rename_i hc
  intro v h0 h1 hf
  rw [vg hl.2.1 h0 (by omega)] at hf ⊢
  split
  ·rename_i h2
   obtain ⟨vs, hw⟩ := h l.1 hl.1.1 hl.1.2 hc.1
   exact ⟨_, h2 ▸ Wl.step hw hm⟩
  ·rename_i h2
   rw [if_neg h2] at hf
   exact h v h0 h1 hf
 ·exact h
theorem Qh : ∀ {L : List Lk}, InR L N → (∀ l ∈ L, l ∈ L0) → ∀ {x : List Int}, x.length = N → Att L0 S N x → Att L0 S N (E9 L x)
 | [], _, _, _, _, h => h
 | l :: t, hL, hsub, x, hx, h => Qh (L := t) (fun l hl => hL l (by simp [hl])) (fun l hl => hsub l (by simp [hl])) (x := j7 x l) (by rw [mm, hx]) (Wf (hL l (by simp)) (hsub l (by simp)) hx h)
theorem LD (hL : InR L0 N) : ∀ (n : Nat) {x : List Int}, x.length = N → Att L0 S N x → Att L0 S N (jC L0 n x)
 | 0, _, _, h => h
 | n + 1, x, hx, h => LD hL n (by rw [tG, hx]) (Qh hL (fun _ h => h) hx h)
theorem zg (hL : InR L0 N) : ∀ (n : Nat) {x : List Int}, x.length = N → ∀ v, 0 ≤ v → gv (jC L0 n x) v ≤ gv x v
 | 0, _, _, _, _ => Int.le_refl _
 | n + 1, x, hx, v, hv => Int.le_trans (zg hL n (by rw [tG, hx]) v hv) (zh hL hx v hv)
def qM (S : Int → Bool) (N : Nat) : List Int := (List.range N).map fun (i : Nat) => if S i then 0 else fP
theorem gZ (S : Int → Bool) {N : Nat} {v : Int} (h0 : 0 ≤ v) (h1 : v < N) : gv (qM S N) v = if S v then 0 else fP := by
 unfold gv qM
 have : v.toNat < N := by omega
 rw [List.getElem?_map, List.getElem?_range this]
 simp only [Option.map_some, Option.getD_some]
 rw [Int.toNat_of_nonneg h0]
theorem ce (S : Int → Bool) (N : Nat) : (qM S N).length = N := by simp [qM]
end
theorem Cd {L : List Lk} {S : Int → Bool} {N : Nat} {M : Int} (hL : InR L N) (hS : ∀ v, S v = true → 0 ≤ v ∧ v < N) (hM : ∀ l ∈ L, l.2.2 ≤ M) : ∀ (n : Nat), n * M < fP → 0 ≤ M → ∀ vs v d, Wl L (fun v => S v = true) vs v d → vs.length ≤ n → gv (jC L n (qM S N)) v ≤ d
 | 0, _, _, vs, v, d, hw, hl => by
   cases hw with
   | nil h =>
     have := hS v h
     rw [jC, gZ S this.1 this.2, if_pos h]; exact Int.le_refl _
   | step => simp at hl
 | n + 1, hn, hM0, vs, v, d, hw, hl => by
   have hn' : n * M < fP := by rw [Int.natCast_succ, Int.add_mul, Int.one_mul] at hn; omega
   have hlen : (jC L n (qM S N)).length = N := by rw [dp, ce]
   rw [xK]
   cases hw with
   | nil h =>
     have h1 := zh hL hlen v (hS v h).1
     have h2 := Cd hL hS hM n hn' hM0 [] v 0 (.nil h) (by simp)
     omega
   | @step vs u _ m d hw hlk =>
     have h2 := Cd hL hS hM n hn' hM0 vs u d hw (by simpa using hl)
     have h3 := hw.high hM
     have h4 : (vs.length : Int) * M ≤ n * M := Int.mul_le_mul_of_nonneg_right (by simp at hl; omega) hM0
     have := Ce hL hlen u v m hlk (by omega)
     omega
theorem GM {L : List Lk} {S : Int → Bool} {N : Nat} {M : Int} {p : Int → Int} (hp : Pot L p) (hL : InR L N) (hS : ∀ v, S v = true → 0 ≤ v ∧ v < N) (hM : ∀ l ∈ L, l.2.2 ≤ M) (hM0 : 0 ≤ M) (hN : N * M < fP) (n : Nat) (hn : N ≤ n + 1) : Xp L (fun v => S v = true) N (gv (jC L n (qM S N))) := by
 have hatt : Att L (fun v => S v = true) N (qM S N) := fun v h0 h1 hf => by
  rw [gZ S h0 h1] at hf ⊢
  split
  ·rename_i h; exact ⟨[], .nil h⟩
  ·rename_i h; rw [if_neg h] at hf; omega
 have hbd : ∀ v : Int, 0 ≤ v → v < N → gv (jC L n (qM S N)) v ≤ fP := fun v h0 h1 => by
  have := zg hL n (ce S N) v h0
  rw [gZ S h0 h1] at this
  have hF : (0 : Int) ≤ fP := by decide
  split at this <;> omega
 have hlow : ∀ (n : Nat), N ≤ n + 1 → ∀ v vs d, Wl L (fun v => S v = true) vs v d → gv (jC L n (qM S N)) v ≤ d := by
  intro n hn v vs d hw
  obtain ⟨vs', d', h1, h2, h3⟩ := hw.simple hp
  have h4 := h1.short hL hS h3
  have hpos : 0 < N := by omega
  obtain ⟨k, rfl⟩ : ∃ k, N = k + 1 := ⟨N - 1, by omega⟩
  have hk : (k : Int) * M < fP := by rw [Int.natCast_succ, Int.add_mul, Int.one_mul] at hN; omega
  have h5 := Cd hL hS hM k hk hM0 vs' v d' h1 (by omega)
  obtain ⟨j, rfl⟩ : ∃ j, n = k + j := ⟨n - k, by omega⟩
  have h6 : ∀ (j : Nat), gv (jC L (k + j) (qM S (k + 1))) v ≤ gv (jC L k (qM S (k + 1))) v := by
   intro j
   induction j with
   | zero => exact Int.le_refl _
   | succ j ih =>
     rw [← Nat.add_assoc, xK]
     have := zh hL (x := jC L (k + j) (qM S (k + 1))) (by rw [dp, ce]) v (h1.range hL hS).1.1
     omega
  have := h6 j
  omega
 exact ⟨fun v h0 h1 hne => LD hL n (ce S N) hatt v h0 h1 (by have := hbd v h0 h1; omega), hlow n hn, hbd⟩
theorem Xp.pot {L : List Lk} {S : Int → Prop} {N : Nat} {x : Int → Int} (h : Xp L S N x) (hL : InR L N) {u v m : Int} (hl : (u, v, m) ∈ L) (hf : x u ≠ fP) : x v ≤ x u + m := by
 obtain ⟨vs, hw⟩ := h.att u (hL _ hl).1.1 (hL _ hl).1.2 hf
 exact h.low v _ _ (.step hw hl)
end Go.Proofs.ZzM
end
noncomputable section
namespace Go.Proofs.ZzM
open Go Go.Am
def de (b : bH) (g : cg) : List Lk :=
 [(0, atP (bm b) [g.1] g.2.1, g.2.2.1 + g.2.2.2.1.2), (atP (bm b) [g.1] g.2.1, 0, -(g.2.2.1 + g.2.2.2.1.1))] ++
 (List.range ((bO b g).length - 1)).flatMap fun (k : Nat) => [(atP (bm b) [g.1] g.2.1 + k, atP (bm b) [g.1] g.2.1 + k + 1, 0), (atP (bm b) [g.1] g.2.1 + k + 1, atP (bm b) [g.1] g.2.1 + k, jf b g ((bO b g)[k]?.getD 0) ((bO b g)[k + 1]?.getD 0))]
def cx (b : bH) (c : Cmp) : Int := atP (bm b) (cB c.2.2.1 c.2.2.2.1) c.2.1
def cy (b : bH) (c : Cmp) : Int := atP (bm b) (cB c.2.2.2.1 c.2.2.1) c.2.1
def cu (b : bH) (c : Cmp) : List Lk := [(cy b c, cx b c, (f8 b c).2), (cx b c, cy b c, -(f8 b c).1)]
def bB (b : bH) : List Lk := b.2.1.flatMap (de b) ++ b.2.2.2.2.1.flatMap (cu b)
def dr (b : bH) (i : Nat) (g : cg) : List (Int × Int) := [(1, (i : Int)), (1, (i : Int))] ++ (List.range ((bO b g).length - 1)).flatMap fun _ => [(2, (i : Int)), (2, (i : Int))]
def eN (b : bH) : List (Int × Int) := (b.2.1.mapIdx (dr b)).flatten ++ (b.2.2.2.2.1.mapIdx fun i _ => [(3, (i : Int)), (3, (i : Int))]).flatten
section
variable {b : bH}
theorem Xy (h : cW b) {id day : Int} (hu : aaa (mY b) id day = 0) : (0 ≤ day ∧ day ≤ 20000) ∧ ∃ g, jT b id = some g ∧ g.2.1 ≤ day := by
 unfold aaa at hu
 split at hu
 ·omega
 ·rename_i hd
  simp only [Bool.not_eq_true', Bool.not_eq_false, Ui, inP, Bool.and_eq_true, decide_eq_true_eq] at hd
  exact ⟨hd, Ck h hu⟩
theorem lP {g : cg} {d : Int} : d ∈ bO b g ↔ d = g.2.1 ∨ (∃ c ∈ b.2.2.2.2.1, (c.2.2.1.contains g.1) ≠ (c.2.2.2.1.contains g.1) ∧ c.2.1 = d) ∨ (∃ n ∈ b.2.2.2.2.2, n.1 = g.1 ∧ n.2 = d) := by
 unfold bO
 rw [vH, Pd]
 simp only [List.mem_append, List.mem_singleton, List.mem_map, List.mem_filter]
 constructor
 ·rintro ((h | ⟨c, ⟨h1, h2⟩, h3⟩) | ⟨n, ⟨h1, h2⟩, h3⟩)
  ·exact .inl h
  ·exact .inr (.inl ⟨c, h1, by simpa using h2, h3⟩)
  ·exact .inr (.inr ⟨n, h1, by simpa using h2, h3⟩)
 ·rintro (h | ⟨c, h1, h2, h3⟩ | ⟨n, h1, h2, h3⟩)
  ·exact .inl (.inl h)
  ·exact .inl (.inr ⟨c, ⟨h1, by simpa using h2⟩, h3⟩)
  ·exact .inr ⟨n, ⟨h1, by simpa using h2⟩, h3⟩
theorem cW.gaugeR (h : cW b) {g : cg} (hg : g ∈ b.2.1) : JR g.2.2.2.2.1 = true ∧ (-1000 ≤ g.2.2.2.2.1.1 ∧ g.2.2.2.2.1.1 ≤ 1000) ∧ g.2.2.2.2.1.2 ≤ 100 ∧ (1 ≤ g.1 ∧ g.1 ≤ 1099511627776) ∧ (0 ≤ g.2.1 ∧ g.2.1 ≤ 20000) ∧ (1 ≤ g.2.2.1 ∧ g.2.2.1 ≤ 1125899906842624) ∧ (-1073741824 ≤ g.2.2.2.1.1 ∧ g.2.2.2.1.1 ≤ g.2.2.2.1.2 ∧ g.2.2.2.1.2 ≤ 1073741824) ∧ (0 ≤ g.2.2.2.2.2 ∧ g.2.2.2.2.2 ≤ 1048576) := (Mp g).1 (h.gauge g hg)
theorem cW.day (h : cW b) {g : cg} (hg : g ∈ b.2.1) {d : Int} (hd : d ∈ bO b g) : g.2.1 ≤ d ∧ 0 ≤ d ∧ d ≤ 20000 := by
 have hr := h.gaugeR hg
 have hgo := yJ h.ids hg
 rcases lP.1 hd with rfl | ⟨c, hc, h1, rfl⟩ | ⟨n, hn, h1, rfl⟩
 ·have := hr.2.2.2.2.1; omega
 ·have hn := (jF c).1 (h.nums hc)
  have hx : g.1 ∈ c.2.2.1 ++ c.2.2.2.1 := by
   rw [List.mem_append]
   by_cases h2 : g.1 ∈ c.2.2.1
   ·exact .inl h2
   ·refine .inr ?_
    have e1 : c.2.2.1.contains g.1 = false := by simpa using h2
    rw [e1] at h1
    have : c.2.2.2.1.contains g.1 = true := by cases hh : c.2.2.2.1.contains g.1 <;> simp_all
    simpa using this
  obtain ⟨⟨g', h3, h4⟩, _⟩ := h.pile hc hx
  rw [hgo] at h3; cases h3
  have := hn.2.1
  omega
 ·obtain ⟨h2, g', h3, h4⟩ := Xy h (h.looks n hn)
  rw [h1, hgo] at h3; cases h3
  omega
theorem la (g : cg) : g.2.1 ∈ bO b g := lP.2 (.inl rfl)
theorem Pc (h : cW b) {g : cg} (hg : g ∈ b.2.1) : (bO b g).length ≤ 59 := by
 have h1 : ∀ l : List cg, g ∈ l → (bO b g).length ≤ (l.flatMap fun g => (bO b g).map fun d => ((g.1, d) : Int × Int)).length := by
  intro l
  induction l with
  | nil => intro hg; cases hg
  | cons a t ih =>
    intro hg
    rw [List.flatMap_cons, List.length_append, List.length_map]
    rcases List.mem_cons.1 hg with rfl | hg
    ·omega
    ·have := ih hg; omega
 have := h1 b.2.1 hg
 have := h.nodes
 unfold bm at this
 omega
theorem ZJ {p : List Int} {d : Int} : 0 ≤ atP (bm b) p d ∧ atP (bm b) p d ≤ (bm b).length := by
 unfold atP
 cases p with
 | nil => simp
 | cons x t =>
   try dsimp only
   cases h : iN (bm b) x d with
   | none => simp
   | some j => have := (jj h).1; dsimp only; omega
theorem GB (h : cW b) {c : Cmp} (hc : c ∈ b.2.2.2.2.1) : (-1125904000000000 ≤ (f8 b c).1 ∧ (f8 b c).1 ≤ 1125904000000000) ∧ (-1125904000000000 ≤ (f8 b c).2 ∧ (f8 b c).2 ≤ 1125904000000000) := by
 obtain ⟨r1, r2⟩ := h.rates hc
 have hn := (jF c).1 (h.nums hc)
 have ha := fI hn.2.2.2.2.2.1
 have hb := fI hn.2.2.2.2.2.2
 have hf := h.film
 obtain ⟨g1, g2⟩ := Nb (MN r1 r2) hn.2.2.2.2.1
 have fb := yP (b := b) (c := c) (by omega) (by omega) (by omega) (by omega) (by omega) (by omega)
 have q1 : qJ (dN b c).1 2000000000 10000 := g1
 have q2 : qJ (dN b c).2 2000000000 10000 := g2
 have c1 := DE q1
 have c2 := yM q2
 have n3 := hn.2.2.1
 have n4 := hn.2.2.2.1
 unfold f8
 try dsimp only
 omega
theorem rW (h : cW b) {g : cg} (hg : g ∈ b.2.1) {f t : Int} (hf : 0 ≤ f) : 0 ≤ jf b g f t ∧ jf b g f t ≤ 12 * (20001 * 1048576) + 40 * 1048576 := by
 have hr := (h.gaugeR hg).2.2.2.2.2.2.2
 have h1 := pv (id := g.1) (t := t) hf (x := b.2.2.2.1) fun l hl => Dg h hl
 have h2 : (b.2.2.2.1.length : Int) * (20001 * 1048576) ≤ 12 * (20001 * 1048576) := Int.mul_le_mul_of_nonneg_right (by have := h.nL; omega) (by omega)
 have h3 : (gX b g.1 f t).length ≤ 40 := by
  unfold gX
  rw [List.length_map]
  exact Nat.le_trans (List.length_filter_le _ _) h.nU
 have h4 := FW (gX b g.1 f t)
 have hm : 0 ≤ ((SL (gX b g.1 f t)).length : Int) * g.2.2.2.2.2 ∧ ((SL (gX b g.1 f t)).length : Int) * g.2.2.2.2.2 ≤ 40 * 1048576 :=
  ⟨Int.mul_nonneg (by omega) hr.1, Int.mul_le_mul (by omega) hr.2 hr.1 (by omega)⟩
 unfold jf
 omega
end
theorem ki {α β : Type} (f : Nat → α → β) {l : List α} {i : Nat} {a : α} (h : l[i]? = some a) : (l.take (i + 1)).mapIdx f = (l.take i).mapIdx f ++ [f i a] := by
 have hi : i < l.length := (List.getElem?_eq_some_iff.1 h).1
 have : (l.take i).length = i := by rw [List.length_take]; omega
 rw [take_succ h, List.mapIdx_append]
 simp [this]
theorem Cb {α : Type} (f : Nat → List α) (j : Nat) : (List.range (j + 1)).flatMap f = (List.range j).flatMap f ++ f j := by
 rw [List.range_succ, List.flatMap_append]; simp
theorem i0 {α : Type} (f : Nat → List α) (n : Nat) (h : ∀ k, (f k).length = 2) : ((List.range n).flatMap f).length = 2 * n := by
 induction n with
 | zero => rfl
 | succ n ih => rw [Cb, List.length_append, ih, h]; omega
set_option maxHeartbeats 2000000 in
theorem Nm {b : bH} (h : cW b) : wd b = some (b, bm b, (((bm b).length : Int) + 1, bB b), eN b) := by
 unfold wd Ov
 have hN := h.nodes
 have hG := h.nG
 have hC := h.nC
 rw [Nf h.size, aZ, bU, bG (by omega) (by omega)]
 -- lengths of what comes
 have gl : ∀ g ∈ b.2.1, (de b g).length ≤ 120 ∧ ∀ i, (dr b i g).length ≤ 120 := by
  intro g hg
  have := Pc h hg
  constructor
  ·unfold de
   rw [List.length_append, i0 _ _ (fun _ => rfl)]
   simp only [List.length_cons, List.length_nil]; omega
  ·intro i
   unfold dr
   rw [List.length_append, i0 _ _ (fun _ => rfl)]
   simp only [List.length_cons, List.length_nil]; omega
 have gls : ∀ i, ((b.2.1.take i).flatMap (de b)).length ≤ 1440 ∧ (((b.2.1.take i).mapIdx (dr b)).flatten).length ≤ 1440 := by
  intro i
  induction i with
  | zero => simp
  | succ i ih =>
    have key : ∀ i, i ≤ b.2.1.length → ((b.2.1.take i).flatMap (de b)).length ≤ i * 120 ∧ (((b.2.1.take i).mapIdx (dr b)).flatten).length ≤ i * 120 := by
     intro i
     induction i with
     | zero => intro _; simp
     | succ i ih =>
       intro hi
       have ih := ih (by omega)
       have hg : b.2.1[i]? = some b.2.1[i] := List.getElem?_eq_getElem hi
       have h2 := gl _ (List.mem_of_getElem? hg)
       have h3 := h2.2 i
       rw [ki _ hg, take_succ hg, List.flatMap_append, List.flatten_append, List.length_append, List.length_append]
       simp only [List.flatMap_cons, List.flatMap_nil, List.append_nil, List.flatten_cons, List.flatten_nil]
       omega
    rcases Nat.lt_or_ge b.2.1.length (i + 1) with h1 | h1
    ·rw [List.take_of_length_le (by omega)]
     have := key b.2.1.length (Nat.le_refl _)
     rw [List.take_length] at this
     omega
    ·have := key (i + 1) h1
     omega
 refine cI b.2.1 (fun i => ((b.2.1.take i).flatMap (de b), ((b.2.1.take i).mapIdx (dr b)).flatten)) _ rfl (fun i g hi hg kn => ?_) (fun kn => ?_)
 ·try dsimp only
  unfold rL
  have hgm := List.mem_of_getElem? hg
  have hr := h.gaugeR hgm
  have hd := Pc h hgm
  have hls := gls i
  have hat := ZJ (b := b) (p := [g.1]) (d := g.2.1)
  rw [bC hi, bt hg]
  rw [show mC ((b.1.1, b.1.2), b.2.1, b.2.2.1, b.2.2.2.1, b.2.2.2.2.1, b.2.2.2.2.2) g = mC b g from rfl, Y8 h.size, aZ]
  rw [ZI _ _ _ (by dsimp only; omega), aZ]
  try dsimp only
  have r1 := hr.2.2.2.2.2.1
  have r2 := hr.2.2.2.2.2.2.1
  rw [bG (by omega) (by omega), bG (by omega) (by omega), bG (by omega) (by omega), bD (by simp only [List.length_cons, List.length_nil]; omega), Am.iff_true, bD (by simp only [List.length_cons, List.length_nil]; omega), Am.iff_true]
  refine fK (fun x : Int × List Lk × List (Int × Int) => ∃ j : Nat, j + 1 ≤ (bO b g).length ∧ x.1 = (j : Int) + 1 ∧
   x.2.1 = (b.2.1.take i).flatMap (de b) ++ ([(0, atP (bm b) [g.1] g.2.1, g.2.2.1 + g.2.2.2.1.2), (atP (bm b) [g.1] g.2.1, 0, -(g.2.2.1 + g.2.2.2.1.1))] ++
    (List.range j).flatMap fun (k : Nat) => [(atP (bm b) [g.1] g.2.1 + k, atP (bm b) [g.1] g.2.1 + k + 1, 0), (atP (bm b) [g.1] g.2.1 + k + 1, atP (bm b) [g.1] g.2.1 + k, jf b g ((bO b g)[k]?.getD 0) ((bO b g)[k + 1]?.getD 0))]) ∧
   x.2.2 = ((b.2.1.take i).mapIdx (dr b)).flatten ++ ([(1, (i : Int)), (1, (i : Int))] ++ (List.range j).flatMap fun _ => [(2, (i : Int)), (2, (i : Int))])) (fun x => (bO b g).length - x.1.toNat) ?_
   ⟨0, List.length_pos_of_mem (la g), rfl, by simp, by simp⟩
  rintro ⟨x1, ls, ss⟩ ⟨j, hj, e1, e2, e3⟩
  dsimp only at e1 e2 e3 ⊢
  subst e1
  have hlls : ls.length ≤ 1562 := by
   rw [e2, List.length_append, List.length_append, i0 _ _ (fun _ => rfl)]
   simp only [List.length_cons, List.length_nil]; omega
  have hlss : ss.length ≤ 1562 := by
   rw [e3, List.length_append, List.length_append, i0 _ _ (fun _ => rfl)]
   simp only [List.length_cons, List.length_nil]; omega
  rcases Nat.lt_or_ge (j + 1) (bO b g).length with hlt | hge
  ·refine .inr ⟨((j : Int) + 1 + 1, _, _), ⟨j + 1, hlt, by push_cast; rfl, rfl, rfl⟩, by dsimp only; omega, fun kn' => ?_⟩
   try dsimp only
   unfold rK
   have g1 : (bO b g)[j]? = some ((bO b g)[j]?.getD 0) := by rw [List.getElem?_eq_getElem (by omega)]; rfl
   have g2 : (bO b g)[j + 1]? = some ((bO b g)[j + 1]?.getD 0) := by rw [List.getElem?_eq_getElem hlt]; rfl
   have d1 := h.day hgm (List.mem_of_getElem? g1)
   have d2 := h.day hgm (List.mem_of_getElem? g2)
   have lb := rW h hgm (t := (bO b g)[j + 1]?.getD 0) d1.2.1
   have ec : ((j : Int) + 1) = ((j + 1 : Nat) : Int) := by push_cast; rfl
   rw [ec, bC hlt, bG (by omega) (by omega), bG (by omega) (by omega), bG (by omega) (by omega), bG (by omega) (by omega)]
   rw [show (((j + 1 : Nat) : Int) - 1) = ((j : Nat) : Int) by omega, bt g1, bt g2]
   rw [show we ((b.1.1, b.1.2), b.2.1, b.2.2.1, b.2.2.2.1, b.2.2.2.2.1, b.2.2.2.2.2) (g.1, g.2.1, g.2.2.1, (g.2.2.2.1.1, g.2.2.2.1.2), (g.2.2.2.2.1.1, g.2.2.2.2.1.2), g.2.2.2.2.2) ((bO b g)[j]?.getD 0) ((bO b g)[j + 1]?.getD 0) = we b g ((bO b g)[j]?.getD 0) ((bO b g)[j + 1]?.getD 0) from rfl]
   rw [acq h hr.2.2.2.2.2.2.2 ⟨by omega, by omega⟩ ⟨by omega, by omega⟩, aZ, bG (by omega) (by omega), bG (by omega) (by omega), bD (by simp only [List.length_cons, List.length_nil]; omega), Am.iff_true, bD (by simp only [List.length_cons, List.length_nil]; omega), Am.iff_true, bv hlt (by omega)]
   rw [Cb, Cb, e2, e3]
   have a1 : atP (bm b) [g.1] g.2.1 + ((j + 1 : Nat) : Int) - 1 = atP (bm b) [g.1] g.2.1 + (j : Int) := by push_cast; omega
   have a2 : atP (bm b) [g.1] g.2.1 + ((j + 1 : Nat) : Int) = atP (bm b) [g.1] g.2.1 + (j : Int) + 1 := by push_cast; omega
   have a3 : 0 - (0 - jf b g ((bO b g)[j]?.getD 0) ((bO b g)[j + 1]?.getD 0)) = jf b g ((bO b g)[j]?.getD 0) ((bO b g)[j + 1]?.getD 0) := by omega
   rw [a1, a2, a3]
   simp only [List.append_assoc]
  ·refine .inl fun kn' => ?_
   have hje : j + 1 = (bO b g).length := by omega
   unfold rK
   rw [show ((j : Int) + 1) = (((bO b g).length : Nat) : Int) by rw [← hje]; push_cast; rfl, bX]
   dsimp only
   rw [bv hi (by omega)]
   rw [ki _ hg, take_succ hg, List.flatMap_append, List.flatten_append, e2, e3, show j = (bO b g).length - 1 by omega]
   simp only [List.flatMap_cons, List.flatMap_nil, List.append_nil, List.flatten_cons, List.flatten_nil]
   rfl
 ·try dsimp only
  unfold rL
  rw [bX, List.take_length]
  have hls := gls b.2.1.length
  rw [List.take_length] at hls
  have cl : ∀ i, i ≤ b.2.2.2.2.1.length → ((b.2.2.2.2.1.take i).flatMap (cu b)).length = 2 * i ∧ (((b.2.2.2.2.1.take i).mapIdx fun i _ => [((3 : Int), (i : Int)), ((3 : Int), (i : Int))]).flatten).length = 2 * i := by
   intro i
   induction i with
   | zero => intro _; simp
   | succ i ih =>
     intro hi
     have ih := ih (by omega)
     have hg : b.2.2.2.2.1[i]? = some b.2.2.2.2.1[i] := List.getElem?_eq_getElem hi
     rw [ki _ hg, take_succ hg, List.flatMap_append, List.flatten_append, List.length_append, List.length_append]
     simp only [List.flatMap_cons, List.flatMap_nil, List.append_nil, List.flatten_cons, List.flatten_nil, cu, List.length_cons, List.length_nil]
     omega
  refine cI b.2.2.2.2.1 (fun i => (b.2.1.flatMap (de b) ++ (b.2.2.2.2.1.take i).flatMap (cu b), (b.2.1.mapIdx (dr b)).flatten ++ ((b.2.2.2.2.1.take i).mapIdx fun i _ => [((3 : Int), (i : Int)), ((3 : Int), (i : Int))]).flatten)) _ (by simp) (fun i c hi hc kn' => ?_) (fun kn' => ?_)
  ·try dsimp only
   unfold rJ
   have hcm := List.mem_of_getElem? hc
   have hn := (jF c).1 (h.nums hcm)
   have ha := fI hn.2.2.2.2.2.1
   have hb := fI hn.2.2.2.2.2.2
   have sb := GB h hcm
   have c1 := cl i (by omega)
   rw [bC hi, bt hc, pw (by omega) (by omega), aZ, ZI _ _ _ (by dsimp only; omega), aZ, pw (by omega) (by omega), aZ, ZI _ _ _ (by dsimp only; omega), aZ]
   rw [show sf ((b.1.1, b.1.2), b.2.1, b.2.2.1, b.2.2.2.1, b.2.2.2.2.1, b.2.2.2.2.2) c = sf b c from rfl, h.says hcm, aZ]
   rw [bG (by omega) (by omega), bD (by simp only [List.length_append, List.length_cons, List.length_nil]; omega), Am.iff_true, bD (by simp only [List.length_append, List.length_cons, List.length_nil]; omega), Am.iff_true, bv hi (by omega), ki _ hc, take_succ hc, List.flatMap_append, List.flatten_append]
   simp only [List.flatMap_cons, List.flatMap_nil, List.append_nil, List.flatten_cons, List.flatten_nil, List.append_assoc, Int.zero_sub]
   rfl
  ·try dsimp only
   unfold rJ
   rw [bX, List.take_length]
   rfl
end Go.Proofs.ZzM
end
noncomputable section
namespace Go.Proofs.ZzM
open Go Go.Am
section
variable {ρ : Type}
def wv (w : List Bool) (v : Int) : Bool := w[v.toNat]?.getD false
theorem UI {w : List Bool} {u v : Int} (hu : 0 ≤ u) (hv : 0 ≤ v) (h : u.toNat < w.length) (y : Bool) : wv (w.set u.toNat y) v = if v = u then y else wv w v := by
 unfold wv
 rw [List.getElem?_set]
 by_cases hvu : v = u
 ·subst hvu; simp [h]
 ·have : ¬ u.toNat = v.toNat := by omega
  simp [hvu, this]
theorem i6 {x : List Int} {v : Int} (h : v.toNat < x.length) (f : Int → Option ρ) : gw x v.toNat f = f (gv x v) := qQ (Ml h) f
theorem Nh {w : List Bool} {v : Int} (h : v.toNat < w.length) (f : Bool → Option ρ) : gw w v.toNat f = f (wv w v) := by
 refine qQ ?_ f
 unfold wv; rw [List.getElem?_eq_getElem h]; rfl
theorem ir {v : Int} {n : Nat} (h0 : 0 ≤ v) (h1 : v < n) (x : Option ρ) : ca ((ile 0 v) && (ilt v (n : Int))) x = x := by
 have : ((ile 0 v) && (ilt v (n : Int))) = true := by simp [ile, ilt, h0, h1]
 rw [this, Am.iff_true]
end
def nx (n least : Int) : List Lk → List Int → List Bool → List Int → Bool × List Int × List Bool × List Int
 | [], x, w, q => (true, x, w, q)
 | l :: t, x, w, q =>
   if l.1 ≠ n then nx n least t x w q else
   if gv x l.2.1 ≤ gv x n + l.2.2 then nx n least t x w q else
   if gv x n + l.2.2 < least then (false, x.set l.2.1.toNat (gv x n + l.2.2), w, q) else
   if wv w l.2.1 then nx n least t (x.set l.2.1.toNat (gv x n + l.2.2)) w q else nx n least t (x.set l.2.1.toNat (gv x n + l.2.2)) (w.set l.2.1.toNat true) (q ++ [l.2.1])
structure gP (L : List Lk) (N : Nat) (M : Int) : Prop where
 inr : InR L N
 noloop : ∀ l ∈ L, l.1 ≠ l.2.1
 most : ∀ l ∈ L, -M ≤ l.2.2 ∧ l.2.2 ≤ M
 len : L.length ≤ 400
 nodes : N ≤ 1000
 m0 : 0 ≤ M
 m1 : M ≤ 4503599627370496
set_option maxHeartbeats 1000000 in
theorem aaL {ρ : Type} {L : List Lk} {N : Nat} {M : Int} (hL : gP L N M) {n least : Int} (hn : 0 ≤ n ∧ n < N) {x : List Int} {w : List Bool} {q : List Int} (hx : x.length = N) (hw : w.length = N) (hq : q.length ≤ 1000000)
 (hb : -2305843009213693952 ≤ gv x n ∧ gv x n ≤ 2305843009213693952) (K0 : (Val (.pair .bool (.pair (.slice tI) (.pair (.slice .bool) (.slice tI))))) → Option ρ) (K1 : (Val (.pair (.slice tI) (.pair (.slice .bool) (.slice tI)))) → Option ρ) :
 bw (fun (v47 : (Val (.pair tI (.pair (.slice tI) (.pair (.slice .bool) (.slice tI)))))) kk52 => il [] least n L (bK L) v47.1 v47.2.1 v47.2.2.1 v47.2.2.2 (fun u48 u49 u50 u51 => kk52 (u48, u49, u50, u51)) K0 K1) ((0 : Int), x, w, q) =
  match nx n least L x w q with
  | (true, r) => K1 r
  | (false, r) => K0 (false, r) := by
 have hlen := hL.len
 refine F8 L (fun i (s : List Int × List Bool × List Int) t => match nx n least t s.1 s.2.1 s.2.2 with | (true, r) => K1 r | (false, r) => K0 (false, r))
  (fun i s => s.1.length = N ∧ s.2.1.length = N ∧ gv s.1 n = gv x n ∧ s.2.2.length ≤ 1000000 + i) (fun s hs kn => ?_) (fun i l t s hd hi hl hI kn hk => ?_) (s := (x, w, q)) ⟨hx, hw, rfl, by simpa using hq⟩
 ·try dsimp only
  unfold il
  rw [bX]
  rfl
 ·obtain ⟨y, u, p⟩ := s
  obtain ⟨h1, h2, h3, h4⟩ := hI
  dsimp only at h1 h2 h3 h4 hk ⊢
  have hmem : l ∈ L := List.mem_of_getElem? hl
  have hr := hL.inr l hmem
  have hm := hL.most l hmem
  have hm1 := hL.m1
  have hnl := hL.noloop l hmem
  unfold il
  rw [bC hi, bt hl]
  unfold nx
  by_cases hln : l.1 = n
  ·have e0 : ine l.1 n = false := by simp [ine, hln]
   rw [bz e0]
   have e1 : ∀ (f : Bool → Option ρ) (g : Option ρ), PF (k := tI) (v := .bool) (i : Int) [] f g = g := fun f g => rfl
   rw [e1, if_neg (by simp [hln])]
   have tn : n.toNat < y.length := by omega
   have tt : l.2.1.toNat < y.length := by omega
   have tu : l.2.1.toNat < u.length := by omega
   rw [ir hn.1 (by omega), i6 tn, bG (by omega) (by omega), ir hr.2.1 (by omega), i6 tt, dA]
   by_cases hge : gv y l.2.1 ≤ gv y n + l.2.2
   ·rw [if_pos (by simpa [ige] using hge), if_pos hge, bv hi (by omega)]
    exact hk (y, u, p) ⟨h1, h2, h3, by dsimp only; omega⟩
   ·rw [if_neg (by simpa [ige] using hge), if_neg hge]
    have hset : gv (y.set l.2.1.toNat (gv y n + l.2.2)) n = gv x n := by
     rw [vg hr.2.1 hn.1 tt, if_neg (fun h => hnl (hln.trans h)), h3]
    have hself : gv (y.set l.2.1.toNat (gv y n + l.2.2)) l.2.1 = gv y n + l.2.2 := by
     rw [vg hr.2.1 hr.2.1 tt, if_pos rfl]
    rw [ir hn.1 (by omega), i6 tn, bG (by omega) (by omega), ir hr.2.1 (by omega), i6 tt]
    rw [show (dz (List.set y l.2.1.toNat (gv y n + l.2.2))) = ((y.length : Nat) : Int) by simp [dz]]
    rw [ir hr.2.1 (by omega), i6 (by simpa using tt), hself, dA]
    by_cases hlt : gv y n + l.2.2 < least
    ·rw [if_pos (by simpa [ilt] using hlt), if_pos hlt]
    ·rw [if_neg (by simpa [ilt] using hlt), if_neg hlt, ir hr.2.1 (by omega), Nh tu, dA]
     cases hwv : wv u l.2.1 with
     | true =>
       rw [if_neg (by simp), if_pos rfl, bv hi (by omega)]
       exact hk (y.set l.2.1.toNat (gv y n + l.2.2), u, p) ⟨by simpa using h1, h2, hset, by dsimp only; omega⟩
     | false =>
       rw [if_pos (by simp), if_neg (by simp), bD (by simp only [List.length_singleton]; omega), Am.iff_true, ir hr.2.1 (by omega), Nh tu, bv hi (by omega)]
       exact hk (y.set l.2.1.toNat (gv y n + l.2.2), u.set l.2.1.toNat true, p ++ [l.2.1]) ⟨by simpa using h1, by simpa using h2, hset, by simp only [List.length_append, List.length_singleton]; omega⟩
  ·have e0 : ine l.1 n = true := by simp [ine, hln]
   rw [bI e0, if_pos hln, bv hi (by omega)]
   exact hk (y, u, p) ⟨h1, h2, h3, by dsimp only; omega⟩
structure abB (N : Nat) (n least : Int) (L : List Lk) (x : List Int) (q : List Int) (x' : List Int) (w' : List Bool) (q' : List Int) : Prop where
 lx : x'.length = N
 lw : w'.length = N
 same : gv x' n = gv x n
 le : ∀ v : Int, 0 ≤ v → v < N → gv x' v ≤ gv x v
 link : ∀ v m, (n, v, m) ∈ L → gv x' v ≤ gv x n + m
 chg : ∀ v : Int, 0 ≤ v → v < N → gv x' v = gv x v ∨ (v ∈ q' ∧ gv x' v < gv x v ∧ ∃ m, (n, v, m) ∈ L ∧ gv x' v = gv x n + m ∧ least ≤ gv x' v)
 new : ∃ l, q' = q ++ l ∧ ∀ v ∈ l, (0 ≤ v ∧ v < N) ∧ gv x' v < gv x v
 nodup : q'.Nodup
 waits : ∀ v : Int, 0 ≤ v → v < N → (wv w' v = true ↔ v ∈ q')
theorem jn {N : Nat} {n least : Int} (hn : 0 ≤ n ∧ n < N) : ∀ {L : List Lk}, InR L N → (∀ l ∈ L, l.1 ≠ l.2.1) → ∀ {x : List Int} {w : List Bool} {q : List Int}, x.length = N → w.length = N → q.Nodup → (∀ v : Int, 0 ≤ v → v < N → (wv w v = true ↔ v ∈ q)) →
 ∀ {x' : List Int} {w' : List Bool} {q' : List Int}, nx n least L x w q = (true, x', w', q') → abB N n least L x q x' w' q'
 | [], _, _, x, w, q, hx, hw, hq, hwq, x', w', q', h => by
   cases h
   exact ⟨hx, hw, rfl, fun _ _ _ => Int.le_refl _, fun _ _ h => (by cases h), fun _ _ _ => .inl rfl, ⟨[], by simp, fun _ h => by cases h⟩, hq, hwq⟩
 | l :: t, hL, hnl, x, w, q, hx, hw, hq, hwq, x', w', q', h => by
   have hLt : InR t N := fun l hl => hL l (by simp [hl])
   have hnt : ∀ l ∈ t, l.1 ≠ l.2.1 := fun l hl => hnl l (by simp [hl])
   have hr := hL l (by simp)
   have hl0 := hnl l (by simp)
   unfold nx at h
   split at h
   ·rename_i hne
    have a := jn hn hLt hnt hx hw hq hwq h
    exact ⟨a.lx, a.lw, a.same, a.le, fun v m hm => by
     rcases List.mem_cons.1 hm with rfl | hm
     ·exact (hne rfl).elim
     ·exact a.link v m hm, fun v h0 h1 => (a.chg v h0 h1).imp id fun ⟨g1, g2, m, g3, g4⟩ => ⟨g1, g2, m, by simp [g3], g4⟩, a.new, a.nodup, a.waits⟩
   ·rename_i hne
    have hln : l.1 = n := by simpa using hne
    split at h
    ·rename_i hle
     have a := jn hn hLt hnt hx hw hq hwq h
     exact ⟨a.lx, a.lw, a.same, a.le, fun v m hm => by
      rcases List.mem_cons.1 hm with rfl | hm
      ·have := a.le v hr.2.1 hr.2.2; simp only at hle; omega
      ·exact a.link v m hm, fun v h0 h1 => (a.chg v h0 h1).imp id fun ⟨g1, g2, m, g3, g4⟩ => ⟨g1, g2, m, by simp [g3], g4⟩, a.new, a.nodup, a.waits⟩
    ·rename_i hgt
     split at h
     ·cases h
     ·rename_i hls
      have tt : l.2.1.toNat < x.length := by omega
      have tw : l.2.1.toNat < w.length := by omega
      have hy : (x.set l.2.1.toNat (gv x n + l.2.2)).length = N := by simpa using hx
      have hyn : gv (x.set l.2.1.toNat (gv x n + l.2.2)) n = gv x n := by
       rw [vg hr.2.1 hn.1 tt, if_neg (fun h => hl0 (hln.trans h))]
      have hyv : ∀ v, 0 ≤ v → gv (x.set l.2.1.toNat (gv x n + l.2.2)) v = if v = l.2.1 then gv x n + l.2.2 else gv x v := fun v h0 => vg hr.2.1 h0 tt _
      have hlm : (n, l.2.1, l.2.2) ∈ l :: t := by rw [← hln]; simp
      -- what both ways have in common
      have fin : ∀ {w1 : List Bool} {q1 : List Int}, abB N n least t (x.set l.2.1.toNat (gv x n + l.2.2)) q1 x' w' q' → l.2.1 ∈ q1 → (∃ l', q1 = q ++ l' ∧ ∀ v ∈ l', v = l.2.1) → abB N n least (l :: t) x q x' w' q' := by
       intro w1 q1 a hmem hq1
       obtain ⟨new, hnew, hnv⟩ := a.new
       obtain ⟨l', hl', hlv⟩ := hq1
       have hto : gv x' l.2.1 ≤ gv x n + l.2.2 := by
        have := a.le l.2.1 hr.2.1 hr.2.2
        rw [hyv _ hr.2.1, if_pos rfl] at this
        exact this
       refine ⟨a.lx, a.lw, a.same.trans hyn, fun v h0 h1 => ?_, fun v m hm => ?_, fun v h0 h1 => ?_, ⟨l' ++ new, by rw [hnew, hl', List.append_assoc], fun v hv => ?_⟩, a.nodup, a.waits⟩
       ·have := a.le v h0 h1
        rw [hyv v h0] at this
        split at this
        ·rename_i e; subst e; omega
        ·exact this
       ·rcases List.mem_cons.1 hm with rfl | hm
        ·exact hto
        ·have := a.link v m hm
         rwa [hyn] at this
       ·rcases a.chg v h0 h1 with g | ⟨g1, g2, m, g3, g4, g5⟩
        ·rw [hyv v h0] at g
         split at g
         ·rename_i e
          subst e
          exact .inr ⟨by rw [hnew]; exact List.mem_append_left _ hmem, by omega, l.2.2, hlm, g, by omega⟩
         ·exact .inl g
        ·rw [hyv v h0] at g2
         rw [hyn] at g4
         refine .inr ⟨g1, ?_, m, by simp [g3], g4, g5⟩
         split at g2
         ·rename_i e; subst e; omega
         ·exact g2
       ·rcases List.mem_append.1 hv with hv | hv
        ·rw [hlv v hv]; exact ⟨hr.2, by omega⟩
        ·obtain ⟨g1, g2⟩ := hnv v hv
         rw [hyv v g1.1] at g2
         refine ⟨g1, ?_⟩
         split at g2
         ·rename_i e; subst e; omega
         ·exact g2
      split at h
      ·rename_i hwt
       exact fin (w1 := w) (jn hn hLt hnt hy hw hq hwq h) ((hwq _ hr.2.1 hr.2.2).1 hwt) ⟨[], by simp, fun _ h => by cases h⟩
      ·rename_i hwt
       have hnq : l.2.1 ∉ q := fun hc => hwt ((hwq _ hr.2.1 hr.2.2).2 hc)
       refine fin (w1 := w.set l.2.1.toNat true) (jn hn hLt hnt hy (by simpa using hw) ?_ ?_ h) (by simp) ⟨[l.2.1], rfl, fun v hv => by simpa using hv⟩
       ·rw [List.nodup_append]
        exact ⟨hq, by simp, fun a ha b hb => by simp at hb; subst hb; exact fun e => hnq (e ▸ ha)⟩
       ·intro v h0 h1
        rw [UI hr.2.1 h0 tw]
        by_cases hv : v = l.2.1
        ·simp [hv]
        ·simp only [hv, if_false, List.mem_append, List.mem_singleton, or_false]
         exact hwq v h0 h1
theorem lI {n least : Int} : ∀ {L : List Lk}, (∀ l ∈ L, l.1 ≠ l.2.1) → (∀ l ∈ L, 0 ≤ l.2.1) → 0 ≤ n → ∀ {x : List Int} {w : List Bool} {q : List Int} {r}, nx n least L x w q = (false, r) → ∃ v m, (n, v, m) ∈ L ∧ gv x n + m < least
 | [], _, _, _, x, w, q, r, h => by cases h
 | l :: t, hnl, h0, hn, x, w, q, r, h => by
   have hnt : ∀ l ∈ t, l.1 ≠ l.2.1 := fun l hl => hnl l (by simp [hl])
   have h0t : ∀ l ∈ t, 0 ≤ l.2.1 := fun l hl => h0 l (by simp [hl])
   have up : (∃ v m, (n, v, m) ∈ t ∧ gv x n + m < least) → ∃ v m, (n, v, m) ∈ l :: t ∧ gv x n + m < least := fun ⟨v, m, g1, g2⟩ => ⟨v, m, by simp [g1], g2⟩
   unfold nx at h
   split at h
   ·exact up (lI hnt h0t hn h)
   ·rename_i hne
    have hln : l.1 = n := by simpa using hne
    split at h
    ·exact up (lI hnt h0t hn h)
    ·split at h
     ·rename_i hlt
      exact ⟨l.2.1, l.2.2, by rw [← hln]; simp, hlt⟩
     ·have hyn : gv (x.set l.2.1.toNat (gv x n + l.2.2)) n = gv x n := by
       unfold gv
       rw [List.getElem?_set]
       have h1 := hnl l (by simp)
       have h2 := h0 l (by simp)
       have : ¬ l.2.1.toNat = n.toNat := by omega
       simp [this]
      split at h
      ·have := lI hnt h0t hn h
       rw [hyn] at this
       exact up this
      ·have := lI hnt h0t hn h
       rw [hyn] at this
       exact up this
end Go.Proofs.ZzM
end
noncomputable section
namespace Go.Proofs.ZzM
open Go Go.Am
theorem Vi {ρ : Type} {L : List Lk} {N : Nat} {M : Int} (hL : gP L N M) {n least : Int} (hn : 0 ≤ n ∧ n < N) {x : List Int} {w : List Bool} {t rest : List Int} (hx : x.length = N) (hw : w.length = N) (ht : t.length = N) (hq : rest.length ≤ 1000000)
 (hb : -2305843009213693952 ≤ gv x n ∧ gv x n ≤ 2305843009213693952) (htn : 0 ≤ gv t n ∧ gv t n ≤ 1000000) (kn : List Int → List Bool → List Int → List Int → Option ρ) (k0 : (Val (.pair .bool (.pair (.slice tI) (.pair (.slice .bool) (.pair (.slice tI) (.slice tI)))))) → Option ρ) :
 dm [] least (N : Int) L x w t (n :: rest) kn k0 =
  if (N : Int) + 1 < gv t n + 1 then k0 (false, x, w.set n.toNat false, t.set n.toNat (gv t n + 1), rest) else
  match nx n least L x (w.set n.toNat false) rest with
  | (true, x', w', q') => kn x' w' (t.set n.toNat (gv t n + 1)) q'
  | (false, x', w', q') => k0 (false, x', w', t.set n.toNat (gv t n + 1), q') := by
 have hN := hL.nodes
 have tn : n.toNat < x.length := by omega
 have tw : n.toNat < w.length := by omega
 have tt : n.toNat < t.length := by omega
 unfold dm
 have e0 : ieq (bK (n :: rest)) 0 = false := by
  rw [bU]
  simp only [ieq, List.length_cons, beq_eq_false_iff_ne, ne_eq]
  omega
 have e1 : ilt (0 : Int) (dz (n :: rest)) = true := by simp [ilt, dz]
 have e2 : ile (1 : Int) (dz (n :: rest)) = true := by simp [ile, dz]; omega
 have e3 : decide (1 + (List.length (n :: rest) - 1) = List.length (n :: rest)) = true := by simp; omega
 rw [bz e0, dh e1]
 rw [show gw (n :: rest) 0 = fun (f : Int → Option ρ) => f n from rfl]
 try dsimp only
 rw [dh e2, dh e3, ir hn.1 (by omega), Nh tw, ir hn.1 (by omega), i6 tt, bG (by omega) (by omega), ir hn.1 (by omega), i6 tt]
 rw [show (dz (List.set t n.toNat (gv t n + 1))) = ((t.length : Nat) : Int) by simp [dz]]
 rw [ir hn.1 (by omega), i6 (by simpa using tt), vg hn.1 hn.1 tt, if_pos rfl, bG (by omega) (by omega), dA]
 rw [show List.drop 1 (n :: rest) = rest from rfl]
 by_cases hlt : (N : Int) + 1 < gv t n + 1
 ·rw [if_pos (by simpa [igt] using hlt), if_pos hlt]
 ·rw [if_neg (by simpa [igt] using hlt), if_neg hlt]
  rw [aaL hL hn hx (w := w.set n.toNat false) (by simpa using hw) hq hb]
  generalize nx n least L x (w.set n.toNat false) rest = r
  obtain ⟨b, x', w', q'⟩ := r
  cases b <;> rfl
theorem XW {ρ : Type} {L : List Lk} {N : Int} {least : Int} {x : List Int} {w : List Bool} {t : List Int} (kn : List Int → List Bool → List Int → List Int → Option ρ) (k0 : (Val (.pair .bool (.pair (.slice tI) (.pair (.slice .bool) (.pair (.slice tI) (.slice tI)))))) → Option ρ) :
 dm [] least N L x w t [] kn k0 = k0 (true, x, w, t, []) := by
 unfold dm
 have e0 : ieq (bK ([] : List Int)) 0 = true := by rw [bU]; rfl
 rw [bI e0]
def O0 (N : Nat) (t : List Int) : Nat := (t.map fun a => ((N : Int) + 2 - a).toNat).sum
theorem Vq (N : Nat) : ∀ (t : List Int) (i : Nat) (a b : Int), t[i]? = some a → a < b → a < (N : Int) + 2 → O0 N (t.set i b) < O0 N t
 | a0 :: t, 0, a, b, h, h1, h2 => by
   simp at h; subst h
   simp only [O0, List.set_cons_zero, List.map_cons, List.sum_cons]
   omega
 | a0 :: t, i + 1, a, b, h, h1, h2 => by
   have := Vq N t i a b (by simpa using h) h1 h2
   simp only [O0] at this
   simp only [O0, List.set_cons_succ, List.map_cons, List.sum_cons]
   omega
theorem RM {N : Nat} {t : List Int} {n : Int} (hn : n.toNat < t.length) (h : gv t n ≤ (N : Int) + 1) : O0 N (t.set n.toNat (gv t n + 1)) < O0 N t :=
 Vq N t n.toNat (gv t n) _ (Ml hn) (by omega) (by omega)
structure Xo (L : List Lk) (S : Int → Prop) (N : Nat) (M : Int) (k : Nat) (A B : List Int) (x : List Int) (w : List Bool) (t q : List Int) : Prop where
 q_eq : q = A ++ B
 lx : x.length = N
 lw : w.length = N
 lt : t.length = N
 nodup : q.Nodup
 rng : ∀ v ∈ q, 0 ≤ v ∧ v < N
 waits : ∀ v : Int, 0 ≤ v → v < N → (wv w v = true ↔ v ∈ q)
 t0 : ∀ v : Int, 0 ≤ v → v < N → 0 ≤ gv t v ∧ gv t v ≤ (k : Int) + 1
 tA : ∀ v ∈ A, gv t v ≤ k
 low : ∀ vs v d, Wl L S vs v d → vs.length ≤ k → gv x v ≤ d
 nxt : ∀ vs u d, Wl L S vs u d → vs.length ≤ k → u ∉ A → ∀ v m, (u, v, m) ∈ L → gv x v ≤ d + m
 rel : ∀ u : Int, 0 ≤ u → u < N → u ∉ q → gv x u ≠ fP → ∀ v m, (u, v, m) ∈ L → gv x v ≤ gv x u + m
 att : ∀ v : Int, 0 ≤ v → v < N → gv x v ≠ fP → ∃ vs, Wl L S vs v (gv x v)
 bd : ∀ v : Int, 0 ≤ v → v < N → gv x v = fP ∨ gv x v ≤ ((k : Int) + 1) * M
 bA : ∀ v ∈ A, gv x v ≤ (k : Int) * M
 fin : ∀ v ∈ q, gv x v < fP
 kN : k + 1 ≤ N
 last : k + 1 = N → B = []
section
variable {L : List Lk} {S : Int → Prop} {N : Nat} {M : Int} {p : Int → Int} {k : Nat} {A B x : List Int} {w : List Bool} {t q : List Int}
theorem F1 {a b : Nat} {M : Int} (h : a ≤ b) (hM : 0 ≤ M) : (a : Int) * M ≤ (b : Int) * M := Int.mul_le_mul_of_nonneg_right (by omega) hM
theorem Wl.lt_free (hL : gP L N M) (hNM : N * M < fP) {vs : List Int} {v d : Int} (hw : Wl L S vs v d) (h : vs.length ≤ N) : d < fP := by
 have h1 := hw.high fun l hl => (hL.most l hl).2
 have h2 := F1 h hL.m0
 omega
theorem Xo.next (hL : gP L N M) (hNM : N * M < fP) (hS : ∀ v, S v → 0 ≤ v ∧ v < N) (h : Xo L S N M k [] B x w t q) (hB : B ≠ []) : Xo L S N M (k + 1) B [] x w t q := by
 have hM := hL.m0
 have hq : q = B := by simpa using h.q_eq
 have hk : k + 1 ≠ N := fun e => hB (h.last e)
 have hkN := h.kN
 have low' : ∀ vs v d, Wl L S vs v d → vs.length ≤ k + 1 → gv x v ≤ d := by
  intro vs v d hw hl
  cases hw with
  | nil hs => exact h.low [] v 0 (.nil hs) (by simp)
  | @step vs u _ m d hw hlk => exact h.nxt vs u d hw (by simpa using hl) (by simp) v m hlk
 refine ⟨by simp [hq], h.lx, h.lw, h.lt, h.nodup, h.rng, h.waits, fun v h0 h1 => ⟨(h.t0 v h0 h1).1, by have := (h.t0 v h0 h1).2; push_cast; omega⟩, fun v hv => ?_, low', fun vs u d hw hl hu v m hlk => ?_, h.rel, h.att, fun v h0 h1 => ?_, fun v hv => ?_, h.fin, by omega, fun _ => rfl⟩
 ·have := h.rng v (by rw [hq]; exact hv)
  have := (h.t0 v this.1 this.2).2
  push_cast; omega
 ·have h1 := low' vs u d hw hl
  have h2 := hw.lt_free hL hNM (by omega)
  have h3 := (hw.range hL.inr hS).1
  have := h.rel u h3.1 h3.2 (by rw [hq]; exact hu) (by omega) v m hlk
  omega
 ·rcases h.bd v h0 h1 with h2 | h2
  ·exact .inl h2
  ·refine .inr ?_
   have := F1 (show k + 1 ≤ k + 1 + 1 by omega) hM
   push_cast at this ⊢
   omega
 ·have h1 := h.rng v (by rw [hq]; exact hv)
  have h2 := h.fin v (by rw [hq]; exact hv)
  rcases h.bd v h1.1 h1.2 with h3 | h3
  ·omega
  ·push_cast; exact h3
theorem Xo.step {n : Int} {A' : List Int} {least : Int} {x' : List Int} {w' : List Bool} {q' : List Int} (hL : gP L N M) (hNM : N * M < fP) (hp : Pot L p) (hS : ∀ v, S v → 0 ≤ v ∧ v < N) (h : Xo L S N M k (n :: A') B x w t q)
 (ha : abB N n least L x (A' ++ B) x' w' q') : ∃ B', Xo L S N M k A' B' x' w' (t.set n.toNat (gv t n + 1)) q' := by
 have hM := hL.m0
 have hq : q = n :: (A' ++ B) := by simpa using h.q_eq
 have hkN := h.kN
 have hnr := h.rng n (by rw [hq]; simp)
 have hnf := h.fin n (by rw [hq]; simp)
 have hnd : n ∉ A' ++ B := by have := h.nodup; rw [hq, List.nodup_cons] at this; exact this.1
 have htn : n.toNat < t.length := by have := h.lt; omega
 have tset : ∀ v, 0 ≤ v → gv (t.set n.toNat (gv t n + 1)) v = if v = n then gv t n + 1 else gv t v := fun v h0 => vg hnr.1 h0 htn _
 have hkM : ((k : Int) + 1) * M < fP := by
  have := F1 hkN hM
  push_cast at this
  omega
 have xle : ∀ v : Int, 0 ≤ v → v < N → gv x v ≤ fP := fun v h0 h1 => by rcases h.bd v h0 h1 with h2 | h2 <;> omega
 obtain ⟨l, hl, hlv⟩ := ha.new
 have att' : ∀ v : Int, 0 ≤ v → v < N → gv x' v ≠ fP → ∃ vs, Wl L S vs v (gv x' v) := by
  intro v h0 h1 hne
  rcases ha.chg v h0 h1 with g | ⟨_, _, m, g3, g4, _⟩
  ·rw [g] at hne ⊢; exact h.att v h0 h1 hne
  ·obtain ⟨vs, hw⟩ := h.att n hnr.1 hnr.2 (by omega)
   rw [g4]; exact ⟨_, hw.step g3⟩
 refine ⟨B ++ l, by rw [hl, List.append_assoc], ha.lx, ha.lw, by rw [List.length_set]; exact h.lt, ha.nodup, fun v hv => ?_, ha.waits, fun v h0 h1 => ?_, fun v hv => ?_, fun vs v d hw hlen => ?_, fun vs u d hw hlen hu v m hlk => ?_,
  fun u h0 h1 hu hf v m hlk => ?_, att', fun v h0 h1 => ?_, fun v hv => ?_, fun v hv => ?_, hkN, fun hk => ?_⟩
 ·rw [hl] at hv
  rcases List.mem_append.1 hv with hv | hv
  ·exact h.rng v (by rw [hq]; simp only [List.mem_cons]; exact .inr hv)
  ·exact (hlv v hv).1
 ·rw [tset v h0]
  have h2 := h.t0 v h0 h1
  split
  ·have h3 := h.tA n (by simp)
   have h4 := h.t0 n hnr.1 hnr.2
   omega
  ·exact h2
 ·have h1 := h.rng v (by rw [hq]; simp [hv])
  rw [tset v h1.1, if_neg (fun e => hnd (by rw [← e]; simp [hv]))]
  exact h.tA v (by simp [hv])
 ·have h1 := h.low vs v d hw hlen
  have h2 := (hw.range hL.inr hS).1
  have := ha.le v h2.1 h2.2
  omega
 ·have hvr := (hL.inr _ hlk).2
  by_cases hun : u = n
  ·subst hun
   have h1 := ha.link v m hlk
   have h2 := h.low vs u d hw hlen
   omega
  ·have h1 := h.nxt vs u d hw hlen (by simp [hun, hu]) v m hlk
   have := ha.le v hvr.1 hvr.2
   omega
 ·have hvr := (hL.inr _ hlk).2
  have heq : gv x' u = gv x u := by
   rcases ha.chg u h0 h1 with g | ⟨g, _⟩
   ·exact g
   ·exact (hu g).elim
  by_cases hun : u = n
  ·subst hun
   have h1 := ha.link v m hlk
   omega
  ·have hur : u ∉ q := by
    rw [hq]
    intro hc
    rcases List.mem_cons.1 hc with e | hc
    ·exact hun e
    ·exact hu (by rw [hl]; exact List.mem_append_left _ hc)
   have h2 := h.rel u h0 h1 hur (by rw [← heq]; exact hf) v m hlk
   have := ha.le v hvr.1 hvr.2
   omega
 ·rcases ha.chg v h0 h1 with g | ⟨_, _, m, g3, g4, _⟩
  ·rw [g]; exact h.bd v h0 h1
  ·have h2 := h.bA n (by simp)
   have h3 := (hL.most _ g3).2
   simp only at h3
   refine .inr ?_
   rw [g4, Int.add_mul, Int.one_mul]
   omega
 ·have h1 := h.rng v (by rw [hq]; simp [hv])
  have h2 := h.bA v (by simp [hv])
  have := ha.le v h1.1 h1.2
  omega
 ·rw [hl] at hv
  rcases List.mem_append.1 hv with hv | hv
  ·have h1 := h.rng v (by rw [hq]; simp only [List.mem_cons]; exact .inr hv)
   have h2 := h.fin v (by rw [hq]; simp only [List.mem_cons]; exact .inr hv)
   have := ha.le v h1.1 h1.2
   omega
  ·obtain ⟨g1, g2⟩ := hlv v hv
   have := xle v g1.1 g1.2
   omega
 ·rw [h.last hk]
  cases l with
  | nil => rfl
  | cons v l =>
    exfalso
    obtain ⟨g1, g2⟩ := hlv v (by simp)
    have := xle v g1.1 g1.2
    obtain ⟨vs, hw⟩ := att' v g1.1 g1.2 (by omega)
    obtain ⟨vs', d', k1, k2, k3⟩ := hw.simple hp
    have k4 := k1.short hL.inr hS k3
    have := h.low vs' v d' k1 (by omega)
    omega
theorem Xo.done (hL : gP L N M) (hNM : N * M < fP) (hp : Pot L p) (hS : ∀ v, S v → 0 ≤ v ∧ v < N) (h : Xo L S N M k A B x w t []) : Xp L S N (gv x) := by
 have hkN := h.kN
 have hM := hL.m0
 have hkM : ((k : Int) + 1) * M < fP := by
  have := F1 hkN hM
  push_cast at this
  omega
 have key : ∀ vs v d, Wl L S vs v d → vs.length + 1 ≤ N → gv x v ≤ d := by
  intro vs v d hw
  induction hw with
  | nil hs => intro _; exact h.low [] _ 0 (.nil hs) (by simp)
  | @step vs u v m d hw hlk ih =>
    intro hlen
    simp only [List.length_cons] at hlen
    have h1 := ih (by omega)
    have h2 := hw.lt_free hL hNM (by omega)
    have h3 := (hw.range hL.inr hS).1
    have := h.rel u h3.1 h3.2 (by simp) (by omega) v m hlk
    omega
 refine ⟨h.att, fun v vs d hw => ?_, fun v h0 h1 => ?_⟩
 ·obtain ⟨vs', d', k1, k2, k3⟩ := hw.simple hp
  have := key vs' v d' k1 (k1.short hL.inr hS k3)
  omega
 ·rcases h.bd v h0 h1 with h2 | h2 <;> omega
theorem PT {ρ : Type} {r : Option ρ} (hL : gP L N M) (hNM : N * M < fP) (hp : Pot L p) (hS : ∀ v, S v → 0 ≤ v ∧ v < N) (k0 : (Val (.pair .bool (.pair (.slice tI) (.pair (.slice .bool) (.pair (.slice tI) (.slice tI)))))) → Option ρ)
 (hK : ∀ x w t q, x.length = N → Xp L S N (gv x) → k0 (true, x, w, t, q) = r) (h : Xo L S N M k A B x w t q) :
 bw (fun (v64 : (Val (.pair (.slice tI) (.pair (.slice .bool) (.pair (.slice tI) (.slice tI)))))) kk69 => dm [] (F0 L) (N : Int) L v64.1 v64.2.1 v64.2.2.1 v64.2.2.2 (fun u65 u66 u67 u68 => kk69 (u65, u66, u67, u68)) k0) (x, w, t, q) = r := by
 refine fK (fun s : List Int × List Bool × List Int × List Int => ∃ k A B, Xo L S N M k A B s.1 s.2.1 s.2.2.1 s.2.2.2) (fun s => O0 N s.2.2.1) ?_ ⟨k, A, B, h⟩
 rintro ⟨x, w, t, q⟩ ⟨k, A, B, h⟩
 dsimp only at h ⊢
 have hN := hL.nodes
 cases q with
 | nil => exact .inl fun kn => by rw [XW]; exact hK x w t [] h.lx (h.done hL hNM hp hS)
 | cons n rest =>
   -- the phase in which the first one is
   have hph : ∃ k A' B, Xo L S N M k (n :: A') B x w t (n :: rest) := by
    cases A with
    | nil =>
      have hB : B = n :: rest := by simpa using h.q_eq.symm
      subst hB
      exact ⟨k + 1, rest, [], h.next hL hNM hS (by simp)⟩
    | cons a A' =>
      have := h.q_eq
      simp only [List.cons_append, List.cons.injEq] at this
      obtain ⟨rfl, _⟩ := this
      exact ⟨k, A', B, h⟩
   clear h k A B
   obtain ⟨k, A', B, h⟩ := hph
   have hrest : rest = A' ++ B := by have := h.q_eq; simpa using this
   have hnr := h.rng n (by simp)
   have hnf := h.fin n (by simp)
   have hkN := h.kN
   have h1 := h.tA n (by simp)
   have h2 := h.t0 n hnr.1 hnr.2
   obtain ⟨vs, hw⟩ := h.att n hnr.1 hnr.2 (by omega)
   have hlow := hw.low' hp
   have hneg : -(400 * 4503599627370496) ≤ F0 L := by
    have : ∀ L' : List Lk, (∀ l ∈ L', -M ≤ l.2.2) → -((L'.length : Int) * M) ≤ F0 L' := by
     intro L'
     induction L' with
     | nil => intro _; simp [F0, Fd]
     | cons l t ih =>
       intro hh
       have i1 := ih fun l hl => hh l (by simp [hl])
       have i2 := hh l (by simp)
       have i3 := hL.m0
       unfold F0 at i1 ⊢
       simp only [Fd, if_true, List.length_cons, Int.natCast_succ, Int.add_mul, Int.one_mul]
       omega
    have h3 := this L fun l hl => (hL.most l hl).1
    have h4 : (L.length : Int) * M ≤ 400 * 4503599627370496 := Int.mul_le_mul (by have := hL.len; omega) hL.m1 hL.m0 (by omega)
    omega
   have hrl : rest.length ≤ 1000000 := by
    have := U7 N (n :: rest) h.nodup h.rng
    simp only [List.length_cons] at this
    omega
   refine .inr ?_
   have hw' : (w.set n.toNat false).length = N := by rw [List.length_set]; exact h.lw
   cases hr : nx n (F0 L) L x (w.set n.toNat false) rest with
   | mk b r' =>
   obtain ⟨x', w', q'⟩ := r'
   cases b with
   | false =>
     exfalso
     obtain ⟨v, m, g1, g2⟩ := lI hL.noloop (fun l hl => (hL.inr l hl).2.1) hnr.1 hr
     have := (hw.step g1).low' hp
     omega
   | true =>
     have hnd := h.nodup
     rw [List.nodup_cons] at hnd
     have ha := jn hnr hL.inr hL.noloop h.lx hw' hnd.2 (fun v h0 h1 => by
      rw [UI hnr.1 h0 (by have := h.lw; omega)]
      by_cases hv : v = n
      ·subst hv; simp [hnd.1]
      ·rw [if_neg hv, h.waits v h0 h1]
       simp [hv]) hr
     rw [hrest] at ha
     obtain ⟨B', hB'⟩ := h.step hL hNM hp hS ha
     refine ⟨(x', w', t.set n.toNat (gv t n + 1), q'), ⟨k, A', B', hB'⟩, RM (by have := h.lt; omega) (by omega), fun kn => ?_⟩
     have hF : fP = 1152921504606846976 := rfl
     rw [Vi hL hnr h.lx h.lw h.lt hrl (by constructor <;> omega) (by constructor <;> omega), if_neg (by omega), hr]
end
end Go.Proofs.ZzM
end
noncomputable section
namespace Go.Proofs.ZzM
open Go Go.Am
theorem GZ (f : Lk → Bool) : ∀ (L L' : List Lk), Fd f (L ++ L') = Fd f L + Fd f L'
 | [], L' => by simp [Fd]
 | l :: t, L' => by
   simp only [List.cons_append, Fd, GZ f t L']
   omega
theorem QC {L : List Lk} {i : Nat} {l : Lk} (h : L[i]? = some l) : F0 (L.take (i + 1)) = F0 (L.take i) + min l.2.2 0 := by
 rw [take_succ h, F0, F0, GZ]
 simp [Fd]
theorem imin0 (e : Int) : SM e 0 = min e 0 := by
 unfold SM
 split <;> omega
theorem Ni {L : List Lk} {M : Int} (h : ∀ l ∈ L, -M ≤ l.2.2) (hM : 0 ≤ M) : -((L.length : Int) * M) ≤ F0 L := by
 induction L with
 | nil => simp [F0, Fd]
 | cons l t ih =>
   have i1 := ih fun l hl => h l (by simp [hl])
   have i2 := h l (by simp)
   unfold F0 at i1 ⊢
   simp only [Fd, if_true, List.length_cons, Int.natCast_succ, Int.add_mul, Int.one_mul]
   omega
theorem acn (L : List Lk) : F0 L ≤ 0 := qR _ L
section
variable {ρ : Type} {L : List Lk} {N : Nat} {M : Int}
theorem Vr (hL : gP L N M) (k0 : Int → Option ρ) : bw (fun (v75 : Val bc) kk78 => gn L (bK L) v75.1 v75.2 (fun u76 u77 => kk78 (u76, u77)) k0) ((0 : Int), (0 : Int)) = k0 (F0 L) := by
 refine fK (fun x : Int × Int => ∃ i : Nat, i ≤ L.length ∧ x = (F0 (L.take i), (i : Int))) (fun x => L.length - x.2.toNat) ?_ ⟨0, by omega, rfl⟩
 rintro x ⟨i, hi, rfl⟩
 have hlen := hL.len
 rcases Nat.lt_or_ge i L.length with h | h
 ·have hl : L[i]? = some L[i] := List.getElem?_eq_getElem h
  refine .inr ⟨(F0 (L.take (i + 1)), (i : Int) + 1), ⟨i + 1, h, by simp⟩, by simp; omega, fun kn => ?_⟩
  try dsimp only
  unfold gn
  have hb : ∀ j, j ≤ L.length → -(400 * 4503599627370496) ≤ F0 (L.take j) := by
   intro j hj
   have h1 := Ni (L := L.take j) (fun l hl => (hL.most l (List.mem_of_mem_take hl)).1) hL.m0
   have h2 : ((L.take j).length : Int) * M ≤ 400 * 4503599627370496 := Int.mul_le_mul (by rw [List.length_take]; omega) hL.m1 hL.m0 (by omega)
   omega
  have h1 := hb i hi
  have h2 := hb (i + 1) h
  have h3 := acn (L.take i)
  rw [QC hl] at h2
  rw [bC h, bt hl, imin0, bG (by omega) (by omega), bv h (by omega), QC hl]
 ·refine .inl fun kn => ?_
  have : i = L.length := by omega
  subst this
  try dsimp only
  unfold gn
  rw [bX, List.take_length]
theorem XF {x : List Int} (hx : x.length = N) (hN : N ≤ 1000) {r : Option ρ} (k0 : (Val (.pair (.slice .bool) (.slice tI))) → Option ρ)
 (hK : ∀ (w : List Bool) (q : List Int), w.length = N → q.Nodup → (∀ v ∈ q, 0 ≤ v ∧ v < N) → (∀ v : Int, 0 ≤ v → v < N → (wv w v = true ↔ v ∈ q)) → (∀ v : Int, 0 ≤ v → v < N → (v ∈ q ↔ gv x v ≠ fP)) → k0 (w, q) = r) :
 bw (fun (v70 : (Val (.pair tI (.pair (.slice .bool) (.slice tI))))) kk74 => eh (N : Int) x v70.1 v70.2.1 v70.2.2 (fun u71 u72 u73 => kk74 (u71, u72, u73)) k0) ((0 : Int), (List.replicate N false), ([] : List Int)) = r := by
 refine fK (fun s : Int × List Bool × List Int => ∃ i : Nat, i ≤ N ∧ s.1 = i ∧ s.2.1.length = N ∧ s.2.2.Nodup ∧ s.2.2.length ≤ i ∧ (∀ v ∈ s.2.2, 0 ≤ v ∧ v < i) ∧ (∀ v : Int, 0 ≤ v → v < N → (wv s.2.1 v = true ↔ v ∈ s.2.2)) ∧ (∀ v : Int, 0 ≤ v → v < i → (v ∈ s.2.2 ↔ gv x v ≠ fP))) (fun s => N - s.1.toNat) ?_
  ⟨0, by omega, rfl, by simp, by simp, by simp, by simp, fun v h0 h1 => ?_, fun v h0 h1 => by omega⟩
 ·rintro ⟨s, w, q⟩ ⟨i, hi, h1, h2, h3, h4, h5, h6, h7⟩
  simp only at h1 h2 h3 h4 h5 h6 h7
  subst h1
  rcases Nat.lt_or_ge i N with h | h
  ·refine .inr ?_
   have hix : i < x.length := by omega
   have hiw : i < w.length := by omega
   have hnq : ((i : Int)) ∉ q := fun hc => by have := (h5 _ hc).2; omega
   by_cases hf : gv x i = fP
   ·refine ⟨((i : Int) + 1, w, q), ⟨i + 1, h, by simp, h2, h3, by simp only; omega, fun v hv => ⟨(h5 v hv).1, by have := (h5 v hv).2; push_cast; omega⟩, h6, fun v h0 h1 => ?_⟩, by simp; omega, fun kn => ?_⟩
    ·by_cases hv : v = i
     ·subst hv; simp [hf, hnq]
     ·exact h7 v h0 (by push_cast at h1; omega)
    ·try dsimp only
     unfold eh
     have e : ilt (i : Int) (N : Int) = true := by simp [ilt, h]
     rw [bI e, gY hix, i6 (by simpa using hix)]
     have e2 : ine (gv x i) 1152921504606846976 = false := by simp [ine, hf]
     rw [bz e2, bv h (by omega)]
   ·refine ⟨((i : Int) + 1, w.set i true, q ++ [(i : Int)]), ⟨i + 1, h, by simp, by simpa using h2, ?_, by simp; omega, fun v hv => ?_, fun v h0 h1 => ?_, fun v h0 h1 => ?_⟩, by simp; omega, fun kn => ?_⟩
    ·rw [List.nodup_append]
     exact ⟨h3, by simp, fun a ha b hb => by simp at hb; subst hb; exact fun e => hnq (e ▸ ha)⟩
    ·rcases List.mem_append.1 hv with hv | hv
     ·exact ⟨(h5 v hv).1, by have := (h5 v hv).2; push_cast; omega⟩
     ·simp at hv; subst hv; push_cast; omega
    ·have := UI (w := w) (u := (i : Int)) (by omega) h0 (by simpa using hiw) true
     rw [Int.toNat_natCast] at this
     show wv (w.set i true) v = true ↔ v ∈ q ++ [(i : Int)]
     rw [this]
     by_cases hv : v = i
     ·simp [hv]
     ·simp only [hv, if_false, List.mem_append, List.mem_singleton, or_false]
      exact h6 v h0 h1
    ·show v ∈ q ++ [(i : Int)] ↔ _
     by_cases hv : v = i
     ·subst hv; simp [hf]
     ·simp only [List.mem_append, List.mem_singleton, hv, or_false]
      exact h7 v h0 (by push_cast at h1; omega)
    ·try dsimp only
     unfold eh
     have e : ilt (i : Int) (N : Int) = true := by simp [ilt, h]
     rw [bI e, gY hix, i6 (by simpa using hix)]
     have e2 : ine (gv x i) 1152921504606846976 = true := by simp [ine, hf]
     rw [bI e2, bD (by simp only [List.length_singleton]; omega), Am.iff_true, gY hiw, Nh (by simpa using hiw), bv h (by omega), Int.toNat_natCast]
  ·refine .inl fun kn => ?_
   have : i = N := by omega
   subst this
   try dsimp only
   unfold eh
   have e : ilt (i : Int) (i : Int) = false := by simp [ilt]
   rw [bz e]
   exact hK w q h2 h3 h5 h6 h7
 ·have : wv (List.replicate N false) v = false := by
   unfold wv
   rw [List.getElem?_replicate]
   split <;> rfl
  simp [this]
theorem Lt (hL : gP L N M) (hN : 1 ≤ N) {S : Int → Bool} (hS : ∀ v, S v = true → 0 ≤ v ∧ v < N) {w : List Bool} {q : List Int} (hw : w.length = N) (hq : q.Nodup) (hr : ∀ v ∈ q, 0 ≤ v ∧ v < N) (hwq : ∀ v : Int, 0 ≤ v → v < N → (wv w v = true ↔ v ∈ q)) (hqs : ∀ v : Int, 0 ≤ v → v < N → (v ∈ q ↔ gv (qM S N) v ≠ fP)) :
 Xo L (fun v => S v = true) N M 0 q [] (qM S N) w (List.replicate N 0) q := by
 have ht : ∀ v : Int, 0 ≤ v → v < N → gv (List.replicate N (0 : Int)) v = 0 := by
  intro v h0 h1
  unfold gv
  rw [List.getElem?_replicate]
  split <;> rfl
 have hg : ∀ v : Int, 0 ≤ v → v < N → (v ∈ q ↔ S v = true) := by
  intro v h0 h1
  rw [hqs v h0 h1, gZ S h0 h1]
  cases S v <;> simp [fP]
 have hM := hL.m0
 refine ⟨by simp, ce S N, hw, by simp, hq, hr, hwq, fun v h0 h1 => ?_, fun v hv => ?_, fun vs v d hw hl => ?_, fun vs u d hw hl hu v m hlk => ?_, fun u h0 h1 hu hf v m hlk => ?_, fun v h0 h1 hf => ?_, fun v h0 h1 => ?_, fun v hv => ?_, fun v hv => ?_, by omega, fun _ => rfl⟩
 ·rw [ht v h0 h1]; omega
 ·have := hr v hv
  rw [ht v this.1 this.2]; omega
 ·cases hw with
  | nil hs =>
    have := hS v hs
    rw [gZ S this.1 this.2, if_pos hs]; omega
  | step => simp at hl
 ·cases hw with
  | nil hs =>
    have := hS u hs
    exact (hu ((hg u this.1 this.2).2 hs)).elim
  | step => simp at hl
 ·rw [gZ S h0 h1] at hf
  have := mt (hg u h0 h1).2 hu
  rw [if_neg this] at hf
  exact (hf rfl).elim
 ·rw [gZ S h0 h1] at hf ⊢
  split at hf
  ·rename_i hs
   rw [if_pos hs]; exact ⟨[], .nil hs⟩
  ·exact (hf rfl).elim
 ·rw [gZ S h0 h1]
  split
  ·exact .inr (by simp [hM])
  ·exact .inl rfl
 ·have h1 := hr v hv
  rw [gZ S h1.1 h1.2, if_pos ((hg v h1.1 h1.2).1 hv)]; simp
 ·have h1 := hr v hv
  rw [gZ S h1.1 h1.2, if_pos ((hg v h1.1 h1.2).1 hv)]; simp [fP]
structure Bad (L : List Lk) (N : Nat) (x : List Int) (w : List Bool) (t q : List Int) : Prop where
 lx : x.length = N
 lw : w.length = N
 lt : t.length = N
 nodup : q.Nodup
 rng : ∀ v ∈ q, 0 ≤ v ∧ v < N
 waits : ∀ v : Int, 0 ≤ v → v < N → (wv w v = true ↔ v ∈ q)
 t0 : ∀ v : Int, 0 ≤ v → v < N → 0 ≤ gv t v ∧ gv t v ≤ (N : Int) + 1
 bd : ∀ v : Int, 0 ≤ v → v < N → -2305843009213693952 ≤ gv x v ∧ gv x v ≤ 0
 rel : ∀ u : Int, 0 ≤ u → u < N → u ∉ q → ∀ v m, (u, v, m) ∈ L → gv x v ≤ gv x u + m
theorem aaf {r : Option ρ} {x : List Int} {w : List Bool} {t q : List Int} (hL : gP L N M) (hp : ¬ ∃ p, Pot L p) (k0 : (Val (.pair .bool (.pair (.slice tI) (.pair (.slice .bool) (.pair (.slice tI) (.slice tI)))))) → Option ρ)
 (hK : ∀ x w t q, k0 (false, x, w, t, q) = r) (h : Bad L N x w t q) :
 bw (fun (v64 : (Val (.pair (.slice tI) (.pair (.slice .bool) (.pair (.slice tI) (.slice tI)))))) kk69 => dm [] (F0 L) (N : Int) L v64.1 v64.2.1 v64.2.2.1 v64.2.2.2 (fun u65 u66 u67 u68 => kk69 (u65, u66, u67, u68)) k0) (x, w, t, q) = r := by
 refine fK (fun s : List Int × List Bool × List Int × List Int => Bad L N s.1 s.2.1 s.2.2.1 s.2.2.2) (fun s => O0 N s.2.2.1) ?_ h
 rintro ⟨x, w, t, q⟩ h
 dsimp only at h ⊢
 have hN := hL.nodes
 cases q with
 | nil =>
   exfalso
   exact hp ⟨gv x, fun u v m hl => h.rel u (hL.inr _ hl).1.1 (hL.inr _ hl).1.2 (by simp) v m hl⟩
 | cons n rest =>
   have hnr := h.rng n (by simp)
   have hb := h.bd n hnr.1 hnr.2
   have ht := h.t0 n hnr.1 hnr.2
   have hrl : rest.length ≤ 1000000 := by
    have := U7 N (n :: rest) h.nodup h.rng
    simp only [List.length_cons] at this
    omega
   have hout := fun (kn : List Int → List Bool → List Int → List Int → Option ρ) => Vi (ρ := ρ) hL (least := F0 L) hnr h.lx h.lw h.lt hrl ⟨hb.1, by omega⟩ ⟨ht.1, by omega⟩ kn k0
   by_cases hlt : (N : Int) + 1 < gv t n + 1
   ·exact .inl fun kn => by rw [hout, if_pos hlt]; exact hK _ _ _ _
   ·have hw' : (w.set n.toNat false).length = N := by rw [List.length_set]; exact h.lw
    cases hr : nx n (F0 L) L x (w.set n.toNat false) rest with
    | mk b r' =>
    obtain ⟨x', w', q'⟩ := r'
    cases b with
    | false => exact .inl fun kn => by rw [hout, if_neg hlt, hr]; exact hK _ _ _ _
    | true =>
      have hnd := h.nodup
      rw [List.nodup_cons] at hnd
      have htl : n.toNat < t.length := by have := h.lt; omega
      have ha := jn hnr hL.inr hL.noloop h.lx hw' hnd.2 (fun v h0 h1 => by
       rw [UI hnr.1 h0 (by have := h.lw; omega)]
       by_cases hv : v = n
       ·subst hv; simp [hnd.1]
       ·rw [if_neg hv, h.waits v h0 h1]
        simp [hv]) hr
      obtain ⟨l, hl, hlv⟩ := ha.new
      refine .inr ⟨(x', w', t.set n.toNat (gv t n + 1), q'), ⟨ha.lx, ha.lw, by rw [List.length_set]; exact h.lt, ha.nodup, fun v hv => ?_, ha.waits, fun v h0 h1 => ?_, fun v h0 h1 => ?_, fun u h0 h1 hu v m hlk => ?_⟩, RM htl (by omega), fun kn => by rw [hout, if_neg hlt, hr]⟩
      ·dsimp only at hv
       rw [hl] at hv
       rcases List.mem_append.1 hv with hv | hv
       ·exact h.rng v (by simp [hv])
       ·exact (hlv v hv).1
      ·try dsimp only
       rw [vg hnr.1 h0 htl]
       have := h.t0 v h0 h1
       split <;> omega
      ·try dsimp only
       have h2 := h.bd v h0 h1
       rcases ha.chg v h0 h1 with g | ⟨_, g2, m, g3, g4, g5⟩
       ·rw [g]; exact h2
       ·have h3 := Ni (L := L) (fun l hl => (hL.most l hl).1) hL.m0
        have h4 : (L.length : Int) * M ≤ 400 * 4503599627370496 := Int.mul_le_mul (by have := hL.len; omega) hL.m1 hL.m0 (by omega)
        omega
      ·dsimp only at hu ⊢
       have hvr := (hL.inr _ hlk).2
       have heq : gv x' u = gv x u := by
        rcases ha.chg u h0 h1 with g | ⟨g, _⟩
        ·exact g
        ·exact (hu g).elim
       by_cases hun : u = n
       ·subst hun
        have h1 := ha.link v m hlk
        omega
       ·have hur : u ∉ n :: rest := by
         intro hc
         rcases List.mem_cons.1 hc with e | hc
         ·exact hun e
         ·exact hu (by rw [hl]; exact List.mem_append_left _ hc)
        have h2 := h.rel u h0 h1 hur v m hlk
        have := ha.le v hvr.1 hvr.2
        omega
end
def Xn (N : Nat) (v : Int) : Bool := decide (0 ≤ v) && decide (v < (N : Int))
def X4 (s : Int) (v : Int) : Bool := v == s
theorem PS (N : Nat) : qM (Xn N) N = List.replicate N 0 := by
 refine Vt (by simp [ce]) fun v h0 h1 => ?_
 rw [ce] at h1
 rw [gZ _ h0 h1]
 have : Xn N v = true := by simp [Xn, h0, h1]
 rw [if_pos this]
 unfold gv
 rw [List.getElem?_replicate]
 split <;> rfl
def dP (L : List Lk) (N : Nat) : List Int := jC L N (qM (Xn N) N)
def dC (L : List Lk) (N : Nat) : Bool := decide (E9 L (dP L N) = dP L N)
def mc (L : List Lk) (N : Nat) (s : Int) : List Int := jC L N (qM (X4 s) N)
section
variable {L : List Lk} {N : Nat} {M : Int}
theorem aaz (hL : gP L N M) (hN : N ≤ 200) : N * M < fP := by
 have : (N : Int) * M ≤ 200 * 4503599627370496 := Int.mul_le_mul (by omega) hL.m1 hL.m0 (by omega)
 unfold fP
 omega
theorem vF {p : Int → Int} (hL : gP L N M) (hN : N ≤ 200) (hp : Pot L p) : Xp L (fun v => Xn N v = true) N (gv (dP L N)) :=
 GM hp hL.inr (fun v h => by simpa [Xn] using h) (fun l hl => (hL.most l hl).2) hL.m0 (aaz hL hN) N (by omega)
theorem iw {p : Int → Int} (hL : gP L N M) (hN : N ≤ 200) (hp : Pot L p) {s : Int} (hs : 0 ≤ s ∧ s < N) : Xp L (fun v => X4 s v = true) N (gv (mc L N s)) :=
 GM hp hL.inr (fun v h => by simp [X4] at h; subst h; exact hs) (fun l hl => (hL.most l hl).2) hL.m0 (aaz hL hN) N (by omega)
theorem Qg : ∀ {L : List Lk} {x : List Int}, (∀ u v m, (u, v, m) ∈ L → gv x u < fP → gv x v ≤ gv x u + m) → E9 L x = x
 | [], x, _ => rfl
 | l :: t, x, h => by
   have h1 : j7 x l = x := by
    unfold j7
    split
    ·rename_i hc
     have := h l.1 l.2.1 l.2.2 (by simp) hc.1
     omega
    ·rfl
   show E9 t (j7 x l) = x
   rw [h1]
   exact Qg fun u v m hm => h u v m (by simp [hm])
theorem d9 (hL : gP L N M) (hN : N ≤ 200) : dC L N = true ↔ ∃ p, Pot L p := by
 unfold dC
 rw [decide_eq_true_eq]
 have hle : ∀ v : Int, 0 ≤ v → v < N → gv (dP L N) v ≤ 0 := by
  intro v h0 h1
  have := zg hL.inr N (ce (Xn N) N) v h0
  rw [gZ _ h0 h1, if_pos (by simp [Xn, h0, h1])] at this
  exact this
 constructor
 ·intro h
  refine ⟨gv (dP L N), fun u v m hl => ?_⟩
  have hr := (hL.inr _ hl).1
  have := Ce hL.inr (x := dP L N) (by unfold dP; rw [dp, ce]) u v m hl (by have := hle u hr.1 hr.2; unfold fP; omega)
  rwa [h] at this
 ·rintro ⟨p, hp⟩
  have hd := vF hL hN hp
  exact Qg fun u v m hl hf => hd.pot hL.inr hl (by omega)
end
end Go.Proofs.ZzM
end
noncomputable section
namespace Go.Proofs.ZzM
open Go Go.Am
section
variable {ρ : Type} {L : List Lk} {N : Nat} {M : Int}
theorem Bu (hN : N ≤ 1000) (x : Option ρ) : ca ((ile (0 : Int) (N : Int)) && (bZ (Int.toNat (N : Int)))) x = x := by
 rw [Int.toNat_natCast, bD (by omega)]
 have : ((ile (0 : Int) (N : Int)) && true) = true := by simp [ile]
 rw [this, Am.iff_true]
theorem Tf (hL : gP L N M) (h1 : 1 ≤ N) (hN : N ≤ 200) (k0 : (Val (.pair .bool (.pair (.slice tI) (.pair (.slice .bool) (.pair (.slice tI) (.slice tI)))))) → Option ρ) {rT rF : Option ρ}
 (hT : dC L N = true → ∀ w t q, k0 (true, dP L N, w, t, q) = rT) (hF : ∀ x w t q, k0 (false, x, w, t, q) = rF) :
 (bw (fun (v70 : (Val (.pair tI (.pair (.slice .bool) (.slice tI))))) kk74 => eh (N : Int) (List.replicate N (0 : Int)) v70.1 v70.2.1 v70.2.2 (fun u71 u72 u73 => kk74 (u71, u72, u73)) (fun z9 => bw (fun (v64 : (Val (.pair (.slice tI) (.pair (.slice .bool) (.pair (.slice tI) (.slice tI)))))) kk69 => dm [] (F0 L) (N : Int) L v64.1 v64.2.1 v64.2.2.1 v64.2.2.2 (fun u65 u66 u67 u68 => kk69 (u65, u66, u67, u68)) k0) ((List.replicate N (0 : Int)), z9.1, (List.replicate N (0 : Int)), z9.2))) ((0 : Int), (List.replicate N false), ([] : List Int))) = if dC L N then rT else rF := by
 refine XF (by simp) (by omega) _ fun w q hw hq hr hwq hqs => ?_
 try dsimp only
 have hS : ∀ v, Xn N v = true → 0 ≤ v ∧ v < N := fun v h => by simpa [Xn] using h
 by_cases ho : dC L N = true
 ·rw [if_pos ho]
  obtain ⟨p, hp⟩ := (d9 hL hN).1 ho
  have hs := Lt hL h1 hS hw hq hr hwq (fun v a b => by rw [PS]; exact hqs v a b)
  rw [PS] at hs
  refine PT hL (aaz hL hN) hp hS k0 (fun x w t q hx hd => ?_) hs
  have : x = dP L N := by
   refine Vt (by rw [hx]; unfold dP; rw [dp, ce]) fun v a b => ?_
   exact hd.uniq (vF hL hN hp) a (by omega)
  rw [this]; exact hT ho w t q
 ·rw [if_neg ho]
  refine aaf hL (fun hp => ho ((d9 hL hN).2 hp)) k0 hF ?_
  have hg : ∀ v, gv (List.replicate N (0 : Int)) v = 0 := by
   intro v
   unfold gv
   rw [List.getElem?_replicate]
   split <;> rfl
  refine ⟨by simp, hw, by simp, hq, hr, hwq, fun v a b => ?_, fun v a b => ?_, fun u a b hu v m hl => ?_⟩
  ·rw [hg]; omega
  ·rw [hg]; omega
  ·exact (hu ((hqs u a b).2 (by rw [hg]; unfold fP; omega))).elim
end
theorem shift_ok {ρ : Type} {x : List Int} (f : Int) (hx : x.length ≤ 1000) (hf : -2305843009213693952 ≤ f ∧ f ≤ 2305843009213693952) (hb : ∀ a ∈ x, -2305843009213693952 ≤ a ∧ a ≤ 2305843009213693952) (k0 : List Int → Option ρ) :
 bw (fun (v60 : (Val (.pair tI (.slice tI)))) kk63 => ik f (bK x) v60.1 v60.2 (fun u61 u62 => kk63 (u61, u62)) k0) ((0 : Int), x) = k0 (x.map fun a => a - f) := by
 refine cI x (fun i => (x.take i).map (fun a => a - f) ++ x.drop i) _ (by simp) (fun i a hi ha kn => ?_) (fun kn => ?_)
 ·try dsimp only
  unfold ik
  have hlen : ((x.take i).map (fun a => a - f) ++ x.drop i).length = x.length := by simp; omega
  have hget : ((x.take i).map (fun a => a - f) ++ x.drop i)[i]? = some a := by
   rw [List.getElem?_append_right (by simp; omega)]
   simp only [List.length_map, List.length_take, List.getElem?_drop]
   rw [← ha]; congr 1; omega
  have hi' : i < ((x.take i).map (fun a => a - f) ++ x.drop i).length := by omega
  have ha' := hb a (List.mem_of_getElem? ha)
  rw [bC hi, gY hi', eT hget, bG (by omega) (by omega), gY hi', eT hget, bv hi (by omega), Int.toNat_natCast, take_succ ha]
  congr 2
  rw [List.drop_eq_getElem_cons hi, List.map_append, List.append_assoc, List.set_append_right _ _ (by simp; omega)]
  have : i - (List.map (fun a => a - f) (List.take i x)).length = 0 := by simp; omega
  rw [this]
  have h1 : x[i] = a := by rw [List.getElem?_eq_getElem hi] at ha; simpa using ha
  simp [h1]
 ·try dsimp only
  unfold ik
  rw [bX]
  simp
section
variable {L : List Lk} {N : Nat} {M : Int}
theorem UW (hL : gP L N M) (hN : N ≤ 200) (ho : dC L N = true) : ∀ a ∈ dP L N, -2305843009213693952 ≤ a ∧ a ≤ 0 := by
 obtain ⟨p, hp⟩ := (d9 hL hN).1 ho
 have hd := vF hL hN hp
 intro a ha
 obtain ⟨i, hi, rfl⟩ := List.mem_iff_getElem.1 ha
 have hlen : (dP L N).length = N := by unfold dP; rw [dp, ce]
 have h0 : gv (dP L N) i = (dP L N)[i] := by unfold gv; simp [hi]
 have hle := zg hL.inr N (ce (Xn N) N) (i : Int) (by omega)
 rw [gZ _ (by omega) (by omega), if_pos (by simp [Xn]; omega)] at hle
 have hle' : gv (dP L N) i ≤ 0 := hle
 obtain ⟨vs, hw⟩ := hd.att i (by omega) (by omega) (by unfold fP; omega)
 have h1 := hw.low' hp
 have h3 := Ni (L := L) (fun l hl => (hL.most l hl).1) hL.m0
 have h4 : (L.length : Int) * M ≤ 400 * 4503599627370496 := Int.mul_le_mul (by have := hL.len; omega) hL.m1 hL.m0 (by omega)
 omega
def PE (L : List Lk) (N : Nat) : List Int := (dP L N).map fun a => a - gv (dP L N) 0
theorem qN (hL : gP L N M) (h1 : 1 ≤ N) (hN : N ≤ 200) : iu ((N : Int), L) [] = some (if dC L N then (PE L N, true) else ([], false)) := by
 unfold iu uD
 try dsimp only
 rw [Bu (by omega), Bu (by omega), Bu (by omega), Int.toNat_natCast]
 refine Eq.trans (Vr hL _) ?_
 refine Eq.trans (Tf hL h1 hN _ (rT := some (PE L N, true)) (rF := some ([], false)) (fun ho w t q => ?_) (fun x w t q => ?_)) ?_
 ·try dsimp only
  have hlen : (dP L N).length = N := by unfold dP; rw [dp, ce]
  have hb := UW hL hN ho
  have h0 : ilt (0 : Int) (dz (dP L N)) = true := decide_eq_true (show (0 : Int) < ((dP L N).length : Int) by omega)
  have hg : (dP L N)[0]? = some (gv (dP L N) 0) := Ml (v := 0) (show 0 < _ by omega)
  have hm := hb _ (List.mem_of_getElem? hg)
  rw [show (!true) = false from rfl, b7, dh h0, qQ hg]
  exact shift_ok _ (by omega) ⟨hm.1, by omega⟩ (fun a ha => ⟨(hb a ha).1, by have := (hb a ha).2; omega⟩) _
 ·rfl
 ·cases dC L N <;> rfl
structure fN (L : List Lk) (N : Nat) : Prop where
 n1 : 1 ≤ N
 n60 : N ≤ 60
 len : L.length ≤ 300
 inr : InR L N
 noloop : ∀ l ∈ L, l.1 ≠ l.2.1
 most : ∀ l ∈ L, -4503599627370496 ≤ l.2.2 ∧ l.2.2 ≤ 4503599627370496
theorem fN.links (h : fN L N) : gP L N 4503599627370496 :=
 ⟨h.inr, h.noloop, h.most, by have := h.len; omega, by have := h.n60; omega, by omega, by omega⟩
theorem fN.sub {L' : List Lk} (h : fN L N) (hs : ∀ l ∈ L', l ∈ L) (hl : L'.length ≤ L.length) : fN L' N :=
 ⟨h.n1, h.n60, by have := h.len; omega, fun l hm => h.inr l (hs l hm), fun l hm => h.noloop l (hs l hm), fun l hm => h.most l (hs l hm)⟩
theorem GY (n : Int) (L : List Lk) (v : Int) : oQ (n, L) v = some (decide (0 ≤ v) && decide (v < n)) := by
 unfold oQ NY ige
 by_cases h : 0 ≤ v
 ·have : decide (v ≥ 0) = true := by simpa using h
  rw [bI this]; simp [h]
 ·have : decide (v ≥ 0) = false := by simpa using h
  rw [bz this]; simp [h]
theorem iI (h : fN L N) : jY ((N : Int), L) = some (0, -1) := by
 have h1 := h.n1
 have h2 := h.n60
 have h3 := h.len
 unfold jY HT
 try dsimp only
 rw [bz (by simp [ilt]; omega), bz (by simp [igt]; omega), bz (by rw [bU]; simp [igt]; omega)]
 refine Eq.trans (iq L (fun _ => false) (fun i => some (1, i)) (some (0, -1)) (fun i l hi hl kn => ?_) (fun kn => ?_)) ?_
 ·try dsimp only
  unfold oz
  have hm := List.mem_of_getElem? hl
  have a := h.inr l hm
  have b := h.noloop l hm
  have c := h.most l hm
  have e1 : (decide (0 ≤ l.1) && decide (l.1 < (N : Int))) = true := by simp [a.1.1, a.1.2]
  have e2 : (decide (0 ≤ l.2.1) && decide (l.2.1 < (N : Int))) = true := by simp [a.2.1, a.2.2]
  rw [bC hi, bt hl, GY, aZ, e1, GY, aZ, e2]
  simp only [Bool.not_true, b7, Bool.false_eq_true, if_false]
  rw [bz (by simp [ieq, b]), bz (by simp [ilt]; omega), bz (by simp [igt]; omega), bv hi (by omega)]
 ·try dsimp only
  unfold oz
  rw [bX]
 ·rw [List.findIdx?_eq_none_iff.2 (by simp)]
theorem l7 {ρ : Type} {x : List Int} {v : Int} (h0 : 0 ≤ v) (h : v.toNat < x.length) (f : Int → Option ρ) : dn x v f = f (gv x v) := by
 obtain ⟨i, rfl⟩ := Int.eq_ofNat_of_zero_le h0
 exact bt (Ml h) f
def O9 (L : List Lk) (x : List Int) : Bool := L.all fun l => decide (gv x l.2.1 ≤ gv x l.1 + l.2.2)
theorem SH (h : fN L N) {x : List Int} (hx : x.length = N) (hb : ∀ a ∈ x, -fP ≤ a ∧ a ≤ fP) : Gg ((N : Int), L) x = some (O9 L x && gv x 0 == 0, 0) := by
 have h1 := h.n1
 have h2 := h.n60
 have h3 := h.len
 unfold Gg N5
 rw [iI h, aZ]
 try dsimp only
 rw [bz (by rfl), bz (by rw [bU, hx]; simp [ine])]
 have second : bw (fun (v20 : Int) kk22 => kD x L (bK L) v20 (fun u21 => kk22 u21) (fun z17 => some (z17.1, z17.2)) (fun _ => dn x (0 : Int) fun e19 => some (ieq e19 (0 : Int), (0 : Int)))) (0 : Int) = some (O9 L x && gv x 0 == 0, 0) := by
  refine Eq.trans (gK L (fun l => !decide (gv x l.2.1 ≤ gv x l.1 + l.2.2)) (fun _ => some (false, 0)) (some (false, 0)) (some (gv x 0 == 0, 0)) (fun _ => rfl) (fun i l hi hl kn => ?_) (fun kn => ?_)) ?_
  ·try dsimp only
   unfold kD
   have hm := List.mem_of_getElem? hl
   have a := h.inr l hm
   have c := h.most l hm
   have g1 : l.1.toNat < x.length := by omega
   have hg := hb _ (List.mem_of_getElem? (Ml g1))
   unfold fP at hg
   rw [bC hi, bt hl, l7 a.2.1 (by omega), l7 a.1.1 g1, bG (by omega) (by omega), bv hi (by omega), dA]
   by_cases hle : gv x l.2.1 ≤ gv x l.1 + l.2.2
   ·rw [if_neg (by simp [igt]; omega), if_neg (by simp [hle])]
   ·rw [if_pos (by simp [igt]; omega), if_pos (by simp [hle])]
  ·try dsimp only
   unfold kD
   rw [bX, l7 (by omega) (by rw [Int.toNat_zero]; omega)]
  ·unfold O9
   rw [show (L.any fun l => !decide (gv x l.2.1 ≤ gv x l.1 + l.2.2)) = !(L.all fun l => decide (gv x l.2.1 ≤ gv x l.1 + l.2.2)) from by rw [List.all_eq_not_any_not]; simp]
   cases (L.all fun l => decide (gv x l.2.1 ≤ gv x l.1 + l.2.2)) <;> rfl
 refine Eq.trans (gK x (fun _ => false) (fun z4 => ifb (ige z4 (0 : Int)) (some (false, (1 : Int))) (some (O9 L x && gv x 0 == 0, 0))) (some (false, 1)) (some (O9 L x && gv x 0 == 0, 0)) (fun j => ?_) (fun i a hi ha kn => ?_) (fun kn => ?_)) ?_
 ·rw [bI (by simp [ige])]
 ·try dsimp only
  unfold rB
  have hg := hb a (List.mem_of_getElem? ha)
  unfold fP at hg
  rw [bC hi, bt ha, bz (by simp [ilt]; omega), bz (by simp [igt]; omega), bv hi (by omega)]
  simp
 ·try dsimp only
  unfold rB
  rw [bX]
  exact second
 ·simp
end
end Go.Proofs.ZzM
end
noncomputable section
namespace Go.Proofs.ZzM
open Go Go.Am
section
variable {b : bH}
theorem yR (b : bH) (g : cg) : (bO b g).Pairwise (· < ·) := S7 _
theorem Sf (h : cW b) {g : cg} (hg : g ∈ b.2.1) : ∃ t, bO b g = g.2.1 :: t := by
 have h1 := yR b g
 have h2 := la (b := b) g
 have h3 : ∀ d ∈ bO b g, g.2.1 ≤ d := fun d hd => (h.day hg hd).1
 cases hd : bO b g with
 | nil => rw [hd] at h2; cases h2
 | cons a t =>
   rw [hd] at h1 h2 h3
   rw [List.pairwise_cons] at h1
   rcases List.mem_cons.1 h2 with e | e
   ·exact ⟨t, by rw [e]⟩
   ·have := h1.1 _ e
    have := h3 a (by simp)
    omega
def off (b : bH) (i : Nat) : Nat := ((b.2.1.take i).flatMap fun g => (bO b g).map fun d => ((g.1, d) : Int × Int)).length
theorem xR {i : Nat} {g : cg} (hg : b.2.1[i]? = some g) : bm b = ((b.2.1.take i).flatMap fun g => (bO b g).map fun d => ((g.1, d) : Int × Int)) ++ (((bO b g).map fun d => ((g.1, d) : Int × Int)) ++ ((b.2.1.drop (i + 1)).flatMap fun g => (bO b g).map fun d => ((g.1, d) : Int × Int))) := by
 obtain ⟨hi, rfl⟩ := List.getElem?_eq_some_iff.1 hg
 have h1 : b.2.1 = b.2.1.take i ++ (b.2.1[i] :: b.2.1.drop (i + 1)) := by
  rw [← List.drop_eq_getElem_cons hi, List.take_append_drop]
 unfold bm
 conv => lhs; rw [h1]
 rw [List.flatMap_append, List.flatMap_cons]
theorem Ng (h : cW b) {i : Nat} {g : cg} (hg : b.2.1[i]? = some g) {k : Nat} {d : Int} (hk : (bO b g)[k]? = some d) : iN (bm b) g.1 d = some (off b i + k) := by
 obtain ⟨hi, hgi⟩ := List.getElem?_eq_some_iff.1 hg
 obtain ⟨hkl, hkd⟩ := List.getElem?_eq_some_iff.1 hk
 unfold iN
 rw [xR hg, List.findIdx?_append, List.findIdx?_append]
 have h1 : List.findIdx? (fun n : Int × Int => decide (g.1 = n.1) && decide (d = n.2)) ((b.2.1.take i).flatMap fun g => (bO b g).map fun d => ((g.1, d) : Int × Int)) = none := by
  rw [List.findIdx?_eq_none_iff]
  intro x hx
  obtain ⟨g', hg', hx⟩ := List.mem_flatMap.1 hx
  obtain ⟨d', _, rfl⟩ := List.mem_map.1 hx
  obtain ⟨j, hj, rfl⟩ := List.mem_iff_getElem.1 hg'
  rw [List.length_take] at hj
  rw [List.getElem_take]
  have := (List.pairwise_iff_getElem.1 h.ids) j i (by omega) hi (by omega)
  rw [hgi] at this
  simp only [Bool.and_eq_false_iff, decide_eq_false_iff_not]
  exact .inl (by omega)
 have h2 : List.findIdx? (fun n : Int × Int => decide (g.1 = n.1) && decide (d = n.2)) ((bO b g).map fun d => ((g.1, d) : Int × Int)) = some k := by
  rw [List.findIdx?_eq_some_iff_getElem]
  refine ⟨by simpa using hkl, by simp [hkd], fun j hj => ?_⟩
  have := (List.pairwise_iff_getElem.1 (yR b g)) j k (by omega) hkl hj
  rw [hkd] at this
  simp only [List.getElem_map, Bool.and_eq_true, decide_eq_true_eq, not_and]
  intro _
  omega
 rw [h1, h2]
 simp only [Option.map_some, Option.some_or, Option.none_or]
 unfold off
 congr 1
 omega
theorem aax {i : Nat} {g : cg} (hg : b.2.1[i]? = some g) {k : Nat} {d : Int} (hk : (bO b g)[k]? = some d) : (bm b)[off b i + k]? = some (g.1, d) := by
 obtain ⟨hkl, hkd⟩ := List.getElem?_eq_some_iff.1 hk
 rw [xR hg, List.getElem?_append_right (by unfold off; omega), List.getElem?_append_left (by unfold off; simp; omega)]
 unfold off
 simp [hk]
theorem abq (h : cW b) {i : Nat} {g : cg} (hg : b.2.1[i]? = some g) : atP (bm b) [g.1] g.2.1 = (off b i : Int) + 1 := by
 obtain ⟨t, ht⟩ := Sf h (List.mem_of_getElem? hg)
 have := Ng h hg (k := 0) (d := g.2.1) (by rw [ht]; rfl)
 unfold atP
 simp only [this]
 rfl
theorem ack (h : cW b) {i : Nat} {g : cg} (hg : b.2.1[i]? = some g) : off b i + (bO b g).length ≤ (bm b).length := by
 rw [xR hg]
 unfold off
 simp only [List.length_append, List.length_map]
 omega
theorem aav {i : Nat} {g : cg} (hg : b.2.1[i]? = some g) : off b (i + 1) = off b i + (bO b g).length := by
 unfold off
 rw [take_succ hg, List.flatMap_append]
 simp
theorem QB (h : cW b) {c : Cmp} (hc : c ∈ b.2.2.2.2.1) {x : Int} (hx : (x ∈ c.2.2.1 ∧ x ∉ c.2.2.2.1) ∨ (x ∈ c.2.2.2.1 ∧ x ∉ c.2.2.1)) : ∃ j, iN (bm b) x c.2.1 = some j := by
 have hm : x ∈ c.2.2.1 ++ c.2.2.2.1 := by rw [List.mem_append]; exact hx.imp (·.1) (·.1)
 obtain ⟨⟨g, hg, _⟩, _⟩ := h.pile hc hm
 obtain ⟨hgm, hgx⟩ := oP hg
 obtain ⟨i, hi, hgi⟩ := List.mem_iff_getElem.1 hgm
 have hd : c.2.1 ∈ bO b g := lP.2 (.inr (.inl ⟨c, hc, by
  rw [hgx]
  rcases hx with ⟨h1, h2⟩ | ⟨h1, h2⟩
  ·have e1 : c.2.2.1.contains x = true := by simpa using h1
   have e2 : c.2.2.2.1.contains x = false := by simpa using h2
   rw [e1, e2]; simp
  ·have e1 : c.2.2.2.1.contains x = true := by simpa using h1
   have e2 : c.2.2.1.contains x = false := by simpa using h2
   rw [e1, e2]; simp, rfl⟩))
 obtain ⟨k, hk, hkd⟩ := List.mem_iff_getElem.1 hd
 have := Ng h (g := g) (i := i) (by rw [List.getElem?_eq_getElem hi, hgi]) (k := k) (d := c.2.1) (by rw [List.getElem?_eq_getElem hk, hkd])
 rw [hgx] at this
 exact ⟨_, this⟩
inductive Xi (b : bH) (p : List Int) (d : Int) (n : Int) : Prop
 | none : p = [] → n = 0 → Xi b p d n
 | one (x : Int) (j : Nat) : p = [x] → iN (bm b) x d = some j → n = (j : Int) + 1 → Xi b p d n
theorem Pe (h : cW b) {c : Cmp} (hc : c ∈ b.2.2.2.2.1) : Xi b (cB c.2.2.1 c.2.2.2.1) c.2.1 (cx b c) := by
 have hl := (h.lefts hc).1
 cases hp : cB c.2.2.1 c.2.2.2.1 with
 | nil => exact .none rfl (by unfold cx atP; rw [hp])
 | cons x t =>
   rw [hp] at hl
   have : t = [] := by cases t with | nil => rfl | cons => simp at hl
   subst this
   obtain ⟨j, hj⟩ := QB h hc (x := x) (.inl (lJ.1 (by rw [hp]; simp)))
   exact .one x j rfl hj (by unfold cx atP; rw [hp]; simp only [hj])
theorem Ji (h : cW b) {c : Cmp} (hc : c ∈ b.2.2.2.2.1) : Xi b (cB c.2.2.2.1 c.2.2.1) c.2.1 (cy b c) := by
 have hl := (h.lefts hc).2.1
 cases hp : cB c.2.2.2.1 c.2.2.1 with
 | nil => exact .none rfl (by unfold cy atP; rw [hp])
 | cons x t =>
   rw [hp] at hl
   have : t = [] := by cases t with | nil => rfl | cons => simp at hl
   subst this
   obtain ⟨j, hj⟩ := QB h hc (x := x) (.inr (lJ.1 (by rw [hp]; simp)))
   exact .one x j rfl hj (by unfold cy atP; rw [hp]; simp only [hj])
theorem Xi.rng {p : List Int} {d n : Int} (h : Xi b p d n) : 0 ≤ n ∧ n < ((bm b).length + 1 : Nat) := by
 rcases h with ⟨_, h⟩ | ⟨x, j, _, h1, h2⟩
 ·omega
 ·have := (jj h1).1
  omega
theorem aa2 (h : cW b) {c : Cmp} (hc : c ∈ b.2.2.2.2.1) : cx b c ≠ cy b c := by
 have hl := (h.lefts hc).2.2
 rcases Pe h hc with ⟨h1, h2⟩ | ⟨x, j, h1, h2, h3⟩
 ·rcases Ji h hc with ⟨g1, g2⟩ | ⟨y, k, g1, g2, g3⟩
  ·rw [h1, g1] at hl; simp at hl
  ·omega
 ·rcases Ji h hc with ⟨g1, g2⟩ | ⟨y, k, g1, g2, g3⟩
  ·omega
  ·intro e
   have : j = k := by omega
   subst this
   have e1 := (jj h2).2
   have e2 := (jj g2).2
   rw [e1] at e2
   simp only [Option.some.injEq, Prod.mk.injEq] at e2
   have m1 : x ∈ cB c.2.2.1 c.2.2.2.1 := by rw [h1]; simp
   have m2 : y ∈ cB c.2.2.2.1 c.2.2.1 := by rw [g1]; simp
   rw [e2.1] at m1
   exact (lJ.1 m1).2 (lJ.1 m2).1
theorem II (h : cW b) : (bB b).length = 2 * (bm b).length + 2 * b.2.2.2.2.1.length := by
 have h1 : ∀ l : List cg, (∀ g ∈ l, g ∈ b.2.1) → (l.flatMap (de b)).length = 2 * (l.flatMap fun g => (bO b g).map fun d => ((g.1, d) : Int × Int)).length := by
  intro l
  induction l with
  | nil => intro _; rfl
  | cons g t ih =>
    intro hm
    have := ih fun g hg => hm g (by simp [hg])
    have hp := List.length_pos_of_mem (la (b := b) g)
    simp only [List.flatMap_cons, List.length_append, List.length_map, this]
    unfold de
    rw [List.length_append, i0 _ _ (fun _ => rfl)]
    simp only [List.length_cons, List.length_nil]
    omega
 have h2 : ∀ l : List Cmp, (l.flatMap (cu b)).length = 2 * l.length := by
  intro l
  induction l with
  | nil => rfl
  | cons c t ih =>
    simp only [List.flatMap_cons, List.length_append, ih, cu, List.length_cons, List.length_nil]
    omega
 unfold bB
 rw [List.length_append, h1 _ fun _ h => h, h2]
 rfl
theorem dF (h : cW b) {i : Nat} {g : cg} (hg : b.2.1[i]? = some g) {l : Lk} : l ∈ de b g ↔
 l = (0, (off b i : Int) + 1, g.2.2.1 + g.2.2.2.1.2) ∨ l = ((off b i : Int) + 1, 0, -(g.2.2.1 + g.2.2.2.1.1)) ∨
 ∃ (k : Nat) (d e : Int), (bO b g)[k]? = some d ∧ (bO b g)[k + 1]? = some e ∧ (l = ((off b i : Int) + k + 1, (off b i : Int) + k + 2, 0) ∨ l = ((off b i : Int) + k + 2, (off b i : Int) + k + 1, jf b g d e)) := by
 unfold de
 rw [abq h hg]
 simp only [List.mem_append, List.mem_cons, List.not_mem_nil, or_false, List.mem_flatMap, List.mem_range]
 constructor
 ·rintro ((h1 | h1) | ⟨k, hk, h1⟩)
  ·exact .inl h1
  ·exact .inr (.inl h1)
  ·refine .inr (.inr ⟨k, (bO b g)[k], (bO b g)[k + 1], List.getElem?_eq_getElem (by omega), List.getElem?_eq_getElem (by omega), ?_⟩)
   rw [List.getElem?_eq_getElem (show k < (bO b g).length by omega), List.getElem?_eq_getElem (show k + 1 < (bO b g).length by omega)] at h1
   simp only [Option.getD_some] at h1
   have e1 : (off b i : Int) + 1 + k = (off b i : Int) + k + 1 := by omega
   have e2 : (off b i : Int) + k + 1 + 1 = (off b i : Int) + k + 2 := by omega
   rw [e1, e2] at h1
   exact h1
 ·rintro (h1 | h1 | ⟨k, d, e, hd, he, h1⟩)
  ·exact .inl (.inl h1)
  ·exact .inl (.inr h1)
  ·obtain ⟨h2, rfl⟩ := List.getElem?_eq_some_iff.1 hd
   obtain ⟨h3, rfl⟩ := List.getElem?_eq_some_iff.1 he
   refine .inr ⟨k, by omega, ?_⟩
   rw [hd, he]
   simp only [Option.getD_some]
   have e1 : (off b i : Int) + 1 + k = (off b i : Int) + k + 1 := by omega
   have e2 : (off b i : Int) + k + 1 + 1 = (off b i : Int) + k + 2 := by omega
   rw [e1, e2]
   exact h1
theorem mP {l : Lk} : l ∈ bB b ↔ (∃ (i : Nat) (g : cg), b.2.1[i]? = some g ∧ l ∈ de b g) ∨ ∃ c ∈ b.2.2.2.2.1, l = (cy b c, cx b c, (f8 b c).2) ∨ l = (cx b c, cy b c, -(f8 b c).1) := by
 unfold bB
 simp only [List.mem_append, List.mem_flatMap, cu, List.mem_cons, List.not_mem_nil, or_false]
 constructor
 ·rintro (⟨g, hg, h⟩ | h)
  ·obtain ⟨i, hi, rfl⟩ := List.mem_iff_getElem.1 hg
   exact .inl ⟨i, _, List.getElem?_eq_getElem hi, h⟩
  ·exact .inr h
 ·rintro (⟨i, g, hg, h⟩ | h)
  ·exact .inl ⟨g, List.mem_of_getElem? hg, h⟩
  ·exact .inr h
theorem cW.sys (h : cW b) : fN (bB b) ((bm b).length + 1) := by
 have hN := h.nodes
 have hL := h.links
 have key : ∀ l ∈ bB b, ((0 ≤ l.1 ∧ l.1 < ((bm b).length + 1 : Nat)) ∧ (0 ≤ l.2.1 ∧ l.2.1 < ((bm b).length + 1 : Nat))) ∧ l.1 ≠ l.2.1 ∧ (-4503599627370496 ≤ l.2.2 ∧ l.2.2 ≤ 4503599627370496) := by
  intro l hl
  rcases mP.1 hl with ⟨i, g, hg, hl⟩ | ⟨c, hc, hl⟩
  ·have hgm := List.mem_of_getElem? hg
   have hr := h.gaugeR hgm
   have ho := ack h hg
   have hp := List.length_pos_of_mem (la (b := b) g)
   have r1 := hr.2.2.2.2.2.1
   have r2 := hr.2.2.2.2.2.2.1
   rcases (dF h hg).1 hl with rfl | rfl | ⟨k, d, e, hd, he, h1⟩
   ·dsimp only; omega
   ·dsimp only; omega
   ·obtain ⟨h2, _⟩ := List.getElem?_eq_some_iff.1 he
    have d1 := h.day hgm (List.mem_of_getElem? hd)
    have lb := rW h hgm (t := e) d1.2.1
    rcases h1 with rfl | rfl
    ·dsimp only; omega
    ·dsimp only; omega
  ·have a := (Pe h hc).rng
   have b' := (Ji h hc).rng
   have ne := aa2 h hc
   have sb := GB h hc
   rcases hl with rfl | rfl
   ·dsimp only; omega
   ·dsimp only; omega
 exact ⟨by omega, by omega, by rw [II h]; omega, fun l hl => (key l hl).1, fun l hl => (key l hl).2.1, fun l hl => (key l hl).2.2⟩
end
def oN (b : bH) (x : List Int) : Bool := decide (x.length = (bm b).length) && x.all fun n => inP n (-4503599627370496) 4503599627370496
theorem WF {m : Maker} {x : List Int} (hn : m.2.1.length ≤ 1000000) : iH m x = some (if decide (x.length = m.2.1.length) && x.all fun n => inP n (-4503599627370496) 4503599627370496 then 0 else 1) := by
 unfold iH kE
 by_cases hl : x.length = m.2.1.length
 ·rw [bz (by rw [bU, bU, hl]; simp [ine])]
  refine Eq.trans (gK x (fun n => !inP n (-4503599627370496) 4503599627370496) (fun z => ifb (ige z 0) (some 1) (some 0)) (some 1) (some 0) (fun j => ?_) (fun i a hi ha kn => ?_) (fun kn => ?_)) ?_
  ·rw [bI (by simp [ige])]
  ·try dsimp only
   unfold gd
   rw [bC hi, bt ha, fH, aZ, bv hi (by omega), dA]
  ·try dsimp only
   unfold gd
   rw [bX]
  ·rw [show (x.any fun n => !inP n (-4503599627370496) 4503599627370496) = !(x.all fun n => inP n (-4503599627370496) 4503599627370496) from by rw [List.all_eq_not_any_not]; simp]
   cases (x.all fun n => inP n (-4503599627370496) 4503599627370496) <;> simp [hl]
 ·rw [bI (by rw [bU, bU]; simp [ine]; omega)]
  simp [hl]
def WK (b : bH) (x : List Int) : Bool := O9 (bB b) (0 :: x)
def wF (b : bH) (x : List Int) : Bool × Int := if bN b ≠ 0 then (false, bN b) else if oN b x then (WK b x, 0) else (false, 1)
theorem QM {b : bH} (h : cW b) {x : List Int} (hx : oN b x = true) (src : List (Int × Int)) : kZ (b, bm b, (((bm b).length : Int) + 1, bB b), src) x = some (WK b x) := by
 simp only [oN, Bool.and_eq_true, decide_eq_true_eq, List.all_eq_true, inP] at hx
 have hN := h.nodes
 unfold kZ pu
 rw [dh (bD (by simp only [List.length_singleton]; omega))]
 have := SH h.sys (x := [0] ++ x) (by simp; omega) (fun a ha => by
  unfold fP
  rcases List.mem_append.1 ha with ha | ha
  ·simp at ha; omega
  ·have := hx.2 a ha; omega)
 rw [show (((bm b).length : Int) + 1) = (((bm b).length + 1 : Nat) : Int) by push_cast; rfl]
 try dsimp only
 rw [this, aZ]
 unfold WK
 have e : gv ([0] ++ x) 0 = 0 := rfl
 rw [e]
 simp
theorem PA {b : bH} (hs : jt b) (hr : ∀ g ∈ b.2.1, I64 g.2.2.2.2.1.1) (x : List Int) : mE b x = some (wF b x) := by
 unfold mE OW wF
 rw [gQ hs hr, aZ]
 by_cases hc : bN b = 0
 ·have h := (bE b).1 hc
  have hN := h.nodes
  rw [bz (by simp [ine, hc]), Nm h, aZ, WF (by dsimp only; omega), aZ, if_neg (show ¬ (bN b ≠ 0) from fun h => h hc)]
  rw [show (decide (x.length = (b, bm b, (((bm b).length : Int) + 1, bB b), eN b).2.1.length) && x.all fun n => inP n (-4503599627370496) 4503599627370496) = oN b x from rfl]
  cases hl : oN b x with
  | false => rfl
  | true =>
    rw [if_pos rfl, bz (by rfl), QM h hl, aZ, if_pos rfl]
 ·rw [bI (by simp [ine, hc]), if_pos hc]
end Go.Proofs.ZzM
end
noncomputable section
namespace Go.Proofs.ZzM
open Go Go.Am
theorem ZF {ρ : Type} : @rA ρ = @gn ρ := rfl
theorem ZE {ρ : Type} : @rz ρ = @eh ρ := rfl
theorem ZD {ρ : Type} : @ru ρ = @dm ρ := rfl
theorem RW {ρ : Type} {N : Nat} (hN : N ≤ 1000) (x : Option ρ) : ca ((ile (0 : Int) (N : Int)) && (bZ N)) x = x := by
 have := Bu hN x
 rwa [Int.toNat_natCast] at this
section
variable {L : List Lk} {N : Nat} {M : Int}
theorem XE {s : Int} (hs : 0 ≤ s ∧ s < N) : (List.replicate N fP).set s.toNat 0 = qM (X4 s) N := by
 refine Vt (by simp [ce]) fun v h0 h1 => ?_
 have hv : v < N := by simpa using h1
 rw [gZ _ h0 hv, vg hs.1 h0 (by simp; omega)]
 unfold X4
 by_cases h : v = s
 ·simp [h]
 ·simp only [h, if_false, beq_iff_eq]
  unfold gv
  rw [List.getElem?_replicate]
  have : v.toNat < N := by omega
  simp [this]
theorem ZC (hL : gP L N M) (h1 : 1 ≤ N) (hN : N ≤ 200) (ho : dC L N = true) {s : Int} (hs : 0 ≤ s ∧ s < N) : wc ((N : Int), L) [] s = some (mc L N s) := by
 obtain ⟨p, hp⟩ := (d9 hL hN).1 ho
 unfold wc CV
 rw [ZF, ZE, ZD]
 dsimp only
 rw [Bu (by omega), Int.toNat_natCast]
 refine cI (List.replicate N (0 : Int)) (fun i => List.replicate i fP ++ List.replicate (N - i) 0) _ (by simp) (fun i a hi ha kn => ?_) (fun kn => ?_)
 ·dsimp only
  unfold mr
  have hiN : i < N := by simpa using hi
  have hl : i < (List.replicate i fP ++ List.replicate (N - i) (0 : Int)).length := by simp; omega
  rw [bC hi, gY hl, eT (List.getElem?_eq_getElem hl), bv hiN (by omega), Int.toNat_natCast]
  congr 2
  rw [List.set_append_right _ _ (by simp)]
  have : N - i = (N - (i + 1)) + 1 := by omega
  rw [this, List.length_replicate, Nat.sub_self, List.replicate_succ, List.set_cons_zero, List.replicate_succ']
  simp
 ·try dsimp only
  unfold mr
  rw [bX]
  dsimp only
  have e0 : List.replicate (List.replicate N (0 : Int)).length fP ++ List.replicate (N - (List.replicate N (0 : Int)).length) 0 = List.replicate N fP := by simp
  rw [e0]
  have hlen : s.toNat < (List.replicate N fP).length := by simp; omega
  rw [show dz (List.replicate N fP) = ((N : Nat) : Int) by simp [dz], ir hs.1 hs.2, i6 hlen, RW (by omega), RW (by omega), XE hs]
  refine Eq.trans (Vr hL _) ?_
  have hS : ∀ v, X4 s v = true → 0 ≤ v ∧ v < N := fun v h => by simp [X4] at h; subst h; exact hs
  refine XF (ce _ _) (by omega) _ fun w q hw hq hr hwq hqs => ?_
  have hs0 := Lt hL h1 hS hw hq hr hwq hqs
  refine PT hL (aaz hL hN) hp hS _ (fun x w t q hx hd => ?_) hs0
  have : x = mc L N s := by
   refine Vt (by rw [hx]; unfold mc; rw [dp, ce]) fun v a b => ?_
   exact hd.uniq (iw hL hN hp hs) a (by omega)
  dsimp only
  rw [this]
def gu (L : List Lk) (N : Nat) (s t : Int) : Int × Int :=
 if !dC L N then (0, 9) else if gv (mc L N s) t = fP then (0, 5) else (gv (mc L N s) t, 0)
theorem abr (h : fN L N) {ns : List Int} (hn : ∀ n ∈ ns, 0 ≤ n ∧ n < N) (hl : ns.length ≤ 1000) : BI ((N : Int), L) ns = some (if dC L N then 0 else 9) := by
 have h2 := h.n60
 unfold BI HI
 rw [iI h, aZ]
 dsimp only
 rw [bz (by rfl)]
 refine Eq.trans (iq ns (fun _ => false) (fun _ => some 1) (some (if dC L N then 0 else 9)) (fun i n hi hm kn => ?_) (fun kn => ?_)) ?_
 ·try dsimp only
  unfold ox
  have a := hn n (List.mem_of_getElem? hm)
  have e : (decide (0 ≤ n) && decide (n < (N : Int))) = true := by simp [a.1, a.2]
  rw [bC hi, bt hm, GY, aZ, e, bv hi (by omega)]
  simp
 ·try dsimp only
  unfold ox
  rw [bX, qN h.links h.n1 (by omega), aZ]
  cases dC L N <;> rfl
 ·rw [List.findIdx?_eq_none_iff.2 (by simp)]
theorem B3 (h : fN L N) {s t : Int} (hs : 0 ≤ s ∧ s < N) (ht : 0 ≤ t ∧ t < N) : lN ((N : Int), L) s t = some (gu L N s t) := by
 have h2 := h.n60
 unfold lN HZ gu
 rw [abr h (fun n hn => by simp at hn; rcases hn with rfl | rfl <;> assumption) (by simp), aZ]
 by_cases ho : dC L N = true
 ·rw [if_pos ho, bz (by rfl), ZC h.links h.n1 (by omega) ho hs, aZ, l7 ht.1 (by unfold mc; rw [dp, ce]; omega), dA, if_neg (show ¬ (!dC L N) = true by simp [ho])]
  by_cases hf : gv (mc L N s) t = fP
  ·rw [if_pos (by simpa [ieq] using hf), if_pos hf]
  ·rw [if_neg (by simpa [ieq] using hf), if_neg hf]
 ·rw [if_neg ho, bI (by rfl), if_pos (show (!dC L N) = true by simpa using ho)]
end
end Go.Proofs.ZzM
end
noncomputable section
namespace Go.Proofs.ZzM
open Go Go.Am
def bQ (b : bH) (c : Cmp) : bH := (b.1, b.2.1, b.2.2.1, b.2.2.2.1, b.2.2.2.2.1 ++ [c], b.2.2.2.2.2)
def kP : bH := ((0, 0), [], [], [], [], [])
def vz (b : bH) (c : Cmp) : bH × Int := if bN b ≠ 0 then (kP, bN b) else if bN (bQ b c) ≠ 0 then (kP, bN (bQ b c)) else (bQ b c, 0)
theorem Yf {b : bH} (h : cW b) {c : Cmp} (hA : c.2.2.1.length ≤ 1000) (hB : c.2.2.2.1.length ≤ 1000) : jt (bQ b c) := by
 have hs := h.size
 have := h.nC
 refine ⟨hs.gauges, hs.uses, hs.loans, by simp [bQ]; omega, hs.looks, fun d hd => ?_⟩
 rcases List.mem_append.1 (show d ∈ b.2.2.2.2.1 ++ [c] from hd) with hd | hd
 ·exact hs.piles d hd
 ·simp at hd; subst hd; exact ⟨hA, hB⟩
theorem ZN {b : bH} (hs : jt b) (hr : ∀ g ∈ b.2.1, I64 g.2.2.2.2.1.1) {c : Cmp} (hA : c.2.2.1.length ≤ 1000) (hB : c.2.2.2.1.length ≤ 1000) : mD b c = some (vz b c) := by
 unfold mD OP vz
 have h1 := hs.gauges; have h2 := hs.uses; have h3 := hs.loans; have h4 := hs.compares; have h5 := hs.looks
 rw [bD (by omega), Am.iff_true, bD (by omega), Am.iff_true, gQ hs hr, aZ]
 by_cases hc : bN b = 0
 ·have h := (bE b).1 hc
  rw [bz (by simp [ine, hc]), bD (by omega), Am.iff_true, bD (by omega), Am.iff_true, bD (by omega), Am.iff_true, bD (by omega), Am.iff_true, bD (by omega), Am.iff_true, if_neg (show ¬ (bN b ≠ 0) from fun h => h hc)]
  refine cI b.2.2.2.2.1 (fun _ => b.2.2.2.2.1) _ rfl (fun i d hi hd kn => ?_) (fun kn => ?_)
  ·dsimp only
   unfold rU
   obtain ⟨p1, p2⟩ := hs.piles d (List.mem_of_getElem? hd)
   have e1 : b.2.2.2.2.1.set i d = b.2.2.2.2.1 := by
    obtain ⟨h, rfl⟩ := List.getElem?_eq_some_iff.1 hd
    exact List.set_getElem_self h
   rw [bC hi, gY hi, eT hd, bD (by omega), Am.iff_true, bD (by omega), Am.iff_true, gY hi, eT hd, Int.toNat_natCast]
   rw [show (d.1, d.2.1, d.2.2.1, d.2.2.2) = d from rfl, e1, gY hi, qQ hd, bv hi (by omega)]
   rw [show (d.1, d.2.1, d.2.2.1, d.2.2.2.1, d.2.2.2.2) = d from rfl, e1]
  ·try dsimp only
   unfold rU
   rw [bX]
   dsimp only
   rw [bD (by simp only [List.length_singleton]; omega), Am.iff_true]
   rw [show b9 (b.1, b.2.1, b.2.2.1, b.2.2.2.1, b.2.2.2.2.1 ++ [c], b.2.2.2.2.2) = b9 (bQ b c) from rfl, gQ (Yf h hA hB) hr, aZ]
   by_cases hc2 : bN (bQ b c) = 0
   ·rw [bz (by simp [ine, hc2]), if_neg (show ¬ (bN (bQ b c) ≠ 0) from fun h => h hc2)]
    rfl
   ·rw [bI (by simp [ine, hc2]), if_pos hc2]
    rfl
 ·rw [bI (by simp [ine, hc]), if_pos hc]
  rfl
def bj (c : Cmp) : Cmp := (c.1, c.2.1, c.2.2.1, c.2.2.2.1, 0, c.2.2.2.2.2)
def T3 (b : bH) (c : Cmp) : Int := Jq (dN b c).1 + (jo b c).1 - c.2.2.2.2.2.1
def yI (b : bH) (c : Cmp) : Int := (dN b c).2.1 / (dN b c).2.2 + (jo b c).2 + c.2.2.2.2.2.1
def Gy (b : bH) (c : Cmp) (s : Int × Int) : (Int × Int) × Int := if yI b c < T3 b c then ((0, 0), 5) else ((s.1 + T3 b c, s.2 + yI b c), 0)
structure abz (b : bH) (c : Cmp) : Prop where
 nums : Wo c = true
 r1 : qJ (E7 (mY b) (cB c.2.2.1 c.2.2.2.1)) 1000 100
 r2 : qJ (E7 (mY b) (cB c.2.2.2.1 c.2.2.1)) 1000 100
theorem cW.cmp {b : bH} (h : cW b) {c : Cmp} (hc : c ∈ b.2.2.2.2.1) : abz b c := ⟨h.nums hc, (h.rates hc).1, (h.rates hc).2⟩
theorem DW {b : bH} (hf : 0 ≤ b.1.1 ∧ b.1.1 ≤ b.1.2 ∧ b.1.2 ≤ 1000000) {c : Cmp} (h : abz b c) : qJ (dN b c).1 2000000000 10000 ∧ qJ (dN b c).2 2000000000 10000 ∧ (-3000000000 ≤ Jq (dN b c).1 + (jo b c).1 ∧ Jq (dN b c).1 + (jo b c).1 ≤ 3000000000) ∧
 (-3000000000 ≤ (dN b c).2.1 / (dN b c).2.2 + (jo b c).2 ∧ (dN b c).2.1 / (dN b c).2.2 + (jo b c).2 ≤ 3000000000) ∧ (0 ≤ c.2.2.2.2.2.1 ∧ c.2.2.2.2.2.1 ≤ 1073741824) := by
 have hn := (jF c).1 h.nums
 have ha := fI hn.2.2.2.2.2.1
 have hb := fI hn.2.2.2.2.2.2
 obtain ⟨g1, g2⟩ := Nb (MN h.r1 h.r2) hn.2.2.2.2.1
 have fb := yP (b := b) (c := c) (by omega) (by omega) (by omega) (by omega) (by omega) (by omega)
 have q1 : qJ (dN b c).1 2000000000 10000 := g1
 have q2 : qJ (dN b c).2 2000000000 10000 := g2
 have c1 := DE q1
 have c2 := yM q2
 exact ⟨q1, q2, by omega, by omega, hn.2.2.2.1⟩
theorem aaj {b : bH} (hs : jt b) (hf : 0 ≤ b.1.1 ∧ b.1.1 ≤ b.1.2 ∧ b.1.2 ≤ 1000000) {c : Cmp} (h : abz b c) {s : Int × Int} (h1 : -2305843009213693952 ≤ s.1 ∧ s.1 ≤ 2305843009213693952) (h2 : -2305843009213693952 ≤ s.2 ∧ s.2 ≤ 2305843009213693952) : qC b c s = some (Gy b c s) := by
 have hn := (jF c).1 h.nums
 have ha := fI hn.2.2.2.2.2.1
 have hb := fI hn.2.2.2.2.2.2
 obtain ⟨q1, q2, b1, b2, b3⟩ := DW hf h
 unfold qC Im Gy T3 yI
 rw [R0 hs (by omega) (by omega) h.r1 h.r2 hn.2.2.2.2.1, aZ, VA (by omega) (by omega) (by omega) (by omega) (by omega) (by omega), aZ, ZY q1.rat, aZ, V1 q2.rat, aZ]
 dsimp only
 rw [bG (by omega) (by omega), bG (by omega) (by omega), bG (by omega) (by omega), bG (by omega) (by omega), dA]
 by_cases hlt : (dN b c).2.1 / (dN b c).2.2 + (jo b c).2 + c.2.2.2.2.2.1 < Jq (dN b c).1 + (jo b c).1 - c.2.2.2.2.2.1
 ·rw [if_pos (by simpa [igt] using hlt), if_pos hlt]
 ·rw [if_neg (by simpa [igt] using hlt), if_neg hlt, bG (by omega) (by omega), bG (by omega) (by omega)]
def b8 (b : bH) : List Lk := (bB b).take ((bB b).length - 2)
def dv (b : bH) (c : Cmp) : (Int × Int) × Int :=
 if (vz b (bj c)).2 ≠ 0 then ((0, 0), (vz b (bj c)).2) else
 if (gu (b8 (bQ b (bj c))) ((bm (bQ b (bj c))).length + 1) (cy (bQ b (bj c)) (bj c)) (cx (bQ b (bj c)) (bj c))).2 ≠ 0 then
  ((0, 0), (gu (b8 (bQ b (bj c))) ((bm (bQ b (bj c))).length + 1) (cy (bQ b (bj c)) (bj c)) (cx (bQ b (bj c)) (bj c))).2) else
 if (gu (b8 (bQ b (bj c))) ((bm (bQ b (bj c))).length + 1) (cx (bQ b (bj c)) (bj c)) (cy (bQ b (bj c)) (bj c))).2 ≠ 0 then
  ((0, 0), (gu (b8 (bQ b (bj c))) ((bm (bQ b (bj c))).length + 1) (cx (bQ b (bj c)) (bj c)) (cy (bQ b (bj c)) (bj c))).2) else
 Gy b (bj c) (-(gu (b8 (bQ b (bj c))) ((bm (bQ b (bj c))).length + 1) (cx (bQ b (bj c)) (bj c)) (cy (bQ b (bj c)) (bj c))).1,
  (gu (b8 (bQ b (bj c))) ((bm (bQ b (bj c))).length + 1) (cy (bQ b (bj c)) (bj c)) (cx (bQ b (bj c)) (bj c))).1)
theorem SK {L : List Lk} {N : Nat} (h : fN L N) {s t : Int} (hs : 0 ≤ s ∧ s < N) (ht : 0 ≤ t ∧ t < N) : -2305843009213693952 ≤ (gu L N s t).1 ∧ (gu L N s t).1 ≤ 2305843009213693952 := by
 unfold gu
 have h2 := h.n60
 split
 ·simp
 ·rename_i ho
  have ho' : dC L N = true := by simpa using ho
  obtain ⟨p, hp⟩ := (d9 h.links (by omega)).1 ho'
  have hd := iw h.links (by omega) hp hs
  split
  ·simp
  ·rename_i hne
   dsimp only
   have hb := hd.bd t ht.1 ht.2
   obtain ⟨vs, hw⟩ := hd.att t ht.1 ht.2 hne
   have h3 := hw.low' hp
   have h4 := Ni (L := L) (fun l hl => (h.most l hl).1) (M := 4503599627370496) (by omega)
   have h5 := h.len
   unfold fP at hb
   constructor <;> omega
theorem Xh {b : bH} (hs : jt b) (hr : ∀ g ∈ b.2.1, I64 g.2.2.2.2.1.1) {c : Cmp} (hA : c.2.2.1.length ≤ 1000) (hB : c.2.2.2.1.length ≤ 1000) : si b c = some (dv b c) := by
 unfold si yE dv
 rw [show mD b (c.1, c.2.1, c.2.2.1, c.2.2.2.1, 0, c.2.2.2.2.2) = mD b (bj c) from rfl, ZN hs hr (c := bj c) hA hB, aZ]
 by_cases hw : (vz b (bj c)).2 = 0
 ·rw [bz (by simp [ine, hw]), if_neg (show ¬ ((vz b (bj c)).2 ≠ 0) from fun h => h hw)]
  -- the book is valid, and so is the greater one
  have hb : bN b = 0 := by
   unfold vz at hw
   split at hw
   ·rename_i h; exact (h hw).elim
   ·rename_i h; simpa using h
  have hm : bN (bQ b (bj c)) = 0 := by
   unfold vz at hw
   rw [if_neg (by simp [hb])] at hw
   split at hw
   ·rename_i h; exact (h hw).elim
   ·rename_i h; simpa using h
  have he : vz b (bj c) = (bQ b (bj c), 0) := by
   unfold vz
   rw [if_neg (by simp [hb]), if_neg (by simp [hm])]
  have g := (bE b).1 hb
  have gm := (bE _).1 hm
  have hmem : bj c ∈ (bQ b (bj c)).2.2.2.2.1 := by simp [bQ]
  have hN := gm.nodes
  have hll := II gm
  have hcl : (bQ b (bj c)).2.2.2.2.1.length = b.2.2.2.2.1.length + 1 := by simp [bQ]
  have hlk := gm.links
  have hsys : fN (b8 (bQ b (bj c))) ((bm (bQ b (bj c))).length + 1) := gm.sys.sub (fun l hl => List.mem_of_mem_take hl) (by unfold b8; rw [List.length_take]; omega)
  have hx := (Pe gm hmem).rng
  have hy := (Ji gm hmem).rng
  have lA : c.2.2.1.length ≤ 1000 := hA
  rw [he]
  dsimp only
  rw [Nm gm, aZ]
  dsimp only
  rw [bU, bG (by omega) (by omega)]
  have e1 : ((ile (0 : Int) (((bB (bQ b (bj c))).length : Int) - 2)) && (ile (((bB (bQ b (bj c))).length : Int) - 2) (dz (bB (bQ b (bj c)))))) = true := by
   simp [ile, dz]; omega
  have e2 : (((bB (bQ b (bj c))).length : Int) - 2).toNat = (bB (bQ b (bj c))).length - 2 := by omega
  rw [dh e1, pw (by omega) (by omega), aZ, ZI _ _ _ (by dsimp only; omega), aZ, pw (by omega) (by omega), aZ, ZI _ _ _ (by dsimp only; omega), aZ, e2]
  have e3 : (((bm (bQ b (bj c))).length : Int) + 1) = (((bm (bQ b (bj c))).length + 1 : Nat) : Int) := by push_cast; rfl
  rw [e3]
  rw [show List.take ((bB (bQ b (bj c))).length - 2) (bB (bQ b (bj c))) = b8 (bQ b (bj c)) from rfl]
  dsimp only
  rw [show atP (bm (bQ b (bj c))) (cB c.2.2.1 c.2.2.2.1) c.2.1 = cx (bQ b (bj c)) (bj c) from rfl, show atP (bm (bQ b (bj c))) (cB c.2.2.2.1 c.2.2.1) c.2.1 = cy (bQ b (bj c)) (bj c) from rfl]
  rw [B3 hsys hy hx, aZ, B3 hsys hx hy]
  have b1 := SK hsys hy hx
  have b2 := SK hsys hx hy
  generalize hB1 : gu (b8 (bQ b (bj c))) ((bm (bQ b (bj c))).length + 1) (cy (bQ b (bj c)) (bj c)) (cx (bQ b (bj c)) (bj c)) = B1 at b1 ⊢
  generalize hB2 : gu (b8 (bQ b (bj c))) ((bm (bQ b (bj c))).length + 1) (cx (bQ b (bj c)) (bj c)) (cy (bQ b (bj c)) (bj c)) = B2 at b2 ⊢
  by_cases h1 : B1.2 = 0
  ·rw [bz (by simp [ine, h1]), if_neg (show ¬ (B1.2 ≠ 0) from fun h => h h1), aZ]
   by_cases h2 : B2.2 = 0
   ·rw [bz (by simp [ine, h2]), if_neg (show ¬ (B2.2 ≠ 0) from fun h => h h2), bG (by omega) (by omega)]
    have hck : abz b (bj c) := ⟨(gm.cmp hmem).nums, (gm.cmp hmem).r1, (gm.cmp hmem).r2⟩
    rw [show qC b (c.1, c.2.1, c.2.2.1, c.2.2.2.1, 0, c.2.2.2.2.2) (0 - B2.1, B1.1) = qC b (bj c) (0 - B2.1, B1.1) from rfl, aaj g.size g.film hck (by dsimp only; omega) (by dsimp only; omega), aZ, Int.zero_sub]
   ·rw [bI (by simp [ine, h2]), if_pos h2]
  ·rw [bI (by simp [ine, h1]), if_pos h1]
 ·rw [bI (by simp [ine, hw]), if_pos hw]
end Go.Proofs.ZzM
end
noncomputable section
namespace Go.Proofs.ZzM
open Go Go.Am
structure In (b : bH) : Prop where
 size : jt b
 num : ∀ g ∈ b.2.1, I64 g.2.2.2.2.1.1
def Py (b : bH) : Sys × List (Int × Int) × Int := if bN b ≠ 0 then ((0, []), [], bN b) else ((((bm b).length : Int) + 1, bB b), eN b, 0)
theorem nS {b : bH} (h : In b) : df b = some (Py b) := by
 unfold df Dc Py
 rw [gQ h.size h.num, aZ]
 by_cases hc : bN b = 0
 ·rw [bz (by simp [ine, hc]), Nm ((bE b).1 hc), aZ, if_neg (show ¬ (bN b ≠ 0) from fun h => h hc)]
 ·rw [bI (by simp [ine, hc]), if_pos hc]
def cmp0 : Cmp := (0, 0, [], [], 0, 0, 0, 0)
def pG (b : bH) (i : Int) : Cmp × Int := if bN b ≠ 0 then (cmp0, bN b) else if i < 0 ∨ (b.2.2.2.2.1.length : Int) ≤ i then (cmp0, 1) else (b.2.2.2.2.1[i.toNat]?.getD cmp0, 0)
theorem Z8 {b : bH} (h : In b) (i : Int) : BK b i = some (pG b i) := by
 unfold BK Ik pG
 rw [gQ h.size h.num, aZ]
 by_cases hc : bN b = 0
 ·rw [bz (by simp [ine, hc]), if_neg (show ¬ (bN b ≠ 0) from fun h => h hc), bU]
  by_cases h1 : i < 0
  ·rw [bI (by simp [ilt, h1]), if_pos (.inl h1)]; rfl
  ·rw [bz (by simp [ilt]; omega)]
   by_cases h2 : (b.2.2.2.2.1.length : Int) ≤ i
   ·rw [bI (by simp [ige, h2]), if_pos (.inr h2)]; rfl
   ·rw [bz (by simp [ige]; omega), if_neg (by omega)]
    obtain ⟨j, rfl⟩ := Int.eq_ofNat_of_zero_le (show 0 ≤ i by omega)
    have hj : j < b.2.2.2.2.1.length := by omega
    rw [bt (List.getElem?_eq_getElem hj), Int.toNat_natCast, List.getElem?_eq_getElem hj]
    rfl
 ·rw [bI (by simp [ine, hc]), if_pos hc]; rfl
theorem SS {b : bH} {i : Int} (h : (pG b i).2 = 0) : cW b ∧ (pG b i).1 ∈ b.2.2.2.2.1 ∧ b.2.2.2.2.1[i.toNat]? = some (pG b i).1 ∧ 0 ≤ i := by
 unfold pG at h ⊢
 split at h
 ·rename_i hc; exact (hc h).elim
 ·rename_i hc
  have hc0 : bN b = 0 := by simpa using hc
  split at h
  ·simp at h
  ·rename_i hi
   have hj : i.toNat < b.2.2.2.2.1.length := by omega
   rw [if_neg hc, if_neg hi, List.getElem?_eq_getElem hj]
   exact ⟨(bE b).1 hc0, List.getElem_mem hj, rfl, by omega⟩
def abw (b : bH) (i : Int) : (Int × Int) × Int := if (pG b i).2 ≠ 0 then ((0, 0), (pG b i).2) else (f8 b (pG b i).1, 0)
theorem acU {b : bH} (h : In b) (i : Int) : Gh b i = some (abw b i) := by
 unfold Gh OS abw
 rw [Z8 h, aZ]
 by_cases hw : (pG b i).2 = 0
 ·obtain ⟨g, hm, _, _⟩ := SS hw
  rw [bz (by simp [ine, hw]), g.says hm, aZ, if_neg (show ¬ ((pG b i).2 ≠ 0) from fun h => h hw)]
 ·rw [bI (by simp [ine, hw]), if_pos hw]
def exB : bH := ((0, 2), [(1, 0, 1000, (-5, 5), (1, 10), 1), (2, 0, 1000, (-50, 50), (1, 4), 0)], [(1, 10)], [(1, (20, 29), 3)], [(7, 10, [1], [2], -20, 1, 100, 200)], [])
theorem vq : In exB := ⟨⟨by decide, by decide, by decide, by decide, by decide, by decide⟩, by
 intro g hg
 simp [exB] at hg
 rcases hg with rfl | rfl <;> exact ⟨by decide, by decide⟩⟩
def exC : Cmp := (8, 10, [1], [2], 0, 0, 0, 0)
end Go.Proofs.ZzM
end
noncomputable section
namespace Go.Proofs.ZzM
open Go Go.Am
def lT (b : bH) (x d : Int) : Int := match iN (bm b) x d with | some j => (j : Int) + 1 | none => 0
def tg (b : bH) (n : Int × Int) : Int × Int := if bN b ≠ 0 then (0, bN b) else if lT b n.1 n.2 = 0 then (0, 5) else (lT b n.1 n.2, 0)
theorem qK {b : bH} (h : In b) (n : Int × Int) : dc b n = some (tg b n) := by
 have hl := Cj h.size
 unfold dc IF tg
 rw [gQ h.size h.num, aZ]
 by_cases hc : bN b = 0
 ·rw [bz (by simp [ine, hc]), if_neg (show ¬ (bN b ≠ 0) from fun h => h hc), Nf h.size, aZ, show cd (bm b) n = cd (bm b) (n.1, n.2) from rfl, SE (by omega), aZ]
  unfold lT
  cases hx : iN (bm b) n.1 n.2 with
  | none => rfl
  | some j =>
    have := (jj hx).1
    simp only
    rw [bz (by simp [ilt]), bG (by omega) (by omega), if_neg (by omega)]
 ·rw [bI (by simp [ine, hc]), if_pos hc]
end Go.Proofs.ZzM
end
noncomputable section
namespace Go.Proofs.ZzM
open Go Go.Am
def jx (b : bH) (n : Int × Int) : bH := (b.1, b.2.1, b.2.2.1, b.2.2.2.1, b.2.2.2.2.1, b.2.2.2.2.2 ++ [n])
theorem Ys {b : bH} (h : cW b) (n : Int × Int) : jt (jx b n) := by
 have hs := h.size
 have := h.nK
 exact ⟨hs.gauges, hs.uses, hs.loans, hs.compares, by simp [jx]; omega, hs.piles⟩
def FO (b : bH) (n : Int × Int) : bH × Int := if bN b ≠ 0 then (kP, bN b) else if bN (jx b n) ≠ 0 then (kP, bN (jx b n)) else (jx b n, 0)
theorem UF {b : bH} (h : In b) (n : Int × Int) : fm b n = some (FO b n) := by
 have hs := h.size
 have h1 := hs.gauges; have h2 := hs.uses; have h3 := hs.loans; have h4 := hs.compares; have h5 := hs.looks
 unfold fm OU FO
 rw [gQ hs h.num, aZ]
 by_cases hc : bN b = 0
 ·have hg := (bE b).1 hc
  rw [bz (by simp [ine, hc]), bD (by omega), Am.iff_true, bD (by omega), Am.iff_true, bD (by omega), Am.iff_true, bD (by omega), Am.iff_true, bD (by omega), Am.iff_true, if_neg (show ¬ (bN b ≠ 0) from fun h => h hc)]
  refine cI b.2.2.2.2.1 (fun _ => b.2.2.2.2.1) _ rfl (fun i d hi hd kn => ?_) (fun kn => ?_)
  ·dsimp only
   unfold rV
   obtain ⟨p1, p2⟩ := hs.piles d (List.mem_of_getElem? hd)
   have e1 : b.2.2.2.2.1.set i d = b.2.2.2.2.1 := by
    obtain ⟨h, rfl⟩ := List.getElem?_eq_some_iff.1 hd
    exact List.set_getElem_self h
   rw [bC hi, gY hi, eT hd, bD (by omega), Am.iff_true, bD (by omega), Am.iff_true, gY hi, eT hd, Int.toNat_natCast]
   rw [show (d.1, d.2.1, d.2.2.1, d.2.2.2) = d from rfl, e1, gY hi, qQ hd, bv hi (by omega)]
   rw [show (d.1, d.2.1, d.2.2.1, d.2.2.2.1, d.2.2.2.2) = d from rfl, e1]
  ·try dsimp only
   unfold rV
   rw [bX]
   dsimp only
   rw [bD (by simp only [List.length_singleton]; omega), Am.iff_true]
   rw [show b9 (b.1, b.2.1, b.2.2.1, b.2.2.2.1, b.2.2.2.2.1, b.2.2.2.2.2 ++ [n]) = b9 (jx b n) from rfl, gQ (Ys hg n) h.num, aZ]
   by_cases hc2 : bN (jx b n) = 0
   ·rw [bz (by simp [ine, hc2]), if_neg (show ¬ (bN (jx b n) ≠ 0) from fun h => h hc2)]
    rfl
   ·rw [bI (by simp [ine, hc2]), if_pos hc2]
    rfl
 ·rw [bI (by simp [ine, hc]), if_pos hc]
  rfl
end Go.Proofs.ZzM
end
noncomputable section
namespace Go.Proofs.ZzM
open Go Go.Am
theorem nW {b : bH} {x : List Int} : wF b x = (true, 0) ↔ cW b ∧ oN b x = true ∧ WK b x = true := by
 unfold wF
 constructor
 ·intro h
  split at h
  ·cases h
  ·rename_i hc
   have hc0 : bN b = 0 := by simpa using hc
   split at h
   ·rename_i hl
    simp only [Prod.mk.injEq, and_true] at h
    exact ⟨(bE b).1 hc0, hl, h⟩
   ·cases h
 ·rintro ⟨h1, h2, h3⟩
  rw [if_neg (by simp [(bE b).2 h1]), if_pos h2, h3]
theorem EM {b : bH} {x : List Int} : oN b x = true ↔ x.length = (bm b).length ∧ ∀ n ∈ x, -4503599627370496 ≤ n ∧ n ≤ 4503599627370496 := by
 simp [oN, inP]
theorem By {L : List Lk} {x : List Int} : O9 L x = true ↔ Pot L (gv x) := by
 simp only [O9, List.all_eq_true, decide_eq_true_eq, Pot]
 exact ⟨fun h u v m hl => h (u, v, m) hl, fun h l hl => h l.1 l.2.1 l.2.2 hl⟩
theorem acu (a : Int) (x : List Int) {v : Int} (hv : 0 ≤ v) : gv (a :: x) v = if v = 0 then a else gv x (v - 1) := by
 unfold gv
 by_cases h : v = 0
 ·subst h; rfl
 ·obtain ⟨n, rfl⟩ := Int.eq_ofNat_of_zero_le hv
  cases n with
  | zero => simp at h
  | succ n =>
    have e : (((n + 1 : Nat) : Int) - 1).toNat = n := by omega
    rw [if_neg h, e]
    simp
end Go.Proofs.ZzM
end
noncomputable section
namespace Go.Proofs.ZzM
open Go Go.Am
section
variable {b : bH}
theorem acl : off b b.2.1.length = (bm b).length := by unfold off bm; rw [List.take_length]
theorem aaw : ∀ n, n ≤ b.2.1.length → ∀ j, j < off b n → ∃ (i : Nat) (g : cg) (k : Nat), b.2.1[i]? = some g ∧ k < (bO b g).length ∧ j = off b i + k := by
 intro n
 induction n with
 | zero => intro _ j hj; simp [off] at hj
 | succ n ih =>
   intro hn j hj
   have hg : b.2.1[n]? = some b.2.1[n] := List.getElem?_eq_getElem (by omega)
   rw [aav hg] at hj
   by_cases h : j < off b n
   ·exact ih (by omega) j h
   ·exact ⟨n, _, j - off b n, hg, by omega, by omega⟩
theorem LL {v : Int} (h0 : 1 ≤ v) (h1 : v < ((bm b).length + 1 : Nat)) : ∃ (i : Nat) (g : cg) (k : Nat), b.2.1[i]? = some g ∧ k < (bO b g).length ∧ v = (off b i : Int) + k + 1 := by
 obtain ⟨i, g, k, h2, h3, h4⟩ := aaw (b := b) b.2.1.length (Nat.le_refl _) (v - 1).toNat (by rw [acl]; omega)
 exact ⟨i, g, k, h2, h3, by omega⟩
def GL (b : bH) (L : List Lk) : Prop := ∀ (i : Nat) (g : cg), b.2.1[i]? = some g → ∀ l ∈ de b g, l ∈ L
theorem Gb : GL b (bB b) := fun i g hg l hl => mP.2 (.inl ⟨i, g, hg, hl⟩)
theorem SV {L : List Lk} (h : cW b) (hL : GL b L) {v : Int} (h0 : 0 ≤ v) (h1 : v < ((bm b).length + 1 : Nat)) : ∃ vs d, Wl L (fun u => u = 0) vs v d ∧ d ≤ 4503599627370496 := by
 by_cases hv : v = 0
 ·exact ⟨[], 0, .nil hv, by omega⟩
 obtain ⟨i, g, k, hg, hk, rfl⟩ := LL (by omega) h1
 have hr := h.gaugeR (List.mem_of_getElem? hg)
 have r1 := hr.2.2.2.2.2.1
 have r2 := hr.2.2.2.2.2.2.1
 have key : ∀ k : Nat, k < (bO b g).length → ∃ vs, Wl L (fun u => u = 0) vs ((off b i : Int) + k + 1) (g.2.2.1 + g.2.2.2.1.2) := by
  intro k
  induction k with
  | zero =>
    intro _
    have hw : Wl L (fun u => u = 0) [0] ((off b i : Int) + 1) (0 + (g.2.2.1 + g.2.2.2.1.2)) := Wl.step (.nil rfl) (hL i g hg _ ((dF h hg).2 (.inl rfl)))
    rw [Int.zero_add] at hw
    exact ⟨[0], by simpa using hw⟩
  | succ k ih =>
    intro hk
    obtain ⟨vs, hw⟩ := ih (by omega)
    have hw' := Wl.step hw (hL i g hg _ ((dF h hg).2 (.inr (.inr ⟨k, _, _, List.getElem?_eq_getElem (show k < _ by omega), List.getElem?_eq_getElem hk, .inl rfl⟩))))
    rw [Int.add_zero] at hw'
    have e : (off b i : Int) + ((k + 1 : Nat) : Int) + 1 = (off b i : Int) + k + 2 := by push_cast; omega
    exact ⟨_, by rw [e]; exact hw'⟩
 obtain ⟨vs, hw⟩ := key k hk
 exact ⟨vs, _, hw, by omega⟩
theorem Gr {L : List Lk} (h : cW b) (hL : GL b L) {v : Int} (h0 : 0 ≤ v) (h1 : v < ((bm b).length + 1 : Nat)) : ∃ vs d, Wl L (fun u => u = v) vs 0 d ∧ d ≤ 4503599627370496 := by
 by_cases hv : v = 0
 ·exact ⟨[], 0, .nil hv.symm, by omega⟩
 obtain ⟨i, g, k, hg, hk, rfl⟩ := LL (by omega) h1
 have hgm := List.mem_of_getElem? hg
 have hr := h.gaugeR hgm
 have r1 := hr.2.2.2.2.2.1
 have r2 := hr.2.2.2.2.2.2.1
 have hd := Pc h hgm
 have key : ∀ m : Nat, m ≤ k → ∃ vs d, Wl L (fun u => u = (off b i : Int) + k + 1) vs ((off b i : Int) + (k - m : Nat) + 1) d ∧ d ≤ m * (12 * (20001 * 1048576) + 40 * 1048576) := by
  intro m
  induction m with
  | zero => intro _; exact ⟨[], 0, .nil (by simp), by simp⟩
  | succ m ih =>
    intro hm
    obtain ⟨vs, d, hw, hd⟩ := ih (by omega)
    have e1 : ((k - m : Nat) : Int) = ((k - (m + 1) : Nat) : Int) + 1 := by omega
    have hl : (((off b i : Int) + (k - (m + 1) : Nat) + 2, (off b i : Int) + (k - (m + 1) : Nat) + 1, jf b g ((bO b g)[k - (m + 1)]'(by omega)) ((bO b g)[k - (m + 1) + 1]'(by omega))) : Lk) ∈ L :=
     hL i g hg _ ((dF h hg).2 (.inr (.inr ⟨k - (m + 1), _, _, List.getElem?_eq_getElem (by omega), List.getElem?_eq_getElem (by omega), .inr rfl⟩)))
    have hb := rW h hgm (f := (bO b g)[k - (m + 1)]'(by omega)) (t := (bO b g)[k - (m + 1) + 1]'(by omega)) (h.day hgm (List.getElem_mem _)).2.1
    have e2 : (off b i : Int) + (k - m : Nat) + 1 = (off b i : Int) + (k - (m + 1) : Nat) + 2 := by omega
    rw [e2] at hw
    exact ⟨_, _, .step hw hl, by push_cast; omega⟩
 obtain ⟨vs, d, hw, hdb⟩ := key k (Nat.le_refl _)
 have e : (off b i : Int) + (k - k : Nat) + 1 = (off b i : Int) + 1 := by omega
 rw [e] at hw
 have hw' := Wl.step hw (hL i g hg _ ((dF h hg).2 (.inr (.inl rfl))))
 exact ⟨_, _, hw', by omega⟩
theorem aao (h : cW b) {p : Int → Int} (hp : Pot (bB b) p) {v : Int} (h0 : 0 ≤ v) (h1 : v < ((bm b).length + 1 : Nat)) : -4503599627370496 ≤ p v - p 0 ∧ p v - p 0 ≤ 4503599627370496 := by
 obtain ⟨vs, d, hw, hd⟩ := SV h Gb h0 h1
 obtain ⟨ws, e, hx, he⟩ := Gr h Gb h0 h1
 obtain ⟨s, rfl, hs⟩ := hw.pot hp
 obtain ⟨t, rfl, ht⟩ := hx.pot hp
 omega
end
structure DN (L : List Lk) (N : Nat) : Prop where
 to : ∀ v : Int, 0 ≤ v → v < N → ∃ vs d, Wl L (fun u => u = 0) vs v d ∧ d ≤ 4503599627370496
 from' : ∀ v : Int, 0 ≤ v → v < N → ∃ vs d, Wl L (fun u => u = v) vs 0 d ∧ d ≤ 4503599627370496
theorem cW.tied {b : bH} (h : cW b) : DN (bB b) ((bm b).length + 1) := ⟨fun v h0 h1 => SV h Gb h0 h1, fun v h0 h1 => Gr h Gb h0 h1⟩
theorem cW.tiedL {b : bH} {L : List Lk} (h : cW b) (hL : GL b L) : DN L ((bm b).length + 1) := ⟨fun v h0 h1 => SV h hL h0 h1, fun v h0 h1 => Gr h hL h0 h1⟩
section
variable {L : List Lk} {N : Nat}
theorem QA {L : List Lk} {s : Int} {vs : List Int} {v d : Int} : Wl L (fun v => X4 s v = true) vs v d ↔ Wl L (fun u => u = s) vs v d :=
 ⟨fun h => h.mono fun u hu => by simpa [X4] using hu, fun h => h.mono fun u hu => by simpa [X4] using hu⟩
theorem Xd (h : fN L N) (ht : DN L N) (ho : dC L N = true) {v : Int} (h0 : 0 ≤ v) (h1 : v < N) : gv (mc L N 0) v ≤ 4503599627370496 := by
 have h2 := h.n60
 have h3 := h.n1
 obtain ⟨p, hp⟩ := (d9 h.links (by omega)).1 ho
 obtain ⟨vs, d, hw, hd⟩ := ht.to v h0 h1
 have := (iw h.links (by omega) hp (s := 0) ⟨by omega, by omega⟩).low v vs d (QA.2 hw)
 omega
theorem Xc (h : fN L N) (ht : DN L N) (ho : dC L N = true) {v : Int} (h0 : 0 ≤ v) (h1 : v < N) : gv (mc L N v) 0 ≤ 4503599627370496 := by
 have h2 := h.n60
 have h3 := h.n1
 obtain ⟨p, hp⟩ := (d9 h.links (by omega)).1 ho
 obtain ⟨vs, d, hw, hd⟩ := ht.from' v h0 h1
 have := (iw h.links (by omega) hp (s := v) ⟨h0, h1⟩).low 0 vs d (QA.2 hw)
 omega
theorem UA (h : fN L N) (ho : dC L N = true) {v : Int} (h0 : 0 ≤ v) (h1 : v < N) : gv (mc L N v) v = 0 := by
 have h2 := h.n60
 obtain ⟨p, hp⟩ := (d9 h.links (by omega)).1 ho
 have hd := iw h.links (by omega) hp (s := v) ⟨h0, h1⟩
 have h3 := hd.low v [] 0 (.nil (by simp [X4]))
 obtain ⟨vs, hw⟩ := hd.att v h0 h1 (by unfold fP; omega)
 obtain ⟨s, hs, hx⟩ := (QA.1 hw).pot hp
 subst hs
 omega
end
theorem Xb {b : bH} : ∀ i, i ≤ b.2.2.2.2.1.length → ((b.2.2.2.2.1.take i).flatMap (cu b)).length = 2 * i ∧ (((b.2.2.2.2.1.take i).mapIdx fun i _ => [((3 : Int), (i : Int)), ((3 : Int), (i : Int))]).flatten).length = 2 * i := by
 intro i
 induction i with
 | zero => intro _; simp
 | succ i ih =>
   intro hi
   have ih := ih (by omega)
   have hg : b.2.2.2.2.1[i]? = some b.2.2.2.2.1[i] := List.getElem?_eq_getElem hi
   rw [ki _ hg, take_succ hg, List.flatMap_append, List.flatten_append, List.length_append, List.length_append]
   simp only [List.flatMap_cons, List.flatMap_nil, List.append_nil, List.flatten_cons, List.flatten_nil, cu, List.length_cons, List.length_nil]
   omega
end Go.Proofs.ZzM
end
noncomputable section
namespace Go.Proofs.ZzM
open Go Go.Am
section
variable {L : List Lk} {N : Nat}
theorem BZ (h : fN L N) : cD ((N : Int), L) = some (dC L N, 0) := by
 have h2 := h.n60
 unfold cD pn
 rw [iI h, aZ]
 dsimp only
 rw [bz (by rfl), qN h.links h.n1 (by omega), aZ]
 cases dC L N <;> rfl
end
end Go.Proofs.ZzM
end
noncomputable section
namespace Go.Proofs.ZzM
open Go Go.Am
def ic (b : bH) (n : Int × Int) : bH × Int := if lT b n.1 n.2 ≠ 0 then (b, 0) else if bN (jx b n) ≠ 0 then (kP, bN (jx b n)) else (jx b n, 0)
def eO : bH → List (Int × Int) → bH × Int
 | b, [] => (b, 0)
 | b, n :: t => if (ic b n).2 ≠ 0 then (kP, (ic b n).2) else eO (ic b n).1 t
def dg (b : bH) (ns : List (Int × Int)) : bH × Int :=
 if bN b ≠ 0 then (kP, bN b) else if (eO b ns).2 ≠ 0 then (kP, (eO b ns).2) else
 if dC (bB (eO b ns).1) ((bm (eO b ns).1).length + 1) then ((eO b ns).1, 0) else (kP, 9)
theorem PQ {b : bH} (h : cW b) {n : Int × Int} (e : (ic b n).2 = 0) : cW (ic b n).1 := by
 unfold ic at e ⊢
 split
 ·exact h
 ·rename_i h1
  rw [if_neg h1] at e
  split
  ·rename_i h2
   rw [if_pos h2] at e
   exact absurd e h2
  ·rename_i h2
   exact (bE _).1 (by simpa using h2)
theorem SX {b : bH} {n : Int × Int} (e : (ic b n).2 = 0) : (ic b n).1.2.1 = b.2.1 := by
 unfold ic at e ⊢
 split
 ·rfl
 ·rename_i h1
  rw [if_neg h1] at e
  split
  ·rename_i h2
   rw [if_pos h2] at e
   exact absurd e h2
  ·rfl
theorem ze : ∀ {ns : List (Int × Int)} {b : bH}, cW b → (eO b ns).2 = 0 → cW (eO b ns).1
 | [], b, h, _ => h
 | n :: t, b, h, e => by
   unfold eO at e ⊢
   split
   ·rename_i h1; rw [if_pos h1] at e; exact absurd e h1
   ·rename_i h1
    rw [if_neg h1] at e
    exact ze (PQ h (by simpa using h1)) e
theorem mZ : ∀ {ns : List (Int × Int)} {b : bH}, (eO b ns).2 = 0 → (eO b ns).1.2.1 = b.2.1
 | [], b, _ => rfl
 | n :: t, b, e => by
   unfold eO at e ⊢
   split
   ·rename_i h1; rw [if_pos h1] at e; exact absurd e h1
   ·rename_i h1
    rw [if_neg h1] at e
    rw [mZ e, SX (by simpa using h1)]
theorem cW.inn {b : bH} (h : cW b) (hn : ∀ g ∈ b.2.1, I64 g.2.2.2.2.1.1) : In b := ⟨h.size, hn⟩
theorem ix {b : bH} (h : cW b) : Py b = ((((bm b).length : Int) + 1, bB b), eN b, 0) := by
 unfold Py
 rw [if_neg (by simp [(bE b).2 h])]
theorem nT {b : bH} (h : cW b) (n : Int × Int) : tg b n = if lT b n.1 n.2 = 0 then (0, 5) else (lT b n.1 n.2, 0) := by
 unfold tg
 rw [if_neg (by simp [(bE b).2 h])]
abbrev Flat : Type := Int × Int × List cg × List (Int × Int) × List Gk × List Cmp × List (Int × Int)
def flat (b : bH) : Flat := (b.1.1, b.1.2, b.2.1, b.2.2.1, b.2.2.2.1, b.2.2.2.2.1, b.2.2.2.2.2)
theorem sd (b : bH) : (((flat b).1, (flat b).2.1), (flat b).2.2) = b := rfl
section
variable {ρ : Type}
def ab6 (ns : List (Int × Int)) (E1 : Int × Flat → Option ρ) (K1 : Flat → Option ρ) (b : bH) : Option ρ :=
 bw (fun (v : Int × Flat) kk => cn (bK ns) ns v.1 v.2.1 v.2.2.1 v.2.2.2.1 v.2.2.2.2.1 v.2.2.2.2.2.1 v.2.2.2.2.2.2.1 v.2.2.2.2.2.2.2 (fun u1 u2 u3 u4 u5 u6 u7 u8 => kk (u1, u2, u3, u4, u5, u6, u7, u8)) (fun z => E1 z) (fun z => K1 z)) ((0 : Int), b.1.1, b.1.2, b.2.1, b.2.2.1, b.2.2.2.1, b.2.2.2.2.1, b.2.2.2.2.2)
theorem XQ {ns : List (Int × Int)} (hl : ns.length ≤ 1000) {E1 : Int × Flat → Option ρ} {K1 : Flat → Option ρ} (R : Int → Option ρ) (h1 : ∀ z, z.1 ≠ 0 → E1 z = R z.1) {b : bH} (hg : cW b) (hn : ∀ g ∈ b.2.1, I64 g.2.2.2.2.1.1) :
 ab6 ns E1 K1 b = if (eO b ns).2 ≠ 0 then R (eO b ns).2 else K1 (flat (eO b ns).1) := by
 unfold ab6
 refine F8 ns (fun (i : Nat) (s : Flat) (t : List (Int × Int)) => if (eO ((s.1, s.2.1), s.2.2) t).2 ≠ 0 then R (eO ((s.1, s.2.1), s.2.2) t).2 else K1 (flat (eO ((s.1, s.2.1), s.2.2) t).1))
  (fun i s => cW ((s.1, s.2.1), s.2.2) ∧ ∀ g ∈ s.2.2.1, I64 g.2.2.2.2.1.1) (fun s hs kn => ?_) (fun i n t s hd hi ha hs kn hk => ?_) (s := flat b) ⟨hg, hn⟩
 ·dsimp only
  unfold cn
  rw [bX]
  rfl
 ·dsimp only
  unfold cn
  obtain ⟨hs1, hs2⟩ := hs
  have hin : In ((s.1, s.2.1), s.2.2) := hs1.inn hs2
  rw [bC hi, gY hi, eT ha]
  rw [show dc ((s.1, s.2.1), s.2.2.1, s.2.2.2.1, s.2.2.2.2.1, s.2.2.2.2.2.1, s.2.2.2.2.2.2) n = dc ((s.1, s.2.1), s.2.2) n from rfl, qK hin, aZ]
  rw [show fm ((s.1, s.2.1), s.2.2.1, s.2.2.2.1, s.2.2.2.2.1, s.2.2.2.2.2.1, s.2.2.2.2.2.2) n = fm ((s.1, s.2.1), s.2.2) n from rfl, UF hin, aZ]
  rw [nT hs1]
  generalize hB : (((s.1, s.2.1), s.2.2) : bH) = B at hs1 hin ⊢
  have hu : eO B (n :: t) = if (ic B n).2 ≠ 0 then (kP, (ic B n).2) else eO (ic B n).1 t := rfl
  rw [hu]
  by_cases h0 : lT B n.1 n.2 = 0
  ·rw [if_pos h0, bz (by rfl)]
   by_cases h2 : bN (jx B n) = 0
   ·have e : ic B n = (jx B n, 0) := by unfold ic; rw [if_neg (by simp [h0]), if_neg (by simp [h2])]
    have e2 : FO B n = (jx B n, 0) := by unfold FO; rw [if_neg (by simp [(bE B).2 hs1]), if_neg (by simp [h2])]
    rw [e2, e, bz (by rfl), bv hi (by omega), if_neg (show ¬ ((0 : Int) ≠ 0) by simp)]
    subst hB
    exact hk (s.1, s.2.1, s.2.2.1, s.2.2.2.1, s.2.2.2.2.1, s.2.2.2.2.2.1, s.2.2.2.2.2.2 ++ [n]) ⟨(bE _).1 h2, hs2⟩
   ·have e : ic B n = (kP, bN (jx B n)) := by unfold ic; rw [if_neg (by simp [h0]), if_pos h2]
    have e2 : FO B n = (kP, bN (jx B n)) := by unfold FO; rw [if_neg (by simp [(bE B).2 hs1]), if_pos h2]
    rw [e2, e, bI (by simp [ine, h2]), if_pos h2, if_pos h2]
    exact h1 _ h2
  ·have e : ic B n = (B, 0) := by unfold ic; rw [if_pos h0]
   rw [if_neg h0, bI (by rfl), bv hi (by omega), e, if_neg (show ¬ ((0 : Int) ≠ 0) by simp)]
   subst hB
   exact hk s ⟨hs1, hs2⟩
theorem ob {b : bH} (hI : In b) {ns : List (Int × Int)} (hl : ns.length ≤ 1000) {E0 : Int → Option ρ} {E1 : Int × Flat → Option ρ} {E2 : Flat → Sys × List (Int × Int) × Int → Option ρ} {E3 : Flat → Sys × List (Int × Int) × Int → Bool × Int → Option ρ}
 {K : Flat → Sys × List (Int × Int) × Int → Bool × Int → Option ρ} (R : Int → Option ρ) (h0 : ∀ e, e ≠ 0 → E0 e = R e) (h1 : ∀ z, z.1 ≠ 0 → E1 z = R z.1) (h3 : ∀ z s r, E3 z s r = R 9) :
 bf (b9 b) (fun r1 => ifb (ine r1 (0 : Int)) (E0 r1) (ab6 ns E1 (fun z8 => bf (df ((z8.1, z8.2.1), z8.2.2)) fun r9 => ifb (ine r9.2.2 (0 : Int)) (E2 z8 r9) (bf (cD r9.1) fun r10 => ifb (!r10.1) (E3 z8 r9 r10) (K z8 r9 r10))) b)) =
 if (dg b ns).2 ≠ 0 then R (dg b ns).2 else K (flat (dg b ns).1) ((((bm (dg b ns).1).length : Int) + 1, bB (dg b ns).1), eN (dg b ns).1, 0) (true, 0) := by
 rw [gQ hI.size hI.num, aZ]
 unfold dg
 by_cases hc : bN b = 0
 ·have hg := (bE b).1 hc
  rw [bz (by simp [ine, hc]), if_neg (show ¬ (bN b ≠ 0) from fun h => h hc), XQ hl R h1 hg hI.num]
  by_cases hr : (eO b ns).2 = 0
  ·rw [if_neg (show ¬ ((eO b ns).2 ≠ 0) from fun h => h hr), if_neg (show ¬ ((eO b ns).2 ≠ 0) from fun h => h hr)]
   have hB := ze hg hr
   have hBn : ∀ g ∈ (eO b ns).1.2.1, I64 g.2.2.2.2.1.1 := by rw [mZ hr]; exact hI.num
   generalize (eO b ns).1 = B at hB hBn ⊢
   rw [sd, nS (hB.inn hBn), aZ, ix hB, bz (by rfl)]
   dsimp only
   rw [show (((bm B).length : Int) + 1) = (((bm B).length + 1 : Nat) : Int) by push_cast; rfl, BZ hB.sys, aZ]
   cases ho : dC (bB B) ((bm B).length + 1) with
   | true =>
     rw [if_neg (by simp)]
     simp only [Bool.not_true, b7]
     push_cast
     rfl
   | false =>
     rw [if_pos (by simp)]
     simp only [Bool.not_false, eD]
     rw [h3]
     rfl
  ·rw [if_pos hr, if_pos hr, if_pos hr]
 ·rw [bI (by simp [ine, hc]), h0 _ hc, if_pos hc, if_pos hc]
end
end Go.Proofs.ZzM
end
noncomputable section
namespace Go.Proofs.ZzM
open Go Go.Am
def ST (b : bH) (id day : Int) : Bool := b.2.2.1.any fun u => u.1 == id && u.2 == day
def Za (b : bH) (g : cg) (d : Int) : Int := match FN b g.1 d with | some l => l.2.2 | none => if ST b g.1 d then g.2.2.2.2.2 else 0
theorem Yv (l : Gk) (id : Int) {f t : Int} (hft : f ≤ t) : (if l.1 = id ∧ 0 < cJ l f (t + 1) then cJ l f (t + 1) * l.2.2 else 0) = (if l.1 = id ∧ 0 < cJ l f t then cJ l f t * l.2.2 else 0) + (if l.1 = id ∧ l.2.1.1 ≤ t ∧ t ≤ l.2.1.2 then l.2.2 else 0) := by
 by_cases hid : l.1 = id
 ·by_cases h1 : l.2.1.1 ≤ t ∧ t ≤ l.2.1.2
  ·have e : cJ l f (t + 1) = cJ l f t + 1 := by unfold cJ; omega
   have p : 0 ≤ cJ l f t := by unfold cJ; omega
   rw [e, if_pos ⟨hid, by omega⟩, if_pos (show l.1 = id ∧ l.2.1.1 ≤ t ∧ t ≤ l.2.1.2 from ⟨hid, h1⟩), Int.add_mul, Int.one_mul]
   by_cases hp : 0 < cJ l f t
   ·rw [if_pos ⟨hid, hp⟩]
   ·rw [if_neg (fun h => hp h.2)]
    have : cJ l f t = 0 := by omega
    rw [this]
    omega
  ·rw [if_neg (show ¬ (l.1 = id ∧ l.2.1.1 ≤ t ∧ t ≤ l.2.1.2) from fun h => h1 h.2), Int.add_zero]
   by_cases hlo : l.2.1.1 ≤ t
   ·have e : cJ l f (t + 1) = cJ l f t := by unfold cJ; omega
    rw [e]
   ·have p1 : ¬ 0 < cJ l f (t + 1) := by unfold cJ; omega
    have p2 : ¬ 0 < cJ l f t := by unfold cJ; omega
    rw [if_neg (fun h => p1 h.2), if_neg (fun h => p2 h.2)]
 ·rw [if_neg (fun h => hid h.1), if_neg (fun h => hid h.1), if_neg (fun h => hid h.1)]
  rfl
theorem L7 (id : Int) {f t : Int} (hft : f ≤ t) : ∀ {x : List Gk}, x.Pairwise (fun a c => ¬ (a.1 = c.1 ∧ a.2.1.1 ≤ c.2.1.2 ∧ c.2.1.1 ≤ a.2.1.2)) →
 du id f (t + 1) x = du id f t x + (match x.find? (fun l => l.1 == id && inP t l.2.1.1 l.2.1.2) with | some l => l.2.2 | none => 0)
 | [], _ => rfl
 | l :: r, hp => by
   rw [List.pairwise_cons] at hp
   have ih := L7 id hft hp.2
   simp only [du]
   rw [ih, Yv l id hft, List.find?_cons]
   by_cases hm : l.1 = id ∧ l.2.1.1 ≤ t ∧ t ≤ l.2.1.2
   ·have e : (l.1 == id && inP t l.2.1.1 l.2.1.2) = true := by simp [inP, hm.1, hm.2.1, hm.2.2]
    have hn : r.find? (fun l => l.1 == id && inP t l.2.1.1 l.2.1.2) = none := by
     rw [List.find?_eq_none]
     intro c hc hcm
     simp only [inP, Bool.and_eq_true, beq_iff_eq, decide_eq_true_eq] at hcm
     exact hp.1 c hc ⟨by rw [hm.1, hcm.1], by omega, by omega⟩
    rw [if_pos hm, e, hn]
    simp only
    omega
   ·have e : (l.1 == id && inP t l.2.1.1 l.2.1.2) = false := by
     rw [Bool.eq_false_iff]
     intro h
     simp only [inP, Bool.and_eq_true, beq_iff_eq, decide_eq_true_eq] at h
     exact hm h
    rw [if_neg hm, e]
    simp only
    omega
section
variable {b : bH}
theorem cW.apart (h : cW b) : b.2.2.2.1.Pairwise (fun a c => ¬ (a.1 = c.1 ∧ a.2.1.1 ≤ c.2.1.2 ∧ c.2.1.1 ≤ a.2.1.2)) := by
 rw [List.pairwise_iff_getElem]
 intro i j hi hj hij ⟨h1, h2, h3⟩
 have hz := h.loans j _ (List.getElem?_eq_getElem hj)
 unfold T4 at hz
 have hany : (b.2.2.2.1.take j).any (fun x => x.1 == b.2.2.2.1[j].1 && (decide (x.2.1.1 ≤ b.2.2.2.1[j].2.1.2) && decide (b.2.2.2.1[j].2.1.1 ≤ x.2.1.2))) = true := by
  rw [List.any_eq_true]
  exact ⟨b.2.2.2.1[i], List.mem_iff_getElem.2 ⟨i, by rw [List.length_take]; omega, by rw [List.getElem_take]⟩, by simp [h1, h2, h3]⟩
 rw [hany] at hz
 (repeat' split at hz) <;> first | omega | simp_all
theorem cW.notUsed (h : cW b) {id d : Int} {l : Gk} (hl : FN b id d = some l) : ST b id d = false := by
 have hm := List.mem_of_find?_eq_some hl
 have hp := List.find?_some hl
 simp only [inP, Bool.and_eq_true, beq_iff_eq, decide_eq_true_eq] at hp
 obtain ⟨j, hj, rfl⟩ := List.mem_iff_getElem.1 hm
 have hz := h.loans j _ (List.getElem?_eq_getElem hj)
 rw [Bool.eq_false_iff]
 intro hu
 obtain ⟨u, hu, hue⟩ := List.any_eq_true.1 hu
 simp only [Bool.and_eq_true, beq_iff_eq] at hue
 have hany : b.2.2.1.any (fun u => u.1 == b.2.2.2.1[j].1 && inP u.2 b.2.2.2.1[j].2.1.1 b.2.2.2.1[j].2.1.2) = true := by
  rw [List.any_eq_true]
  exact ⟨u, hu, by simp only [inP, Bool.and_eq_true, beq_iff_eq, decide_eq_true_eq]; exact ⟨by rw [hue.1, hp.1], by omega, by omega⟩⟩
 unfold T4 at hz
 rw [hany] at hz
 (repeat' split at hz) <;> first | omega | simp_all
theorem PI {id f t : Int} (hft : f ≤ t) : SL (gX b id f (t + 1)) = SL (gX b id f t) ++ if ST b id t then [t] else [] := by
 have hm : ∀ t x, x ∈ gX b id f t ↔ ST b id x = true ∧ f ≤ x ∧ x < t := by
  intro t x
  unfold gX ST
  simp only [List.mem_map, List.mem_filter, List.any_eq_true, inP, Bool.and_eq_true, beq_iff_eq, decide_eq_true_eq]
  constructor
  ·rintro ⟨u, ⟨h1, h2, h3, h4⟩, rfl⟩
   exact ⟨⟨u, h1, h2, rfl⟩, h3, by omega⟩
  ·rintro ⟨⟨u, h1, h2, rfl⟩, h3, h4⟩
   exact ⟨u, ⟨h1, h2, h3, by omega⟩, rfl⟩
 refine acS (S7 _) ?_ fun x => ?_
 ·rw [List.pairwise_append]
  refine ⟨S7 _, by split <;> simp, fun a ha c hc => ?_⟩
  rw [vH, hm] at ha
  split at hc
  ·rw [List.mem_singleton] at hc; omega
  ·cases hc
 ·rw [vH, hm, List.mem_append, vH, hm]
  by_cases hu : ST b id t = true
  ·rw [if_pos hu, List.mem_singleton]
   constructor
   ·rintro ⟨h1, h2, h3⟩
    by_cases he : x = t
    ·exact .inr he
    ·exact .inl ⟨h1, h2, by omega⟩
   ·rintro (⟨h1, h2, h3⟩ | rfl)
    ·exact ⟨h1, h2, by omega⟩
    ·exact ⟨hu, hft, by omega⟩
  ·rw [if_neg hu]
   constructor
   ·rintro ⟨h1, h2, h3⟩
    refine .inl ⟨h1, h2, ?_⟩
    by_cases he : x = t
    ·rw [he] at h1; exact absurd h1 hu
    ·omega
   ·rintro (⟨h1, h2, h3⟩ | h)
    ·exact ⟨h1, h2, by omega⟩
    ·cases h
theorem RG (h : cW b) (g : cg) {f t : Int} (hft : f ≤ t) : jf b g f (t + 1) = jf b g f t + Za b g t := by
 unfold jf Za
 rw [L7 g.1 hft h.apart, PI hft]
 show du g.1 f t b.2.2.2.1 + (match FN b g.1 t with | some l => l.2.2 | none => 0) + _ = _
 cases ha : FN b g.1 t with
 | some l =>
   rw [h.notUsed ha]
   simp only [Bool.false_eq_true, if_false, List.append_nil]
   omega
 | none =>
   simp only
   cases ST b g.1 t with
   | true => simp only [if_true, List.length_append, List.length_singleton, Int.natCast_add, Int.add_mul]; omega
   | false => simp only [Bool.false_eq_true, if_false, List.append_nil]; omega
theorem RH (g : cg) {f t : Int} (hft : t ≤ f) : jf b g f t = 0 := by
 unfold jf
 have h1 : ∀ x : List Gk, du g.1 f t x = 0 := by
  intro x
  induction x with
  | nil => rfl
  | cons l r ih =>
    simp only [du]
    rw [ih, if_neg (by unfold cJ; omega)]
    rfl
 have h2 : gX b g.1 f t = [] := by
  unfold gX
  rw [List.filter_eq_nil_iff.2 fun u hu hc => by
   simp only [inP, Bool.and_eq_true, beq_iff_eq, decide_eq_true_eq] at hc
   omega]
  rfl
 rw [h1, h2]
 have h3 : SL ([] : List Int) = [] := rfl
 rw [h3]
 simp
end
end Go.Proofs.ZzM
end
noncomputable section
namespace Go.Proofs.ZzM
open Go Go.Am
section
variable {b : bH}
theorem F7 (h : cW b) (g : cg) {f t u : Int} (h1 : f ≤ t) (h2 : t ≤ u) : jf b g f u = jf b g f t + jf b g t u := by
 obtain ⟨n, rfl⟩ : ∃ n : Nat, u = t + n := ⟨(u - t).toNat, by omega⟩
 clear h2
 induction n with
 | zero => simp [RH]
 | succ n ih =>
   have e : t + ((n + 1 : Nat) : Int) = (t + n) + 1 := by omega
   rw [e, RG h g (show f ≤ t + (n : Int) by omega), RG h g (show t ≤ t + (n : Int) by omega), ih]
   omega
theorem yF (h : cW b) {g : cg} (hg : g ∈ b.2.1) {f t : Int} (hf : 0 ≤ f) : 0 ≤ jf b g f t := (rW h hg hf).1
def fA (b : bH) (id d : Int) : Int := match iN (bm b) id d with | some j => (j : Int) + 1 | none => 0
theorem od (h : cW b) {i : Nat} {g : cg} (hg : b.2.1[i]? = some g) {k : Nat} {d : Int} (hk : (bO b g)[k]? = some d) : fA b g.1 d = (off b i : Int) + k + 1 := by
 unfold fA
 rw [Ng h hg hk]
 simp only
 omega
structure nV (b : bH) (p : Int → Int) (g : cg) : Prop where
 hi : p (fA b g.1 g.2.1) ≤ p 0 + (g.2.2.1 + g.2.2.2.1.2)
 lo : p 0 + (g.2.2.1 + g.2.2.2.1.1) ≤ p (fA b g.1 g.2.1)
 down : ∀ d e, d ∈ bO b g → e ∈ bO b g → d ≤ e → p (fA b g.1 e) ≤ p (fA b g.1 d)
 loss : ∀ d e, d ∈ bO b g → e ∈ bO b g → d ≤ e → p (fA b g.1 d) ≤ p (fA b g.1 e) + jf b g d e
theorem mz (h : cW b) {i : Nat} {g : cg} (hg : b.2.1[i]? = some g) {p : Int → Int} : (∀ l ∈ de b g, p l.2.1 ≤ p l.1 + l.2.2) ↔ nV b p g := by
 have hgm := List.mem_of_getElem? hg
 obtain ⟨tl, htl⟩ := Sf h hgm
 have h0 : fA b g.1 g.2.1 = (off b i : Int) + 1 := by
  have := od h hg (k := 0) (d := g.2.1) (by rw [htl]; rfl)
  rw [this]
  omega
 constructor
 ·intro hl
  have e1 := hl _ ((dF h hg).2 (.inl rfl))
  have e2 := hl _ ((dF h hg).2 (.inr (.inl rfl)))
  simp only at e1 e2
  have step : ∀ (k : Nat) (d e : Int), (bO b g)[k]? = some d → (bO b g)[k + 1]? = some e → p (fA b g.1 e) ≤ p (fA b g.1 d) ∧ p (fA b g.1 d) ≤ p (fA b g.1 e) + jf b g d e := by
   intro k d e hd he
   have a1 := hl _ ((dF h hg).2 (.inr (.inr ⟨k, d, e, hd, he, .inl rfl⟩)))
   have a2 := hl _ ((dF h hg).2 (.inr (.inr ⟨k, d, e, hd, he, .inr rfl⟩)))
   simp only at a1 a2
   rw [od h hg hd, od h hg he]
   have e3 : (off b i : Int) + ((k + 1 : Nat) : Int) + 1 = (off b i : Int) + k + 2 := by omega
   rw [e3]
   exact ⟨by omega, a2⟩
  have pair : ∀ (n k : Nat) (d e : Int), (bO b g)[k]? = some d → (bO b g)[k + n]? = some e → p (fA b g.1 e) ≤ p (fA b g.1 d) ∧ p (fA b g.1 d) ≤ p (fA b g.1 e) + jf b g d e := by
   intro n
   induction n with
   | zero =>
     intro k d e hd he
     rw [Nat.add_zero, hd] at he
     cases he
     rw [RH g (Int.le_refl _)]
     omega
   | succ n ih =>
     intro k d e hd he
     have hlt := (List.getElem?_eq_some_iff.1 he).1
     have hm : (bO b g)[k + n]? = some ((bO b g)[k + n]'(by omega)) := List.getElem?_eq_getElem (by omega)
     obtain ⟨a1, a2⟩ := ih k d _ hd hm
     obtain ⟨a3, a4⟩ := step (k + n) _ e hm he
     have o1 : d ≤ (bO b g)[k + n]'(by omega) := by
      obtain ⟨hkl, hkd⟩ := List.getElem?_eq_some_iff.1 hd
      rcases Nat.eq_zero_or_pos n with rfl | hn
      ·rw [← hkd]; exact Int.le_of_eq (by congr 1)
      ·have := (List.pairwise_iff_getElem.1 (yR b g)) k (k + n) hkl (by omega) (by omega)
       rw [hkd] at this; omega
     have o2 : (bO b g)[k + n]'(by omega) ≤ e := by
      obtain ⟨hel, hee⟩ := List.getElem?_eq_some_iff.1 he
      have := (List.pairwise_iff_getElem.1 (yR b g)) (k + n) (k + (n + 1)) (by omega) hel (by omega)
      rw [hee] at this; omega
     have := F7 h g o1 o2
     omega
  have any : ∀ d e, d ∈ bO b g → e ∈ bO b g → d ≤ e → p (fA b g.1 e) ≤ p (fA b g.1 d) ∧ p (fA b g.1 d) ≤ p (fA b g.1 e) + jf b g d e := by
   intro d e hd he hde
   obtain ⟨k, hk, rfl⟩ := List.mem_iff_getElem.1 hd
   obtain ⟨m, hm, rfl⟩ := List.mem_iff_getElem.1 he
   have hkm : k ≤ m := by
    rcases Nat.lt_or_ge m k with hlt | hge
    ·have := (List.pairwise_iff_getElem.1 (yR b g)) m k hm hk hlt; omega
    ·exact hge
   exact pair (m - k) k _ _ (List.getElem?_eq_getElem hk) (by rw [show k + (m - k) = m by omega]; exact List.getElem?_eq_getElem hm)
  exact ⟨by rw [h0]; omega, by rw [h0]; omega, fun d e hd he hde => (any d e hd he hde).1, fun d e hd he hde => (any d e hd he hde).2⟩
 ·intro hf l hl
  rcases (dF h hg).1 hl with rfl | rfl | ⟨k, d, e, hd, he, rfl | rfl⟩
  ·have := hf.hi; rw [h0] at this; simp only; omega
  ·have := hf.lo; rw [h0] at this; simp only; omega
  ·have hde : d ≤ e := by
    obtain ⟨a1, a2⟩ := List.getElem?_eq_some_iff.1 hd
    obtain ⟨a3, a4⟩ := List.getElem?_eq_some_iff.1 he
    have := (List.pairwise_iff_getElem.1 (yR b g)) k (k + 1) a1 a3 (by omega)
    rw [a2, a4] at this; omega
   have := hf.down d e (List.mem_of_getElem? hd) (List.mem_of_getElem? he) hde
   rw [od h hg hd, od h hg he] at this
   have e3 : (off b i : Int) + ((k + 1 : Nat) : Int) + 1 = (off b i : Int) + k + 2 := by omega
   rw [e3] at this
   simp only
   omega
  ·have hde : d ≤ e := by
    obtain ⟨a1, a2⟩ := List.getElem?_eq_some_iff.1 hd
    obtain ⟨a3, a4⟩ := List.getElem?_eq_some_iff.1 he
    have := (List.pairwise_iff_getElem.1 (yR b g)) k (k + 1) a1 a3 (by omega)
    rw [a2, a4] at this; omega
   have := hf.loss d e (List.mem_of_getElem? hd) (List.mem_of_getElem? he) hde
   rw [od h hg hd, od h hg he] at this
   have e3 : (off b i : Int) + ((k + 1 : Nat) : Int) + 1 = (off b i : Int) + k + 2 := by omega
   rw [e3] at this
   simp only
   exact this
theorem M3 (h : cW b) {p : Int → Int} : Pot (bB b) p ↔ (∀ g ∈ b.2.1, nV b p g) ∧ ∀ c ∈ b.2.2.2.2.1, p (cx b c) ≤ p (cy b c) + (f8 b c).2 ∧ p (cy b c) + (f8 b c).1 ≤ p (cx b c) := by
 constructor
 ·intro hp
  refine ⟨fun g hg => ?_, fun c hc => ?_⟩
  ·obtain ⟨i, hi, rfl⟩ := List.mem_iff_getElem.1 hg
   exact (mz h (List.getElem?_eq_getElem hi)).1 fun l hl => hp l.1 l.2.1 l.2.2 (mP.2 (.inl ⟨i, _, List.getElem?_eq_getElem hi, hl⟩))
  ·have a1 := hp _ _ _ (mP.2 (.inr ⟨c, hc, .inl rfl⟩))
   have a2 := hp _ _ _ (mP.2 (.inr ⟨c, hc, .inr rfl⟩))
   omega
 ·rintro ⟨hg, hc⟩ u v m hl
  rcases mP.1 hl with ⟨i, g, hig, hl⟩ | ⟨c, hcm, hl⟩
  ·exact (mz h hig).2 (hg g (List.mem_of_getElem? hig)) (u, v, m) hl
  ·obtain ⟨a1, a2⟩ := hc c hcm
   rcases hl with hl | hl
   ·obtain ⟨rfl, rfl, rfl⟩ : u = cy b c ∧ v = cx b c ∧ m = (f8 b c).2 := by simpa using hl
    exact a1
   ·obtain ⟨rfl, rfl, rfl⟩ : u = cx b c ∧ v = cy b c ∧ m = -(f8 b c).1 := by simpa using hl
    omega
end
end Go.Proofs.ZzM
end
noncomputable section
namespace Go.Proofs.ZzM
open Go Go.Am
def abI : List Int → Int
 | [] => 0
 | [a] => a
 | a :: b :: t => max a (abI (b :: t))
theorem QH : ∀ {l : List Int}, l ≠ [] → (∀ a ∈ l, a ≤ abI l) ∧ abI l ∈ l
 | [], h => absurd rfl h
 | [a], _ => ⟨fun x hx => by rw [List.mem_singleton] at hx; rw [hx]; exact Int.le_refl _, by simp [abI]⟩
 | a :: b :: t, _ => by
   obtain ⟨h1, h2⟩ := QH (l := b :: t) (by simp)
   have e : abI (a :: b :: t) = max a (abI (b :: t)) := rfl
   rw [e]
   constructor
   ·intro x hx
    rcases List.mem_cons.1 hx with rfl | hx
    ·omega
    ·have := h1 x hx; omega
   ·rcases Int.le_total a (abI (b :: t)) with h | h
    ·rw [Int.max_eq_right h]; exact List.mem_cons_of_mem _ h2
    ·rw [Int.max_eq_left h]; exact List.mem_cons_self
section
variable {b : bH}
def LC (b : bH) (f : Int → Int → Int) (z : Int) (v : Int) : Int := if v = 0 then z else match (bm b)[(v - 1).toNat]? with | some n => f n.1 n.2 | none => 0
theorem m6 (f : Int → Int → Int) (z : Int) : LC b f z 0 = z := by unfold LC; rw [if_pos rfl]
theorem zf (h : cW b) (f : Int → Int → Int) (z : Int) {g : cg} (hg : g ∈ b.2.1) {d : Int} (hd : d ∈ bO b g) : LC b f z (fA b g.1 d) = f g.1 d := by
 obtain ⟨i, hi, rfl⟩ := List.mem_iff_getElem.1 hg
 obtain ⟨k, hk, rfl⟩ := List.mem_iff_getElem.1 hd
 have hgi := List.getElem?_eq_getElem hi
 have hdk := List.getElem?_eq_getElem hk
 rw [od h hgi hdk]
 unfold LC
 have e : ((off b i : Int) + k + 1 - 1).toNat = off b i + k := by omega
 rw [if_neg (by omega), e, aax hgi hdk]
def FM (b : bH) (l : List Int) (d : Int) : Int := match l with | [] => 0 | x :: _ => fA b x d
theorem VT (l : List Int) (d : Int) : atP (bm b) l d = FM b l d := by
 unfold atP FM fA
 cases l <;> rfl
theorem DA (c : Cmp) : cx b c = FM b (cB c.2.2.1 c.2.2.2.1) c.2.1 := VT _ _
theorem Dz (c : Cmp) : cy b c = FM b (cB c.2.2.2.1 c.2.2.1) c.2.1 := VT _ _
theorem my (h : cW b) {c : Cmp} (hc : c ∈ b.2.2.2.2.1) {x : Int} (hx : x ∈ cB c.2.2.1 c.2.2.2.1 ∨ x ∈ cB c.2.2.2.1 c.2.2.1) : ∃ g ∈ b.2.1, g.1 = x ∧ c.2.1 ∈ bO b g := by
 have hx' : (x ∈ c.2.2.1 ∧ x ∉ c.2.2.2.1) ∨ (x ∈ c.2.2.2.1 ∧ x ∉ c.2.2.1) := by
  rcases hx with hx | hx
  ·exact .inl (lJ.1 hx)
  ·exact .inr (lJ.1 hx)
 have hm : x ∈ c.2.2.1 ++ c.2.2.2.1 := by rw [List.mem_append]; exact hx'.imp (·.1) (·.1)
 obtain ⟨⟨g, hg, _⟩, _⟩ := h.pile hc hm
 obtain ⟨hgm, hid⟩ := oP hg
 refine ⟨g, hgm, hid, lP.2 (.inr (.inl ⟨c, hc, ?_, rfl⟩))⟩
 rw [hid]
 intro he
 rw [Bool.eq_iff_iff, List.contains_iff_mem, List.contains_iff_mem] at he
 rcases hx' with ⟨a, e⟩ | ⟨a, e⟩
 ·exact e (he.1 a)
 ·exact e (he.2 a)
def fill (b : bH) (p : Int → Int) (g : cg) (d : Int) : Int := abI ((bO b g).map fun e => if d ≤ e then p (fA b g.1 e) else p (fA b g.1 e) - jf b g e d)
theorem I5 {p : Int → Int} {g : cg} (d : Int) : (∀ e ∈ bO b g, (if d ≤ e then p (fA b g.1 e) else p (fA b g.1 e) - jf b g e d) ≤ fill b p g d) ∧ ∃ e ∈ bO b g, fill b p g d = if d ≤ e then p (fA b g.1 e) else p (fA b g.1 e) - jf b g e d := by
 have hne : ((bO b g).map fun e => if d ≤ e then p (fA b g.1 e) else p (fA b g.1 e) - jf b g e d) ≠ [] := by
  intro h
  have := List.map_eq_nil_iff.1 h
  have h2 := la (b := b) g
  rw [this] at h2
  cases h2
 obtain ⟨h1, h2⟩ := QH hne
 refine ⟨fun e he => h1 _ (List.mem_map.2 ⟨e, he, rfl⟩), ?_⟩
 obtain ⟨e, he, hx⟩ := List.mem_map.1 h2
 exact ⟨e, he, hx.symm⟩
theorem Gc (h : cW b) {p : Int → Int} {g : cg} (hg : g ∈ b.2.1) (hf : nV b p g) {d : Int} (hd : d ∈ bO b g) : fill b p g d = p (fA b g.1 d) := by
 obtain ⟨h1, e, he, h2⟩ := I5 (b := b) (p := p) (g := g) d
 have h3 := h1 d hd
 rw [if_pos (Int.le_refl _)] at h3
 have h4 : fill b p g d ≤ p (fA b g.1 d) := by
  rw [h2]
  split
  ·rename_i hde
   exact hf.down d e hd he hde
  ·rename_i hde
   have := hf.loss e d he hd (by omega)
   omega
 omega
theorem Bz (h : cW b) {p : Int → Int} {g : cg} (hg : g ∈ b.2.1) (hf : nV b p g) {d e : Int} (h0 : g.2.1 ≤ d) (hde : d ≤ e) : fill b p g e ≤ fill b p g d ∧ fill b p g d ≤ fill b p g e + jf b g d e := by
 obtain ⟨a1, x, hx, a2⟩ := I5 (b := b) (p := p) (g := g) d
 obtain ⟨b1, y, hy, b2⟩ := I5 (b := b) (p := p) (g := g) e
 have hm := (h.gaugeR hg).2.2.2.2.1
 have hl := yF h hg (f := d) (t := e) (by omega)
 have dx := h.day hg hx
 have dy := h.day hg hy
 constructor
 ·have q := a1 y hy
  rw [b2]
  by_cases c1 : e ≤ y
  ·rw [if_pos c1]
   rw [if_pos (by omega)] at q
   exact q
  ·rw [if_neg c1]
   by_cases c2 : d ≤ y
   ·rw [if_pos c2] at q
    have := yF h hg (f := y) (t := e) dy.2.1
    omega
   ·rw [if_neg c2] at q
    have := F7 h g (f := y) (t := d) (u := e) (by omega) hde
    omega
 ·have q := b1 x hx
  rw [a2]
  by_cases c1 : d ≤ x
  ·rw [if_pos c1]
   by_cases c2 : e ≤ x
   ·rw [if_pos c2] at q
    omega
   ·rw [if_neg c2] at q
    have := F7 h g (f := d) (t := x) (u := e) c1 (by omega)
    have := yF h hg (f := d) (t := x) (by omega)
    omega
  ·rw [if_neg c1]
   rw [if_neg (by omega)] at q
   have := F7 h g (f := x) (t := d) (u := e) (by omega) hde
   omega
end
end Go.Proofs.ZzM
end