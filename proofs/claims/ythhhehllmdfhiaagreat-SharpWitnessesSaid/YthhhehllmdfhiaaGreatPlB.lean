/- lemmas -/
import Derived.Test.YthhhehllmdfhiaaGreatPlA
import Derived.Test.YthhhehllmdfhiaaGreatMdTA
set_option linter.all false
set_option linter.unusedSectionVars false
set_option linter.unusedVariables false
set_option linter.unusedSimpArgs false
noncomputable section
namespace Go.Proofs.ZzM
open Go Go.Am
section
variable {b : acw} {c : Cmp}
theorem aMD : acO (acD b c) = (acD b c).2.1.flatMap (adt (acD b c)) ++ b.2.2.2.2.1.flatMap (ac3 (acD b c)) := by
 unfold acO
 have e : acn (acD b c) = ((acD b c).2.1.flatMap (adt (acD b c)) ++ b.2.2.2.2.1.flatMap (ac3 (acD b c))) ++ ac3 (acD b c) c := by
  unfold acn
  rw [show (acD b c).2.2.2.2.1 = b.2.2.2.2.1 ++ [c] from rfl, List.flatMap_append, List.append_assoc]
  simp
 rw [e, List.length_append, show (ac3 (acD b c) c).length = 2 from rfl, Nat.add_sub_cancel, List.take_left]
theorem azs (h' : ads (acD b c)) {p : Int → Int} : Pot (acO (acD b c)) p ↔ (∀ g ∈ b.2.1, akA (acD b c) p g) ∧ ∀ d ∈ b.2.2.2.2.1, p (cx (acD b c) d) ≤ p (cy (acD b c) d) + (afn b d).2 ∧ p (cy (acD b c) d) + (afn b d).1 ≤ p (cx (acD b c) d) := by
 rw [aMD]
 constructor
 ·intro hp
  refine ⟨fun g hg => ?_, fun d hd => ?_⟩
  ·obtain ⟨i, hi, rfl⟩ := List.mem_iff_getElem.1 hg
   exact (ajy h' (i := i) (List.getElem?_eq_getElem hi)).1 fun l hl => hp l.1 l.2.1 l.2.2 (List.mem_append.2 (.inl (List.mem_flatMap.2 ⟨_, List.getElem_mem hi, hl⟩)))
  ·have a1 := hp (cy (acD b c) d) (cx (acD b c) d) (afn (acD b c) d).2 (List.mem_append.2 (.inr (List.mem_flatMap.2 ⟨d, hd, by simp [ac3]⟩)))
   have a2 := hp (cx (acD b c) d) (cy (acD b c) d) (-(afn (acD b c) d).1) (List.mem_append.2 (.inr (List.mem_flatMap.2 ⟨d, hd, by simp [ac3]⟩)))
   have e : afn (acD b c) d = afn b d := rfl
   rw [e] at a1 a2
   omega
 ·rintro ⟨hg, hc⟩ u v m hl
  rcases List.mem_append.1 hl with hl | hl
  ·obtain ⟨g, hgm, hl⟩ := List.mem_flatMap.1 hl
   obtain ⟨i, hi, rfl⟩ := List.mem_iff_getElem.1 hgm
   exact (ajy h' (i := i) (List.getElem?_eq_getElem hi)).2 (hg _ hgm) (u, v, m) hl
  ·obtain ⟨d, hd, hl⟩ := List.mem_flatMap.1 hl
   obtain ⟨a1, a2⟩ := hc d hd
   have e : afn (acD b c) d = afn b d := rfl
   simp only [ac3, List.mem_cons, List.not_mem_nil, or_false, e] at hl
   rcases hl with hl | hl
   ·obtain ⟨rfl, rfl, rfl⟩ : u = cy (acD b c) d ∧ v = cx (acD b c) d ∧ m = (afn b d).2 := by simpa using hl
    exact a1
   ·obtain ⟨rfl, rfl, rfl⟩ : u = cx (acD b c) d ∧ v = cy (acD b c) d ∧ m = -(afn b d).1 := by simpa using hl
    omega
theorem amE {g : acS} {d : Int} (hd : d ∈ acB b g) : d ∈ acB (acD b c) g := by
 rcases ai5.1 hd with e | ⟨x, hx, h1, h2⟩ | hn
 ·exact ai5.2 (.inl e)
 ·exact ai5.2 (.inr (.inl ⟨x, List.mem_append.2 (.inl hx), h1, h2⟩))
 ·exact ai5.2 (.inr (.inr hn))
theorem aQM (g : acS) (f t : Int) : ag6 (acD b c) g f t = ag6 b g f t := rfl
theorem axa {b' : acw} (h' : ads b') {l : List Int} {day : Int} (f : Int → Int → Int) (z : Int) (hl : ∀ x ∈ l, ∃ g ∈ b'.2.1, g.1 = x ∧ day ∈ acB b' g) : aEy b' f z (ay4 b' l day) = match l with | [] => z | x :: _ => f x day := by
 unfold ay4
 cases l with
 | nil => exact ajZ f z
 | cons x t =>
   obtain ⟨g, hg, rfl, hd⟩ := hl x (by simp)
   exact as2 h' f z hg hd
theorem aQq (h : ads b) (h' : ads (acD b c)) : (∃ p, Pot (acn b) p) ↔ ∃ p, Pot (acO (acD b c)) p := by
 constructor
 ·rintro ⟨p, hp⟩
  obtain ⟨hg, hc⟩ := (aFU h).1 hp
  let f : Int → Int → Int := fun id d => match ahM b id with | some g => fill b p g d | none => 0
  have hfv : ∀ g ∈ b.2.1, ∀ d, f g.1 d = fill b p g d := fun g hgm d => by
   show (match ahM b g.1 with | some g => fill b p g d | none => 0) = _
   rw [asI h.ids hgm]
  have hq : ∀ g ∈ b.2.1, ∀ d ∈ acB (acD b c) g, aEy (acD b c) f (p 0) (aeS (acD b c) g.1 d) = fill b p g d := fun g hgm d hd => by
   rw [as2 h' f (p 0) hgm hd, hfv g hgm d]
  refine ⟨aEy (acD b c) f (p 0), (azs h').2 ⟨fun g hgm => ?_, fun d hd => ?_⟩⟩
  ·have gf := hg g hgm
   have hmade : g.2.1 ∈ acB b g := aiE g
   have e0 := hq g hgm g.2.1 (aiE g)
   rw [azu h hgm gf hmade] at e0
   refine ⟨?_, ?_, fun x y hx hy hxy => ?_, fun x y hx hy hxy => ?_⟩
   ·rw [e0, ajZ]; exact gf.hi
   ·rw [e0, ajZ]; exact gf.lo
   ·rw [hq g hgm x hx, hq g hgm y hy]
    exact (avd h hgm gf (h'.day hgm hx).1 hxy).1
   ·rw [hq g hgm x hx, hq g hgm y hy, aQM]
    exact (avd h hgm gf (h'.day hgm hx).1 hxy).2
  ·have key : ∀ l : List Int, (∀ x ∈ l, ∃ g ∈ b.2.1, g.1 = x ∧ d.2.1 ∈ acB b g) → aEy (acD b c) f (p 0) (ay4 (acD b c) l d.2.1) = p (ay4 b l d.2.1) := by
    intro l hl
    rw [axa h' f (p 0) (fun x hx => by obtain ⟨g, q1, q2, q3⟩ := hl x hx; exact ⟨g, q1, q2, amE q3⟩)]
    cases l with
    | nil => rfl
    | cons x t =>
      obtain ⟨g, q1, rfl, q3⟩ := hl x (by simp)
      show f g.1 d.2.1 = p (aeS b g.1 d.2.1)
      rw [hfv g q1, azu h q1 (hg g q1) q3]
   rw [aw2, aw1, key _ (fun x hx => ajw h hd (.inl hx)), key _ (fun x hx => ajw h hd (.inr hx)), ← aw2, ← aw1]
   exact hc d hd
 ·rintro ⟨p, hp⟩
  obtain ⟨hg, hc⟩ := (azs h').1 hp
  let f : Int → Int → Int := fun id d => p (aeS (acD b c) id d)
  have hq : ∀ g ∈ b.2.1, ∀ d ∈ acB b g, aEy b f (p 0) (aeS b g.1 d) = p (aeS (acD b c) g.1 d) := fun g hgm d hd => as2 h f (p 0) hgm hd
  refine ⟨aEy b f (p 0), (aFU h).2 ⟨fun g hgm => ?_, fun d hd => ?_⟩⟩
  ·have gf := hg g hgm
   have e0 := hq g hgm g.2.1 (aiE g)
   refine ⟨?_, ?_, fun x y hx hy hxy => ?_, fun x y hx hy hxy => ?_⟩
   ·rw [e0, ajZ]; exact gf.hi
   ·rw [e0, ajZ]; exact gf.lo
   ·rw [hq g hgm x hx, hq g hgm y hy]
    exact gf.down x y (amE hx) (amE hy) hxy
   ·rw [hq g hgm x hx, hq g hgm y hy]
    exact gf.loss x y (amE hx) (amE hy) hxy
  ·have key : ∀ l : List Int, (∀ x ∈ l, ∃ g ∈ b.2.1, g.1 = x ∧ d.2.1 ∈ acB b g) → aEy b f (p 0) (ay4 b l d.2.1) = p (ay4 (acD b c) l d.2.1) := by
    intro l hl
    rw [axa h f (p 0) hl]
    cases l <;> rfl
   rw [aw2, aw1, key _ (fun x hx => ajw h hd (.inl hx)), key _ (fun x hx => ajw h hd (.inr hx)), ← aw2, ← aw1]
   exact hc d hd
end
end Go.Proofs.ZzM
end
noncomputable section
namespace Go.Proofs.ZzM
open Go Go.Am
section
variable {L : List Lk} {N : Nat}
theorem Wl.app {u v : Int} {vs : List Int} {d : Int} (h1 : Wl L (fun x => x = u) vs v d) {ws : List Int} {w e : Int} (h2 : Wl L (fun x => x = v) ws w e) : ∃ xs, Wl L (fun x => x = u) xs w (d + e) := by
 induction h2 with
 | nil h => subst h; exact ⟨vs, by rw [Int.add_zero]; exact h1⟩
 | step hw hx ih =>
   obtain ⟨xs, hi⟩ := ih
   have := Wl.step hi hx
   rw [Int.add_assoc] at this
   exact ⟨_, this⟩
def dst (L : List Lk) (N : Nat) (s t : Int) : Int := gv (ad2 L N s) t
theorem aRr (h : afe L N) (ht : aqP L N) (ho : adR L N = true) {s t : Int} (hs : 0 ≤ s ∧ s < N) (hv : 0 ≤ t ∧ t < N) : dst L N s t ≤ 9007199254740992 := by
 have h2 := h.n60
 obtain ⟨p, hp⟩ := (aep h.links (by omega)).1 ho
 obtain ⟨vs, d, hw, hd⟩ := ht.from' s hs.1 hs.2
 obtain ⟨ws, e, hx, he⟩ := ht.to t hv.1 hv.2
 obtain ⟨xs, hy⟩ := Wl.app hw hx
 have := (afV h.links (by omega) hp hs).low t xs _ (aJd.2 hy)
 unfold dst
 omega
theorem aRq (h : afe L N) (ht : aqP L N) (ho : adR L N = true) {s t : Int} (hs : 0 ≤ s ∧ s < N) (hv : 0 ≤ t ∧ t < N) : dst L N s t ≠ aff := by
 have := aRr h ht ho hs hv
 unfold aff
 omega
theorem aHS (h : afe L N) (ht : aqP L N) (ho : adR L N = true) {s : Int} (hs : 0 ≤ s ∧ s < N) : Pot L (dst L N s) := by
 have h2 := h.n60
 obtain ⟨p, hp⟩ := (aep h.links (by omega)).1 ho
 intro u v m hl
 have hr := h.inr _ hl
 exact (afV h.links (by omega) hp hs).pot h.inr hl (aRq h ht ho hs hr.1)
theorem azB (h : afe L N) (ho : adR L N = true) {s : Int} (hs : 0 ≤ s ∧ s < N) : dst L N s s = 0 := aCE h ho hs.1 hs.2
theorem aHT (h : afe L N) (ht : aqP L N) (ho : adR L N = true) {s t : Int} (hs : 0 ≤ s ∧ s < N) (hv : 0 ≤ t ∧ t < N) {p : Int → Int} (hp : Pot L p) : p t - p s ≤ dst L N s t := by
 have h2 := h.n60
 obtain ⟨vs, hw⟩ := (afV h.links (by omega) hp hs).att t hv.1 hv.2 (aRq h ht ho hs hv)
 obtain ⟨u, hu, hx⟩ := (aJd.1 hw).pot hp
 subst hu
 exact hx
theorem aRs (h : afe L N) (ht : aqP L N) (ho : adR L N = true) {x y : Int} (hx : 0 ≤ x ∧ x < N) (hy : 0 ≤ y ∧ y < N) {t : Int} (h1 : -(dst L N x y) ≤ t) (h2 : t ≤ dst L N y x) : ∃ p, Pot L p ∧ p x - p y = t := by
 refine ⟨fun v => min (dst L N y v) (dst L N x v + t), fun u v m hl => ?_, ?_⟩
 ·have a1 := aHS h ht ho hy u v m hl
  have a2 := aHS h ht ho hx u v m hl
  show min _ _ ≤ min _ _ + m
  omega
 ·have e1 := azB h ho hx
  have e2 := azB h ho hy
  show min (dst L N y x) (dst L N x x + t) - min (dst L N y y) (dst L N x y + t) = t
  omega
theorem avm (h : afe L N) (ht : aqP L N) (ho : adR L N = true) {x y : Int} (hx : 0 ≤ x ∧ x < N) (hy : 0 ≤ y ∧ y < N) : -(dst L N x y) ≤ dst L N y x := by
 have h2 := h.n60
 obtain ⟨p, hp⟩ := (aep h.links (by omega)).1 ho
 have a1 := aHT h ht ho hx hy hp
 have a2 := aHT h ht ho hy hx hp
 omega
theorem aN9 (h : afe L N) (ht : aqP L N) (ho : adR L N = true) {s t : Int} (hs : 0 ≤ s ∧ s < N) (hv : 0 ≤ t ∧ t < N) : -9007199254740992 ≤ dst L N s t ∧ dst L N s t ≤ 9007199254740992 := by
 have a1 := aRr h ht ho hs hv
 have a2 := aRr h ht ho hv hs
 have a3 := avm h ht ho hv hs
 omega
theorem aqD (h : afe L N) (ht : aqP L N) {s t : Int} (hs : 0 ≤ s ∧ s < N) (hv : 0 ≤ t ∧ t < N) : afD L N s t = if adR L N then (dst L N s t, 0) else (0, 9) := by
 unfold afD
 by_cases ho : adR L N = true
 ·have hne := aRq h ht ho hs hv
  unfold dst at hne ⊢
  rw [if_neg (by simp [ho]), if_neg hne, if_pos ho]
 ·rw [if_pos (by simpa using ho), if_neg ho]
end
section
variable {b : acw} {c : Cmp}
theorem aUO (h' : ads (acD b c)) : GL (acD b c) (acO (acD b c)) := by
 intro i g hg l hl
 rw [aMD]
 exact List.mem_append.2 (.inl (List.mem_flatMap.2 ⟨g, List.mem_of_getElem? hg, hl⟩))
theorem agL (h' : ads (acD b c)) : aqP (acO (acD b c)) ((acd (acD b c)).length + 1) := h'.tiedL (aUO h')
theorem agu (h' : ads (acD b c)) : afe (acO (acD b c)) ((acd (acD b c)).length + 1) :=
 h'.sys.sub (fun l hl => List.mem_of_mem_take hl) (by unfold acO; rw [List.length_take]; omega)
theorem akk (h : ads b) (h' : ads (acD b c)) : adR (acO (acD b c)) ((acd (acD b c)).length + 1) = adR (acn b) ((acd b).length + 1) := by
 have n1 := h.sys.n60
 have n2 := (agu h').n60
 rw [Bool.eq_iff_iff, aep (agu h').links (by omega), aep h.sys.links (by omega)]
 exact (aQq h h').symm
theorem aqb : c ∈ (acD b c).2.2.2.2.1 := by simp [acD]
theorem arE (h' : ads (acD b c)) : 0 ≤ cx (acD b c) c ∧ cx (acD b c) c < ((acd (acD b c)).length + 1 : Nat) := (aHW h' aqb).rng
theorem arD (h' : ads (acD b c)) : 0 ≤ cy (acD b c) c ∧ cy (acD b c) c < ((acd (acD b c)).length + 1 : Nat) := (aCl h' aqb).rng
def dLo (b : acw) (c : Cmp) : Int := -(dst (acO (acD b c)) ((acd (acD b c)).length + 1) (cx (acD b c) c) (cy (acD b c) c))
def dHi (b : acw) (c : Cmp) : Int := dst (acO (acD b c)) ((acd (acD b c)).length + 1) (cy (acD b c) c) (cx (acD b c) c)
theorem aCM (h : ads b) (h' : ads (acD b (aca c))) : adG b c = if adR (acn b) ((acd b).length + 1) then azR b (aca c) (dLo b (aca c), dHi b (aca c)) else ((0, 0), 9) := by
 have e : ap3 b (aca c) = (acD b (aca c), 0) := by
  unfold ap3
  rw [if_neg (by simp [(acv b).2 h]), if_neg (by simp [(acv _).2 h'])]
 unfold adG
 rw [e, aqD (agu h') (agL h') (arD h') (arE h'), aqD (agu h') (agL h') (arE h') (arD h'), akk h h']
 by_cases ho : adR (acn b) ((acd b).length + 1) = true
 ·rw [if_pos ho, if_pos ho, if_pos ho]
  rfl
 ·rw [if_neg ho, if_neg ho, if_neg ho]
  rfl
theorem ajG (hp : (adG b c).2 = 0) : ads b ∧ ads (acD b (aca c)) := by
 have hw : (ap3 b (aca c)).2 = 0 := by
  unfold adG at hp
  by_cases hw : (ap3 b (aca c)).2 = 0
  ·exact hw
  ·rw [if_pos hw] at hp; exact hp
 unfold ap3 at hw
 by_cases hb : acz b = 0
 ·rw [if_neg (by simp [hb])] at hw
  by_cases hm : acz (acD b (aca c)) = 0
  ·exact ⟨(acv b).1 hb, (acv _).1 hm⟩
  ·rw [if_pos hm] at hw; exact absurd hw hm
 ·rw [if_pos hb] at hw; exact absurd hw hb
theorem aLz {s : Int × Int} (h : (azR b c s).2 = 0) : aMw b c ≤ asH b c ∧ azR b c s = ((s.1 + aMw b c, s.2 + asH b c), 0) := by
 unfold azR at h ⊢
 split at h
 ·simp at h
 ·rename_i hl
  rw [if_neg hl]
  exact ⟨by omega, rfl⟩
end
end Go.Proofs.ZzM
end
noncomputable section
namespace Go.Proofs.ZzM
open Go Go.Am
structure aTT (B : acw) : Prop where
 good : ads B
 op : adR (acn B) ((acd B).length + 1) = true
 num : ∀ g ∈ B.2.1, I64 g.2.2.2.2.1.1
theorem agI {b : acw} (hI : In b) {ns : List (Int × Int)} (e : (adc b ns).2 = 0) : aTT (adc b ns).1 ∧ (adc b ns).1 = (aeR b ns).1 ∧ (aeR b ns).2 = 0 ∧ ads b := by
 unfold adc at e ⊢
 by_cases hc : acz b = 0
 ·rw [if_neg (by simp [hc])] at e ⊢
  by_cases hr : (aeR b ns).2 = 0
  ·rw [if_neg (by simp [hr])] at e ⊢
   cases ho : adR (acn (aeR b ns).1) ((acd (aeR b ns).1).length + 1) with
   | true =>
     rw [if_pos rfl]
     exact ⟨⟨azW ((acv b).1 hc) hr, ho, by rw [amL hr]; exact hI.num⟩, rfl, hr, (acv b).1 hc⟩
   | false => rw [ho] at e; simp at e
  ·rw [if_pos hr] at e; exact absurd e hr
 ·rw [if_pos hc] at e; exact absurd e hc
theorem aec (B : acw) (n : Int × Int) : 0 ≤ agl B n.1 n.2 ∧ agl B n.1 n.2 < ((acd B).length + 1 : Nat) := by
 unfold agl
 cases h : agD (acd B) n.1 n.2 with
 | none => dsimp only; omega
 | some j => have := (ahb h).1; dsimp only; omega
theorem aym {B : acw} (h : ads B) (hn : ∀ g ∈ B.2.1, I64 g.2.2.2.2.1.1) (s : Sys) (n : Int × Int) : adA (B, s) n = some (agl B n.1 n.2) := by
 unfold adA ase
 rw [show adr (B, s).1 n = adr B n from rfl, amJ (h.inn hn), ab3, akz h]
 split
 ·rename_i e; rw [e]
 ·rfl
theorem aLa {B : acw} {L : List Lk} {N : Nat} (h : afe L N) {to from' : Int} (h1 : 0 ≤ to ∧ to < N) (h2 : 0 ≤ from' ∧ from' < N) : acZ (B, (N : Int), L) to from' = some (afD L N from' to).1 := by
 unfold acZ als
 rw [show (B, (N : Int), L).2 = ((N : Int), L) from rfl, azF h h2 h1, ab3]
def azc (B : acw) : Sys := (((acd B).length : Int) + 1, acn B)
def aEc (B : acw) (s t : Int) : Int := dst (acn B) ((acd B).length + 1) s t
def ivR (B : acw) (n : Int × Int) : Int × Int := (-(aEc B (agl B n.1 n.2) 0), aEc B 0 (agl B n.1 n.2))
theorem azK (B : acw) : azc B = ((((acd B).length + 1 : Nat) : Int), acn B) := by unfold azc; push_cast; rfl
theorem adK (B : acw) : 0 ≤ (0 : Int) ∧ (0 : Int) < ((acd B).length + 1 : Nat) := by omega
section
variable {B : acw} (h : aTT B)
include h
theorem apU {s t : Int} (hs : 0 ≤ s ∧ s < ((acd B).length + 1 : Nat)) (ht : 0 ≤ t ∧ t < ((acd B).length + 1 : Nat)) : -9007199254740992 ≤ aEc B s t ∧ aEc B s t ≤ 9007199254740992 :=
 aN9 h.good.sys h.good.tied h.op hs ht
theorem aqA {to from' : Int} (h1 : 0 ≤ to ∧ to < ((acd B).length + 1 : Nat)) (h2 : 0 ≤ from' ∧ from' < ((acd B).length + 1 : Nat)) : acZ (B, azc B) to from' = some (aEc B from' to) := by
 rw [azK, aLa h.good.sys h1 h2, aqD h.good.sys h.good.tied h2 h1, if_pos h.op]
 rfl
theorem aE8 (n : Int × Int) : afc (B, azc B) n = some (-(aEc B (agl B n.1 n.2) 0)) := by
 unfold afc alr
 have hb := apU h (aec B n) (adK B)
 rw [aym h.good h.num, ab3, aqA h (adK B) (aec B n), ab3, acr (by omega) (by omega)]
 congr 1
 omega
theorem avb (n : Int × Int) : afB (B, azc B) n = some (aEc B 0 (agl B n.1 n.2)) := by
 unfold afB aig
 rw [aym h.good h.num, ab3, aqA h (aec B n) (adK B), ab3]
theorem ajx (n : Int × Int) : ad1 (B, azc B) n = some (ivR B n) := by
 unfold ad1 aif
 rw [aE8 h, ab3, avb h, ab3]
 rfl
end
def avw (b : acw) (n : Int × Int) : (Int × Int) × Int := if (adc b [n]).2 ≠ 0 then ((0, 0), (adc b [n]).2) else (ivR (adc b [n]).1 n, 0)
theorem aCN {b : acw} (hI : In b) (n : Int × Int) : ai3 b n = some (avw b n) := by
 unfold ai3 ao8 avw
 refine (akG hI (ns := [n]) (by simp) (fun e => some (((0, 0) : Int × Int), e)) (fun e he => by rw [adx (by simp [ine, he])]) (fun z he => by rw [adx (by simp [ine, he])]) (fun _ _ _ => rfl)).trans ?_
 split
 ·rfl
 ·rename_i e
  have hr := (agI hI (by simpa using e)).1
  dsimp only
  rw [anH, show ((((acd (adc b [n]).1).length : Int) + 1, acn (adc b [n]).1) : Sys) = azc (adc b [n]).1 from rfl, ajx hr, ab3]
theorem aPB {ρ : Type} : @alA ρ = @acY ρ := rfl
theorem aS6 {ρ : Type} : @ao7 ρ = @acY ρ := rfl
def btR (B : acw) (m n : Int × Int) : Int × Int := (-(aEc B (agl B m.1 m.2) (agl B n.1 n.2)), aEc B (agl B n.1 n.2) (agl B m.1 m.2))
def aIl (b : acw) (m n : Int × Int) : (Int × Int) × Int := if (adc b [m, n]).2 ≠ 0 then ((0, 0), (adc b [m, n]).2) else (btR (adc b [m, n]).1 m n, 0)
theorem aPH {b : acw} (hI : In b) (m n : Int × Int) : anJ b m n = some (aIl b m n) := by
 unfold anJ aso aIl
 rw [aPB]
 refine (akG hI (ns := [m, n]) (by simp) (fun e => some (((0, 0) : Int × Int), e)) (fun e he => by rw [adx (by simp [ine, he])]) (fun z he => by rw [adx (by simp [ine, he])]) (fun _ _ _ => rfl)).trans ?_
 split
 ·rfl
 ·rename_i e
  have hr := (agI hI (by simpa using e)).1
  dsimp only
  generalize (adc b [m, n]).1 = B at hr ⊢
  have hb := apU hr (aec B m) (aec B n)
  rw [anH, show ((((acd B).length : Int) + 1, acn B) : Sys) = azc B from rfl, aym hr.good hr.num, ab3, aym hr.good hr.num, ab3, aqA hr (aec B n) (aec B m), ab3,
   acr (by omega) (by omega), aqA hr (aec B m) (aec B n), ab3]
  unfold btR
  rw [Int.zero_sub]
def aeJ (s l : Int × Int) : Int := if l.1 ≤ s.1 ∧ s.2 ≤ l.2 then 1 else if s.2 < l.1 ∨ l.2 < s.1 then 2 else 3
theorem aEl (s l : Int × Int) : akm s l = some (aeJ s l) := by
 unfold akm asa aeJ
 simp only [adH, ile, ilt, decide_eq_true_eq]
 by_cases h1 : l.1 ≤ s.1 <;> by_cases h2 : s.2 ≤ l.2 <;> by_cases h3 : s.2 < l.1 <;> by_cases h4 : l.2 < s.1 <;> simp [h1, h2, h3, h4]
def aOu (b : acw) (n l : Int × Int) : Int × Int := if (adc b [n]).2 ≠ 0 then (0, (adc b [n]).2) else if l.2 < l.1 then (0, 1) else (aeJ (ivR (adc b [n]).1 n) l, 0)
theorem aOt {b : acw} (hI : In b) (n l : Int × Int) : apM b n l = some (aOu b n l) := by
 unfold apM aAJ aOu
 rw [aS6]
 refine (akG hI (ns := [n]) (by simp) (fun e => some ((0 : Int), e)) (fun e he => by rw [aco (by simp [ine, he])]) (fun z he => by rw [aco (by simp [ine, he])]) (fun _ _ _ => rfl)).trans ?_
 split
 ·rfl
 ·rename_i e
  have hr := (agI hI (by simpa using e)).1
  dsimp only
  by_cases hl : l.2 < l.1
  ·rw [aco (by simp [igt, hl]), if_pos hl]
  ·rw [acm (by simp [igt]; omega), if_neg hl, anH, show ((((acd (adc b [n]).1).length : Int) + 1, acn (adc b [n]).1) : Sys) = azc (adc b [n]).1 from rfl, ajx hr, ab3, aEl, ab3]
end Go.Proofs.ZzM
end
noncomputable section
namespace Go.Proofs.ZzM
open Go Go.Am
def aCP (x y : List Int) : List Int × List Int × Int := if !ajr x then ([], [], 1) else if !ajr y then ([], [], 1) else (ac6 x y, ac6 y x, 0)
theorem aLl {x y : List Int} (hx : x.length ≤ 100000) (hy : y.length ≤ 100000) : amD x y = some (aCP x y) := by
 unfold amD awI aCP
 rw [au5 (by omega), ab3]
 cases ajr x with
 | false => rfl
 | true =>
   rw [au5 (by omega), ab3]
   cases ajr y with
   | false => rfl
   | true =>
     rw [alI (by omega) (by omega), ab3, alI (by omega) (by omega), ab3]
     rfl
end Go.Proofs.ZzM
end
noncomputable section
namespace Go.Proofs.ZzM
open Go Go.Am
theorem aKJ (ls : List (List Int)) (i : Nat) : (ls.take i).flatten.length ≤ ls.flatten.length := by
 conv => rhs; rw [← List.take_append_drop i ls, List.flatten_append, List.length_append]
 omega
theorem ajU {ls : List (List Int)} (hl : ls.length ≤ 1000000) (hf : ls.flatten.length ≤ 1000000) : acE ls = some ls.flatten := by
 have hk : ∀ n : Nat, n ≤ 4000000 → ∀ (f : Int → Option (List Int)), ck (n : Int) f = f n := fun n h f => acr (by omega) (by omega) f
 have second : acl (fun (v9 : (Val (.pair tI (.slice tI)))) kk12 => acI ls (acs ls) v9.1 v9.2 (fun u10 u11 => kk12 (u10, u11)) (fun z8 => some z8)) ((0 : Int), ([] : List Int)) = some ls.flatten := by
  refine adf ls (fun i => (ls.take i).flatten) (some ls.flatten) (f := fun (v9 : (Val (.pair tI (.slice tI)))) kk12 => acI ls (acs ls) v9.1 v9.2 (fun u10 u11 => kk12 (u10, u11)) (fun z8 => some z8)) rfl (fun i x hi hx kn => ?_) (fun kn => ?_)
  ·try dsimp only
   unfold acI
   have h1 := aKJ ls (i + 1)
   rw [take_succ hx, List.flatten_append, List.length_append] at h1
   simp only [List.flatten_cons, List.flatten_nil, List.append_nil] at h1
   rw [acp hi, aci hx, acj hi (by omega), take_succ hx, List.flatten_append]
   have : acJ ((List.take i ls).flatten.length + x.length) = true := acq (by omega)
   rw [adx this]
   simp
  ·try dsimp only
   unfold acI
   rw [acL]
   simp
 unfold acE agb
 refine afs (fun x : Int × Int => ∃ i : Nat, i ≤ ls.length ∧ x = (((ls.take i).flatten.length : Int), (i : Int))) (fun x => ls.length - x.2.toNat) ?_ ⟨0, by omega, rfl⟩
 rintro x ⟨i, hi, rfl⟩
 rcases Nat.lt_or_ge i ls.length with h2 | h2
 ·refine .inr ⟨(((ls.take (i + 1)).flatten.length : Int), (i : Int) + 1), ⟨i + 1, h2, by simp⟩, by simp; omega, fun kn => ?_⟩
  obtain ⟨x, hx⟩ : ∃ x, ls[i]? = some x := ⟨_, List.getElem?_eq_getElem h2⟩
  have h1 := aKJ ls (i + 1)
  rw [take_succ hx, List.flatten_append, List.length_append] at h1
  simp only [List.flatten_cons, List.flatten_nil, List.append_nil] at h1
  try dsimp only
  unfold adB
  rw [acp h2, aci hx, acA]
  have e1 : (((List.take i ls).flatten.length : Int) + (x.length : Int)) = ((List.take i ls).flatten.length + x.length : Nat) := by omega
  rw [e1, hk _ (by omega)]
  have : ilt ((((List.take i ls).flatten.length + x.length : Nat)) : Int) 0 = false := by simp [ilt]; omega
  rw [acm this, acj h2 (by omega), take_succ hx]
  simp
 ·refine .inl fun kn => ?_
  obtain rfl : i = ls.length := by omega
  try dsimp only
  unfold adB
  rw [acL, List.take_length]
  have e2 : ilt ((ls.flatten.length : Nat) : Int) 0 = false := decide_eq_false (by omega)
  dsimp only
  rw [acm e2, Int.sub_zero, hk _ (by omega)]
  rcases Nat.eq_zero_or_pos ls.flatten.length with h0 | h0
  ·have : igt (ls.flatten.length : Int) 0 = false := decide_eq_false (by omega)
   rw [acm this]
   exact second
  ·have : igt (ls.flatten.length : Int) 0 = true := decide_eq_true (by omega)
   rw [aco this]
   have : ((ilt (0 : Int) (ls.flatten.length : Int)) && (acJ (Int.toNat (ls.flatten.length : Int)))) = true := by
    rw [Int.toNat_natCast, acq (by omega), Bool.and_true]
    exact decide_eq_true (by omega)
   rw [adx this]
   have : ile 0 (adj (List.replicate (Int.toNat (ls.flatten.length : Int)) (0 : Int))) = true := decide_eq_true (Int.natCast_nonneg _)
   rw [adx this]
   exact second
def onP (day : Int) (ids : List Int) : List (Int × Int) := ids.map fun id => (id, day)
theorem aP5 {day : Int} {ls : List (List Int)} (hl : ls.length ≤ 1000000) (hf : ls.flatten.length ≤ 1000000) : avg day ls = some (onP day ls.flatten) := by
 unfold avg aAw
 rw [ajU hl hf, ab3]
 refine adf ls.flatten (fun i => onP day (ls.flatten.take i)) _ rfl (fun i x hi hx kn => ?_) (fun kn => ?_)
 ·try dsimp only
  unfold akQ
  rw [acp hi, aci hx, acj hi (by omega), take_succ hx]
  have : acJ (List.length (onP day (ls.flatten.take i)) + List.length ([(x, day)])) = true := acq (by simp [onP]; omega)
  rw [adx this]
  simp [onP]
 ·try dsimp only
  unfold akQ
  rw [acL, List.take_length]
theorem aSA {l : List Int} (hl : l.length ≤ 100000) (m : Int) : azw l m = some (ajr l && decide ((l.length : Int) ≤ m)) := by
 unfold azw aGh
 rw [aLl hl (by simp), ab3]
 have e0 : ajr [] = true := by decide
 unfold aCP
 rw [e0, acA]
 cases ajr l <;> rfl
theorem aUq (n : Int) : avh n = some (aMK n) := by
 unfold avh aAB aMK inP
 rw [adH]
 by_cases h : 0 ≤ n
 ·rw [if_pos (by simpa [ige] using h)]; simp [h]
 ·rw [if_neg (by simpa [ige] using h)]; simp [h]
theorem aTa {ρ α : Type} (l : List α) (i : Int) (f : α → Option ρ) : acH ((ile (0 : Int) i) && (ilt i (adj l))) (ae6 l (Int.toNat i) f) = adv l i f := by
 unfold adv
 by_cases h0 : 0 ≤ i
 ·by_cases h1 : i < l.length
  ·have e : ((ile (0 : Int) i) && (ilt i (adj l))) = true := by simp [ile, ilt, h0, h1]
   rw [adx e]
   simp only [h0, decide_true]
   unfold ae6
   rfl
  ·have e : ((ile (0 : Int) i) && (ilt i (adj l))) = false := by simp [ile, ilt, h1]
   rw [e]
   simp only [h0, decide_true]
   rw [List.getElem?_eq_none (by omega)]
   rfl
 ·have e : ((ile (0 : Int) i) && (ilt i (adj l))) = false := by simp [ile, ilt, h0]
  rw [e]
  simp only [h0, decide_false]
  rfl
theorem aUz {ρ : Type} (ns : List (Int × Int)) (n : Int) : @am7 ρ ns n = @acY ρ n ns := by
 funext v0 v1 v2 v3 v4 v5 v6 v7 kn k0 k1
 unfold am7 acY
 rw [aTa]
def aNp (B : acw) (ns : List (Int × Int)) (s : Int × Int) : Int × Int := ns.foldl (fun s n => (s.1 + (ivR B n).1, s.2 + (ivR B n).2)) s
def pileR (B : acw) (f : Int × Int) (ns : List (Int × Int)) : Int × Int := aNp B ns (((ns.length : Int) - 1) * f.1, ((ns.length : Int) - 1) * f.2)
def aVh (b : acw) (day : Int) (ids : List Int) : (Int × Int) × Int :=
 if acz b ≠ 0 then ((0, 0), acz b) else if ids.length = 0 ∨ ajr ids = false ∨ aMK day = false then ((0, 0), 1) else
 if (adc b (onP day ids)).2 ≠ 0 then ((0, 0), (adc b (onP day ids)).2) else (pileR (adc b (onP day ids)).1 b.1 (onP day ids), 0)
theorem aLw (B : acw) (x y : List (Int × Int)) (s : Int × Int) : aNp B (x ++ y) s = aNp B y (aNp B x s) := by unfold aNp; rw [List.foldl_append]
theorem aP1 {B : acw} (h : aTT B) : ∀ (ns : List (Int × Int)) (s : Int × Int) (m : Int), -m ≤ s.1 ∧ s.1 ≤ m → -m ≤ s.2 ∧ s.2 ≤ m →
 (-(m + ns.length * 9007199254740992) ≤ (aNp B ns s).1 ∧ (aNp B ns s).1 ≤ m + ns.length * 9007199254740992) ∧ (-(m + ns.length * 9007199254740992) ≤ (aNp B ns s).2 ∧ (aNp B ns s).2 ≤ m + ns.length * 9007199254740992)
 | [], s, m, h1, h2 => by unfold aNp; simp; omega
 | n :: t, s, m, h1, h2 => by
   have b1 := apU h (aec B n) (adK B)
   have b2 := apU h (adK B) (aec B n)
   have := aP1 h t (s.1 + (ivR B n).1, s.2 + (ivR B n).2) (m + 9007199254740992) (by unfold ivR; dsimp only; omega) (by unfold ivR; dsimp only; omega)
   show (-(m + ((n :: t).length : Nat) * 9007199254740992) ≤ (aNp B t _).1 ∧ _) ∧ _
   unfold aNp at this ⊢
   simp only [List.foldl_cons, List.length_cons]
   push_cast
   omega
theorem aVg {b : acw} (hI : In b) (day : Int) {ids : List Int} (hl : ids.length ≤ 1000) : azx b day ids = some (aVh b day ids) := by
 unfold azx aGH aVh
 rw [afX hI.size hI.num, ab3, aSA (by omega), ab3, aUq, ab3, acA]
 by_cases hc : acz b = 0
 ·rw [acm (by simp [ine, hc]), if_neg (show ¬ (acz b ≠ 0) from fun h => h hc)]
  by_cases h0 : ids.length = 0
  ·rw [aco (by simp [ieq, h0]), if_pos (.inl h0)]
  ·rw [acm (beq_eq_false_iff_ne.2 (by omega))]
   by_cases h1 : ajr ids = true
   ·have hp := (aIU ids).1 h1
    have e1 : (ajr ids && decide ((ids.length : Int) ≤ 6)) = true := by rw [h1]; simp; omega
    rw [e1, acm (by rfl)]
    by_cases h2 : aMK day = true
    ·have hg := (acv b).1 hc
     rw [acm (by rw [h2]; rfl), if_neg (by simp [h0, h1, h2]), aP5 (by simp) (by simp; omega), ab3]
     have hlen : (onP day ids).length = ids.length := by simp [onP]
     rw [show ([ids] : List (List Int)).flatten = ids by simp, aUz, ← afX hI.size hI.num]
     refine (akG hI (ns := onP day ids) (by omega) (fun e => some (((0, 0) : Int × Int), e)) (fun e he => by rw [aco (by simp [ine, he])]) (fun z he => by rw [aco (by simp [ine, he])]) (fun _ _ _ => rfl)).trans ?_
     split
     ·rfl
     ·rename_i e
      have hr := (agI hI (by simpa using e)).1
      have hf := hg.film
      dsimp only
      generalize (adc b (onP day ids)).1 = B at hr ⊢
      have hm : ∀ x : Int, 0 ≤ x → x ≤ 1000000 → 0 ≤ ((ids.length : Int) - 1) * x ∧ ((ids.length : Int) - 1) * x ≤ 10000000 := by
       intro x h0 h1
       have : ((ids.length : Int) - 1) * x ≤ 5 * 1000000 := Int.mul_le_mul (by omega) h1 h0 (by omega)
       exact ⟨Int.mul_nonneg (by omega) h0, by omega⟩
      have m1 := hm b.1.1 (by omega) (by omega)
      have m2 := hm b.1.2 (by omega) (by omega)
      rw [acr (by omega) (by omega), acr (by omega) (by omega), acr (by omega) (by omega), anH, show ((((acd B).length : Int) + 1, acn B) : Sys) = azc B from rfl]
      unfold pileR
      rw [hlen]
      refine adf (onP day ids) (fun i => aNp B ((onP day ids).take i) (((ids.length : Int) - 1) * b.1.1, ((ids.length : Int) - 1) * b.1.2)) _ rfl (fun i n hi hn kn => ?_) (fun kn => ?_)
      ·try dsimp only
       unfold am6
       have b1 := apU hr (aec B n) (adK B)
       have b2 := apU hr (adK B) (aec B n)
       have bs := aP1 hr ((onP day ids).take i) (((ids.length : Int) - 1) * b.1.1, ((ids.length : Int) - 1) * b.1.2) 10000000 (by dsimp only; omega) (by dsimp only; omega)
       have bl : (((onP day ids).take i).length : Int) ≤ 6 := by rw [List.length_take]; omega
       rw [acp hi, aci hn, ajx hr, ab3, take_succ hn, aLw]
       generalize aNp B ((onP day ids).take i) (((ids.length : Int) - 1) * b.1.1, ((ids.length : Int) - 1) * b.1.2) = s at bs ⊢
       unfold ivR
       dsimp only
       rw [acr (by omega) (by omega), acr (by omega) (by omega), acj hi (by omega)]
       rfl
      ·try dsimp only
       unfold am6
       rw [acL, List.take_length]
    ·have h2' : aMK day = false := by simpa using h2
     rw [h2', aco (by rfl), if_pos (.inr (.inr rfl))]
   ·have h1' : ajr ids = false := by simpa using h1
    rw [h1', aco (by rfl), if_pos (.inr (.inl rfl))]
 ·rw [aco (by simp [ine, hc]), if_pos hc]
theorem akl {α : Type} (p : α → Bool) (l : List α) (i : Nat) : ((l.take i).filter p).length ≤ l.length := by
 have h1 := List.length_filter_le p (l.take i)
 rw [List.length_take] at h1
 omega
end Go.Proofs.ZzM
end
noncomputable section
namespace Go.Proofs.ZzM
open Go Go.Am
theorem aEM (x y : Int) (g : Bool) : ∀ m : List (Int × Bool), alY (k := tI) (v := .bool) x (azk (k := tI) (v := .bool) y g m) = if x = y then some g else alY (k := tI) (v := .bool) x m
 | [] => by
   unfold azk alY ag7 alY
   by_cases h : x = y <;> simp [h]
 | e :: m => by
   unfold azk
   by_cases h : y = e.1
   ·have : ag7 tI y e.1 = true := by simp [ag7, h]
    rw [this]
    try dsimp only
    unfold alY ag7
    by_cases h2 : x = y
    ·simp [h2]
    ·have : ¬ x = e.1 := fun h3 => h2 (h3.trans h.symm)
     simp [h2, this]
   ·have : ag7 tI y e.1 = false := by simp [ag7, h]
    rw [this]
    try dsimp only
    have ih := aEM x y g m
    unfold alY
    by_cases h2 : x = e.1
    ·have : ag7 tI x e.1 = true := by simp [ag7, h2]
     rw [this]
     have : ¬ x = y := fun h3 => h (h3.symm.trans h2)
     simp [this]
    ·have : ag7 tI x e.1 = false := by simp [ag7, h2]
     rw [this]
     exact ih
def aCR (l : List Int) : List (Int × Bool) := l.foldl (fun m x => azk (k := tI) (v := .bool) x true m) []
theorem aoD (l : List Int) (x : Int) : aCR (l ++ [x]) = azk (k := tI) (v := .bool) x true (aCR l) := by unfold aCR; rw [List.foldl_append]; rfl
theorem aJj (x : Int) : ∀ (l : List Int) (m : List (Int × Bool)), alY (k := tI) (v := .bool) x (l.foldl (fun m x => azk (k := tI) (v := .bool) x true m) m) = if l.contains x then some true else alY (k := tI) (v := .bool) x m
 | [], m => by simp
 | y :: l, m => by
   rw [List.foldl_cons, aJj x l, aEM]
   by_cases h : x = y
   ·subst h; simp
   ·simp [h]
theorem aJh (l : List Int) (x : Int) : alY (k := tI) (v := .bool) x (aCR l) = if l.contains x then some true else none := aJj x l []
def asX (b : acw) (s : Int × Int) : List Int := if s.1 = 3 then (match b.2.2.2.2.1[s.2.toNat]? with | some c => c.2.2.1 ++ c.2.2.2.1 | none => []) else (match b.2.1[s.2.toNat]? with | some g => [g.1] | none => [])
def aCm (b : acw) (ss looks : List (Int × Int)) : List Int := ss.flatMap (asX b) ++ looks.map fun n => n.1
def avo (ss : List (Int × Int)) : List Int := (ss.filter fun s => s.1 == 3).map fun s => s.2
def asF (w : List Int) : Nat → List Cmp → List Cmp
 | _, [] => []
 | i, c :: t => if w.contains (i : Int) then c :: asF w (i + 1) t else asF w (i + 1) t
def cutP (b : acw) (ss looks : List (Int × Int)) : acw :=
 (b.1, b.2.1.filter fun g => (aCm b ss looks).contains g.1, b.2.2.1.filter fun u => (aCm b ss looks).contains u.1, b.2.2.2.1.filter fun l => (aCm b ss looks).contains l.1, asF (avo ss) 0 b.2.2.2.2.1, looks)
def aVe (b : acw) (s : Int × Int) : Prop := ((s.1 = 1 ∨ s.1 = 2) ∧ 0 ≤ s.2 ∧ s.2 < b.2.1.length) ∨ (s.1 = 3 ∧ 0 ≤ s.2 ∧ s.2 < b.2.2.2.2.1.length)
theorem aE9 (w : List Int) (c : Cmp) : ∀ (l : List Cmp) (i : Nat), asF w i (l ++ [c]) = asF w i l ++ if w.contains ((i + l.length : Nat) : Int) then [c] else []
 | [], i => by simp only [List.nil_append, asF, List.length_nil, Nat.add_zero]
 | a :: l, i => by
   have e : ((i + 1 + l.length : Nat) : Int) = ((i + (l.length + 1) : Nat) : Int) := by congr 1; omega
   simp only [List.cons_append, asF, aE9 w c l (i + 1), List.length_cons, e]
   split <;> rfl
theorem aBR (w : List Int) : ∀ (l : List Cmp) (i : Nat), (asF w i l).length ≤ l.length
 | [], i => by simp [asF]
 | a :: l, i => by
   have := aBR w l (i + 1)
   simp only [asF]
   split <;> simp only [List.length_cons] <;> omega
theorem apF {ρ : Type} (x : Int) (l : List Int) (f : Bool → Option ρ) (g : Option ρ) : aIm (k := tI) (v := .bool) x (aCR l) f g = if l.contains x then f true else g := by
 unfold aIm
 rw [aJh]
 by_cases h : l.contains x = true
 ·rw [if_pos h, if_pos h]
 ·rw [if_neg h, if_neg h]
section
variable {ρ : Type}
theorem cut_L3 (l : List (Int × Int)) (hl : l.length ≤ 1000) (ids : List Int) (K : List (Int × Int) → Option ρ) : acl (fun (v47 : (Val (.pair tI (.slice ab5)))) kk50 => al9 l (acs l) (aCR ids) v47.1 v47.2 (fun u48 u49 => kk50 (u48, u49)) K) ((0 : Int), []) = K (l.filter fun u => ids.contains u.1) := by
 refine adf l (fun i => (l.take i).filter fun u => ids.contains u.1) _ rfl (fun i a hi ha kn => ?_) (fun kn => ?_)
 ·try dsimp only
  unfold al9
  have h1 := akl (fun u : Int × Int => ids.contains u.1) l i
  rw [acp hi, aci ha, apF, take_succ ha, List.filter_append]
  by_cases h : ids.contains a.1 = true
  ·rw [if_pos h, ad6, adx (acq (by simp only [List.length_singleton]; omega)), acj hi (by omega)]
   simp only [List.filter_cons, List.filter_nil, h, if_pos]
  ·rw [if_neg h, acj hi (by omega)]
   simp only [List.filter_cons, List.filter_nil, h, if_neg, Bool.false_eq_true, not_false_eq_true, List.append_nil]
 ·try dsimp only
  unfold al9
  rw [acL, List.take_length]
theorem cut_L4 (l : List azD) (hl : l.length ≤ 1000) (ids : List Int) (K : List azD → Option ρ) : acl (fun (v47 : (Val (.pair tI (.slice adL)))) kk50 => al8 l (acs l) (aCR ids) v47.1 v47.2 (fun u48 u49 => kk50 (u48, u49)) K) ((0 : Int), []) = K (l.filter fun u => ids.contains u.1) := by
 refine adf l (fun i => (l.take i).filter fun u => ids.contains u.1) _ rfl (fun i a hi ha kn => ?_) (fun kn => ?_)
 ·try dsimp only
  unfold al8
  have h1 := akl (fun u : azD => ids.contains u.1) l i
  rw [acp hi, aci ha, apF, take_succ ha, List.filter_append]
  by_cases h : ids.contains a.1 = true
  ·rw [if_pos h, ad6, adx (acq (by simp only [List.length_singleton]; omega)), acj hi (by omega)]
   simp only [List.filter_cons, List.filter_nil, h, if_pos]
  ·rw [if_neg h, acj hi (by omega)]
   simp only [List.filter_cons, List.filter_nil, h, if_neg, Bool.false_eq_true, not_false_eq_true, List.append_nil]
 ·try dsimp only
  unfold al8
  rw [acL, List.take_length]
theorem cut_L5 (l : List Cmp) (hl : l.length ≤ 1000) (hp : ∀ c ∈ l, c.2.2.1.length ≤ 1000 ∧ c.2.2.2.1.length ≤ 1000) (w : List Int) (K : List Cmp → Option ρ) : acl (fun (v47 : (Val (.pair tI (.slice acg)))) kk50 => al7 l (acs l) (aCR w) v47.1 v47.2 (fun u48 u49 => kk50 (u48, u49)) K) ((0 : Int), []) = K (asF w 0 l) := by
 refine adf l (fun i => asF w 0 (l.take i)) _ rfl (fun i a hi ha kn => ?_) (fun kn => ?_)
 ·try dsimp only
  unfold al7
  have h1 := aBR w (l.take i) 0
  have h2 := hp a (List.mem_of_getElem? ha)
  have e : (l.take i).length = i := by rw [List.length_take]; omega
  rw [acp hi, aci ha, apF, take_succ ha, aE9, e, Nat.zero_add]
  by_cases h : w.contains (i : Int) = true
  ·rw [if_pos h, if_pos h, ad6, adx (acq (by omega)), adx (acq (by omega)), adx (acq (by simp only [List.length_singleton]; omega)), acj hi (by omega)]
  ·rw [if_neg h, if_neg h, acj hi (by omega)]
   simp only [List.append_nil]
 ·try dsimp only
  unfold al7
  rw [acL, List.take_length]
theorem cut_L2 (looks : List (Int × Int)) (hl : looks.length ≤ 1000) (ids : List Int) (K : List (Int × Bool) → Option ρ) : acl (fun (v51 : (Val (.pair tI (.map tI .bool)))) kk54 => ama looks (acs looks) v51.1 v51.2 (fun u52 u53 => kk54 (u52, u53)) K) ((0 : Int), aCR ids) = K (aCR (ids ++ looks.map fun n => n.1)) := by
 refine adf looks (fun i => aCR (ids ++ (looks.take i).map fun n => n.1)) _ (by simp) (fun i a hi ha kn => ?_) (fun kn => ?_)
 ·try dsimp only
  unfold ama
  rw [acp hi, aci ha, acj hi (by omega), take_succ ha, List.map_append, ← List.append_assoc, List.map_singleton, aoD]
 ·try dsimp only
  unfold ama
  rw [acL, List.take_length]
theorem cut_L1 (xs : List Int) (hl : xs.length ≤ 10000) (ids : List Int) (K : List (Int × Bool) → Option ρ) : acl (fun (v13 : (Val (.pair tI (.map tI .bool)))) kk16 => amb xs (acs xs) v13.1 v13.2 (fun u14 u15 => kk16 (u14, u15)) K) ((0 : Int), aCR ids) = K (aCR (ids ++ xs)) := by
 refine adf xs (fun i => aCR (ids ++ xs.take i)) _ (by simp) (fun i a hi ha kn => ?_) (fun kn => ?_)
 ·try dsimp only
  unfold amb
  rw [acp hi, aci ha, acj hi (by omega), take_succ ha, ← List.append_assoc, aoD]
 ·try dsimp only
  unfold amb
  rw [acL, List.take_length]
end
theorem aiq {ρ α : Type} {l : List α} {i : Int} (h0 : 0 ≤ i) {a : α} (h : l[i.toNat]? = some a) (f : α → Option ρ) : adv l i f = f a := by
 obtain ⟨n, rfl⟩ := Int.eq_ofNat_of_zero_le h0
 exact aci (by simpa using h) f
theorem cut_ok {b : acw} (hs : ahl b) {ss looks : List (Int × Int)} (h1 : ss.length ≤ 1000) (h2 : looks.length ≤ 1000) (hv : ∀ s ∈ ss, aVe b s) : aCb b ss looks = some (cutP b ss looks) := by
 have g1 := hs.gauges; have g2 := hs.uses; have g3 := hs.loans; have g4 := hs.compares; have g5 := hs.looks
 unfold aCb aQJ atV
 refine adf ss (fun i => (aCR ((ss.take i).flatMap (asX b)), aCR (avo (ss.take i)))) _ rfl (fun i s hi ha kn => ?_) (fun kn => ?_)
 ·try dsimp only
  unfold aqe
  have hok := hv s (List.mem_of_getElem? ha)
  rw [acp hi, aci ha, take_succ ha, List.flatMap_append]
  have e3 : avo (ss.take i ++ [s]) = avo (ss.take i) ++ if s.1 = 3 then [s.2] else [] := by
   unfold avo
   rw [List.filter_append, List.map_append]
   congr 1
   by_cases h : s.1 = 3 <;> simp [h]
  rw [e3]
  rcases hok with ⟨hk, h0, h3⟩ | ⟨hk, h0, h3⟩
  ·have hg : b.2.1[s.2.toNat]? = some b.2.1[s.2.toNat] := List.getElem?_eq_getElem (by omega)
   generalize b.2.1[s.2.toNat] = g at hg
   have e1 : asX b s = [g.1] := by
    unfold asX
    rw [if_neg (by omega), hg]
   have e2 : List.flatMap (asX b) [s] = [g.1] := by simp [e1]
   rw [acm (decide_eq_false (by omega)), if_neg (by omega), List.append_nil, e2, aoD]
   rcases hk with hk | hk
   ·rw [aco (decide_eq_true hk), aiq h0 hg, acj hi (by omega)]
   ·rw [acm (decide_eq_false (by omega)), aco (decide_eq_true hk), aiq h0 hg, acj hi (by omega)]
  ·have hc : b.2.2.2.2.1[s.2.toNat]? = some b.2.2.2.2.1[s.2.toNat] := List.getElem?_eq_getElem (by omega)
   have hp := hs.piles b.2.2.2.2.1[s.2.toNat] (List.getElem_mem _)
   generalize b.2.2.2.2.1[s.2.toNat] = c at hc hp
   have e1 : asX b s = c.2.2.1 ++ c.2.2.2.1 := by
    unfold asX
    rw [if_pos hk, hc]
   have e2 : List.flatMap (asX b) [s] = c.2.2.1 ++ c.2.2.2.1 := by simp [e1]
   rw [acm (decide_eq_false (by omega)), acm (decide_eq_false (by omega)), acm (decide_eq_false (by omega)), adx (decide_eq_true hk), if_pos hk, e2, aiq h0 hc, aiq h0 hc, ajU (by simp) (by simp; omega), ab3]
   rw [show ([c.2.2.1, c.2.2.2.1] : List (List Int)).flatten = c.2.2.1 ++ c.2.2.2.1 by simp]
   refine (cut_L1 (c.2.2.1 ++ c.2.2.2.1) (by simp; omega) _ _).trans ?_
   rw [aoD, acj hi (by omega)]
 ·try dsimp only
  unfold aqe
  rw [acL]
  dsimp only
  rw [List.take_length]
  refine (cut_L2 looks h2 _ _).trans ?_
  rw [show (ss.flatMap (asX b) ++ looks.map fun n => n.1) = aCm b ss looks from rfl]
  unfold aqn
  try dsimp only
  rw [adx (acq (by omega)), ab3]
  have ek : (List.filter (fun g => (alY (k := tI) (v := .bool) g.1 (aCR (aCm b ss looks))).getD false) b.2.1) = b.2.1.filter fun g => (aCm b ss looks).contains g.1 := by
   refine List.filter_congr fun g _ => ?_
   rw [aJh]
   cases (aCm b ss looks).contains g.1 <;> rfl
  rw [ek]
  unfold aiR
  dsimp only
  refine (cut_L3 b.2.2.1 g2 _ _).trans ?_
  refine (cut_L4 b.2.2.2.1 g3 _ _).trans ?_
  refine (cut_L5 b.2.2.2.2.1 g4 hs.piles _ _).trans ?_
  rfl
end Go.Proofs.ZzM
end
noncomputable section
namespace Go.Proofs.ZzM
open Go Go.Am
theorem aQb {α : Type} [DecidableEq α] {l m : List α} (hl : l.length = m.length) (h : aeQ (fun i a => if m[i]? = some a then none else some false) 0 l = none) : l = m := by
 have := air.1 h
 refine List.ext_getElem hl fun i h1 h2 => ?_
 have h3 := this i l[i] (List.getElem?_eq_getElem h1)
 rw [Nat.zero_add] at h3
 split at h3
 ·rename_i h4
  rw [List.getElem?_eq_getElem h2] at h4
  exact (Option.some.inj h4).symm
 ·cases h3
theorem aQa {α : Type} [DecidableEq α] {l m : List α} {b : Bool} (h : aeQ (fun i a => if m[i]? = some a then none else some false) 0 l = some b) : b = false ∧ l ≠ m := by
 constructor
 ·have : ∀ (k : Nat) (x : List α) (b : Bool), aeQ (fun i a => if m[i]? = some a then none else some false) k x = some b → b = false := by
   intro k x
   induction x generalizing k with
   | nil => intro b h; cases h
   | cons a t ih =>
     intro b h
     unfold aeQ at h
     split at h
     ·rename_i c hc
      split at hc
      ·cases hc
      ·cases hc; cases h; rfl
     ·exact ih _ _ h
  exact this _ _ _ h
 ·intro e
  subst e
  rw [air.2 fun j a ha => by rw [Nat.zero_add, if_pos ha]] at h
  cases h
end Go.Proofs.ZzM
end
noncomputable section
namespace Go.Proofs.ZzM
open Go Go.Am
instance dec1 : DecidableEq ((Int × Int) × Int) := fun a b => instDecidableEqProd a b
instance dec2 : DecidableEq ((Int × Int) × ((Int × Int) × Int)) := fun a b => instDecidableEqProd a b
instance dec3 : DecidableEq (Int × (Int × Int) × ((Int × Int) × Int)) := fun a b => instDecidableEqProd a b
instance dec4 : DecidableEq (Int × Int × (Int × Int) × ((Int × Int) × Int)) := fun a b => instDecidableEqProd a b
instance decG : DecidableEq acS := fun a b => instDecidableEqProd a b
instance decL : DecidableEq azD := fun a b => instDecidableEqProd a b
instance decI4 : DecidableEq (Int × (Int × (Int × Int))) := fun a b => instDecidableEqProd a b
instance decI5 : DecidableEq (List Int × Int × (Int × (Int × Int))) := fun a b => instDecidableEqProd a b
instance decI6 : DecidableEq (List Int × List Int × Int × (Int × (Int × Int))) := fun a b => instDecidableEqProd a b
instance decI7 : DecidableEq (Int × List Int × List Int × Int × (Int × (Int × Int))) := fun a b => instDecidableEqProd a b
instance decC : DecidableEq Cmp := fun a b => instDecidableEqProd a b
def aF9 {α : Type} [DecidableEq α] (x : α) (l : List α) : Bool := l.any fun a => decide (x = a)
theorem aNO {α : Type} [DecidableEq α] {x : α} {l : List α} : aF9 x l = true ↔ x ∈ l := by
 unfold aF9
 rw [List.any_eq_true]
 exact ⟨fun ⟨a, h1, h2⟩ => by rw [of_decide_eq_true h2]; exact h1, fun h => ⟨x, h, decide_eq_true rfl⟩⟩
theorem aLV {α : Type} [DecidableEq α] (l : List α) (x : α) : ige (match l.findIdx? (fun a => decide (x = a)) with | some j => (j : Int) | none => -1) 0 = aF9 x l := by
 cases h : l.findIdx? (fun a => decide (x = a)) with
 | none =>
   have : aF9 x l = false := by
    cases hm : aF9 x l with
    | false => rfl
    | true => have := List.findIdx?_eq_none_iff.1 h x (aNO.1 hm); simp at this
   rw [this]
   rfl
 | some j =>
   obtain ⟨hj, hp, _⟩ := List.findIdx?_eq_some_iff_getElem.1 h
   have : x ∈ l := by rw [of_decide_eq_true hp]; exact List.getElem_mem _
   rw [aNO.2 this]
   exact decide_eq_true (by dsimp only; omega)
theorem aQE {ρ : Type} (o : Option Nat) (f : Int → Option ρ) : (match o with | some j => f (j : Int) | none => f (-1)) = f (match o with | some j => (j : Int) | none => -1) := by cases o <;> rfl
theorem aLi {l : List (Int × Int)} (hl : l.length ≤ 1000000) (x : Int × Int) : adi l x = some (aF9 x l) := by
 unfold adi aer afb ae7
 have e : acl (fun (v5 : Int) kk7 => ade l (acs l) x.1 x.2 v5 (fun u6 => kk7 u6) (fun z3 => some z3) (fun _ => some (-1 : Int))) (0 : Int) = some (match l.findIdx? (fun a => decide (x = a)) with | some j => (j : Int) | none => -1) := by
  refine (af1 l (fun a => decide (x = a)) (fun z => some z) (some (-1)) (fun i a hi ha kn => ?_) (fun kn => ?_)).trans (aQE _ some)
  ·try dsimp only
   unfold ade
   have e : ((aeL x.1 a.1) && ((aeL x.2 a.2) && true)) = decide (x = a) := by
    rw [Bool.eq_iff_iff]; simp [aeL, Prod.ext_iff]
   rw [acp hi, aci ha, acj hi (by omega), adH, e]
  ·try dsimp only
   unfold ade
   rw [acL]
 rw [e, ab3]
 exact congrArg some (aLV l x)
theorem aIj {l : List azD} (hl : l.length ≤ 1000000) (x : azD) : ac2 l x = some (aF9 x l) := by
 unfold ac2 aea aeG aeE
 have e : acl (fun (v5 : Int) kk7 => ac1 l (acs l) x.1 x.2.1.1 x.2.1.2 x.2.2 v5 (fun u6 => kk7 u6) (fun z3 => some z3) (fun _ => some (-1 : Int))) (0 : Int) = some (match l.findIdx? (fun a => decide (x = a)) with | some j => (j : Int) | none => -1) := by
  refine (af1 l (fun a => decide (x = a)) (fun z => some z) (some (-1)) (fun i a hi ha kn => ?_) (fun kn => ?_)).trans (aQE _ some)
  ·try dsimp only
   unfold ac1
   have e : ((aeL x.1 a.1) && ((aeL x.2.1.1 a.2.1.1) && ((aeL x.2.1.2 a.2.1.2) && ((aeL x.2.2 a.2.2) && true)))) = decide (x = a) := by
    rw [Bool.eq_iff_iff]; simp [aeL, Prod.ext_iff, and_assoc]
   rw [acp hi, aci ha, acj hi (by omega), adH, e]
  ·try dsimp only
   unfold ac1
   rw [acL]
 rw [e, ab3]
 exact congrArg some (aLV l x)
theorem aLj {l : List acS} (hl : l.length ≤ 1000000) (x : acS) : adn l x = some (aF9 x l) := by
 unfold adn adS aeo aem
 have e : acl (fun (v5 : Int) kk7 => acW l (acs l) x.1 x.2.1 x.2.2.1 x.2.2.2.1.1 x.2.2.2.1.2 x.2.2.2.2.1.1 x.2.2.2.2.1.2 x.2.2.2.2.2 v5 (fun u6 => kk7 u6) (fun z3 => some z3) (fun _ => some (-1 : Int))) (0 : Int) = some (match l.findIdx? (fun a => decide (x = a)) with | some j => (j : Int) | none => -1) := by
  refine (af1 l (fun a => decide (x = a)) (fun z => some z) (some (-1)) (fun i a hi ha kn => ?_) (fun kn => ?_)).trans (aQE _ some)
  ·try dsimp only
   unfold acW
   have e : ((aeL x.1 a.1) && ((aeL x.2.1 a.2.1) && ((aeL x.2.2.1 a.2.2.1) && ((aeL x.2.2.2.1.1 a.2.2.2.1.1) && ((aeL x.2.2.2.1.2 a.2.2.2.1.2) && ((aeL x.2.2.2.2.1.1 a.2.2.2.2.1.1) && ((aeL x.2.2.2.2.1.2 a.2.2.2.2.1.2) && ((aeL x.2.2.2.2.2 a.2.2.2.2.2) && true)))))))) = decide (x = a) := by
    rw [Bool.eq_iff_iff]; simp [aeL, Prod.ext_iff, and_assoc]
   rw [acp hi, aci ha, acj hi (by omega), adH, e]
  ·try dsimp only
   unfold acW
   rw [acL]
 rw [e, ab3]
 exact congrArg some (aLV l x)
def aQ7 (b : acw) : List Int := b.2.1.map fun g => g.1
def ah4 {α : Type} [DecidableEq α] (x y : List α) (w : α → Bool) : Bool := x.all fun a => !w a || aF9 a y
def aSP (s b : acw) : Bool :=
 ah4 s.2.2.2.2.1 b.2.2.2.2.1 (fun _ => true) && (decide (s.1 = b.1) && (ah4 s.2.1 b.2.1 (fun _ => true) && (ah4 s.2.2.1 b.2.2.1 (fun u => (aQ7 s).contains u.1) && (ah4 b.2.2.1 s.2.2.1 (fun u => (aQ7 s).contains u.1) &&
  (ah4 s.2.2.2.1 b.2.2.2.1 (fun u => (aQ7 s).contains u.1) && ah4 b.2.2.2.1 s.2.2.2.1 (fun u => (aQ7 s).contains u.1))))))
section
variable {ρ : Type}
theorem axd {α : Type} [DecidableEq α] (x y : List α) (w : α → Bool) (X Y KF : Option ρ) {f : Int → (Int → Option ρ) → Option ρ}
 (h : ∀ (i : Nat) (a : α), i < x.length → x[i]? = some a → ∀ kn, f i kn = if !(!w a || aF9 a y) then (ifb (!(ige (i : Int) 0)) X KF) else kn ((i : Int) + 1))
 (hn : ∀ kn, f x.length kn = Y) : acl f 0 = if ah4 x y w then Y else KF := by
 refine (afS x (fun a => !(!w a || aF9 a y)) (fun z => ifb (!(ige z 0)) X KF) KF Y (fun j => by rw [show ige (j : Int) 0 = true from decide_eq_true (by omega)]; rfl) h hn).trans ?_
 unfold ah4
 rw [List.all_eq_not_any_not]
 cases x.any fun a => !(!w a || aF9 a y) <;> rfl
theorem aUC : @amY ρ = @aii ρ := rfl
theorem aE5 {x y : List Int} (hl : x.length = y.length) (hx : x.length ≤ 1000000) (k0 : Bool → Option ρ) (K : Option ρ) :
 acl (fun (v30 : Int) kk32 => aii x y (acs x) v30 (fun u31 => kk32 u31) k0 (fun _ => K)) (0 : Int) = if x = y then K else k0 false := by
 refine (amq x (fun i a => if y[i]? = some a then none else some false) k0 K (fun i a hi ha kn => ?_) (fun kn => ?_)).trans ?_
 ·try dsimp only
  unfold aii
  have hm : y[i]? = some y[i] := List.getElem?_eq_getElem (by omega)
  rw [acp hi, aci ha, aci hm, acj hi (by omega), hm, adH]
  by_cases h : a = y[i]
  ·simp [ine, h]
  ·have h' : ¬ y[i] = a := fun e => h e.symm
   simp [ine, h, h']
 ·try dsimp only
  unfold aii
  rw [acL]
 ·cases h : aeQ (fun i a => if y[i]? = some a then none else some false) 0 x with
  | none => rw [if_pos (aQb hl h)]
  | some b =>
    obtain ⟨h1, h2⟩ := aQa h
    rw [if_neg h2, h1]
theorem aQc {l : List Cmp} (hl : l.length ≤ 1000) (c : Cmp) (hA : c.2.2.1.length ≤ 1000) (hB : c.2.2.2.1.length ≤ 1000) (k0 : Int → Option ρ) (K1 KF : Option ρ) (hk : ∀ j : Nat, k0 (j : Int) = K1) :
 acl (fun (v41 : Int) kk43 => akb l (acs l) c.1 c.2.1 c.2.2.1 c.2.2.2.1 c.2.2.2.2.1 c.2.2.2.2.2.1 c.2.2.2.2.2.2.1 c.2.2.2.2.2.2.2 v41 (fun u42 => kk43 u42) k0 (fun _ => KF)) (0 : Int) = if aF9 c l then K1 else KF := by
 refine (afS l (fun d => decide (c = d)) k0 K1 KF hk (fun i d hi hd kn => ?_) (fun kn => ?_)).trans rfl
 ·try dsimp only
  unfold akb
  have hsplit : (c = d) ↔ (c.1 = d.1 ∧ c.2.1 = d.2.1 ∧ c.2.2.2.2.1 = d.2.2.2.2.1 ∧ c.2.2.2.2.2.1 = d.2.2.2.2.2.1 ∧ (c.2.2.2.2.2.2.1 = d.2.2.2.2.2.2.1 ∧ c.2.2.2.2.2.2.2 = d.2.2.2.2.2.2.2) ∧ c.2.2.1 = d.2.2.1 ∧ c.2.2.2.1 = d.2.2.2.1) := by
   simp only [Prod.ext_iff]
   constructor
   ·rintro ⟨a1, a2, a3, a4, a5, a6, a7, a8⟩; exact ⟨a1, a2, a5, a6, ⟨a7, a8⟩, a3, a4⟩
   ·rintro ⟨a1, a2, a5, a6, ⟨a7, a8⟩, a3, a4⟩; exact ⟨a1, a2, a3, a4, a5, a6, a7, a8⟩
  have hno : ∀ {P : Prop}, ¬ P → (c = d → P) → (if decide (c = d) = true then k0 (i : Int) else kn ((i : Int) + 1)) = kn ((i : Int) + 1) := fun h1 h2 => by
   rw [if_neg]
   intro h
   exact h1 (h2 (of_decide_eq_true h))
  rw [acp hi, aci hd, acj hi (by omega)]
  by_cases a1 : c.1 = d.1
  case neg => rw [hno a1 (fun e => (hsplit.1 e).1), acm (beq_eq_false_iff_ne.2 a1)]
  rw [aco (beq_iff_eq.2 a1)]
  by_cases a2 : c.2.1 = d.2.1
  case neg => rw [hno a2 (fun e => (hsplit.1 e).2.1), acm (beq_eq_false_iff_ne.2 a2)]
  rw [aco (beq_iff_eq.2 a2)]
  by_cases a3 : c.2.2.2.2.1 = d.2.2.2.2.1
  case neg => rw [hno a3 (fun e => (hsplit.1 e).2.2.1), acm (beq_eq_false_iff_ne.2 a3)]
  rw [aco (beq_iff_eq.2 a3)]
  by_cases a4 : c.2.2.2.2.2.1 = d.2.2.2.2.2.1
  case neg => rw [hno a4 (fun e => (hsplit.1 e).2.2.2.1), acm (beq_eq_false_iff_ne.2 a4)]
  rw [aco (beq_iff_eq.2 a4)]
  by_cases a5 : c.2.2.2.2.2.2.1 = d.2.2.2.2.2.2.1 ∧ c.2.2.2.2.2.2.2 = d.2.2.2.2.2.2.2
  case neg => rw [hno a5 (fun e => (hsplit.1 e).2.2.2.2.1), acm (by simp only [aeL, Bool.and_true, Bool.and_eq_false_iff, decide_eq_false_iff_not]; exact Decidable.not_and_iff_or_not.1 a5)]
  rw [aco (by simp [aeL, a5.1, a5.2]), acA, acA, acA, acA]
  have rest : ∀ X Y : Option ρ, (c.2.2.1 = d.2.2.1) → (if decide (c = d) = true then k0 (i : Int) else kn ((i : Int) + 1)) = (if c.2.2.2.1 = d.2.2.2.1 then k0 (i : Int) else kn ((i : Int) + 1)) := by
   intro _ _ h
   by_cases g : c.2.2.2.1 = d.2.2.2.1
   ·rw [if_pos (decide_eq_true (hsplit.2 ⟨a1, a2, a3, a4, a5, h, g⟩)), if_pos g]
   ·rw [if_neg g]; exact hno g (fun e => (hsplit.1 e).2.2.2.2.2.2)
  by_cases l1 : c.2.2.1.length = d.2.2.1.length
  case neg =>
   rw [hno l1 (fun e => by rw [e]), aco (bne_iff_ne.2 (by omega))]
  rw [acm (by rw [l1]; exact bne_self_eq_false' _)]
  have e3 := aE5 (ρ := ρ) l1 (by omega)
  rw [acA] at e3
  rw [e3]
  by_cases g1 : c.2.2.1 = d.2.2.1
  case neg => rw [if_neg g1, acM, hno g1 (fun e => (hsplit.1 e).2.2.2.2.2.1)]
  rw [if_pos g1, rest none none g1]
  by_cases l2 : c.2.2.2.1.length = d.2.2.2.1.length
  case neg =>
   rw [aco (bne_iff_ne.2 (by omega)), if_neg (fun e => l2 (by rw [e]))]
  rw [acm (by rw [l2]; exact bne_self_eq_false' _), aUC]
  have e4 := aE5 (ρ := ρ) l2 (by omega)
  rw [acA] at e4
  rw [e4, acM]
 ·try dsimp only
  unfold akb
  rw [acL]
theorem aUB : @aih ρ = @ag2 ρ := rfl
theorem aUA : @ada ρ = @adM ρ := rfl
theorem aVj {x y : List acS} (hx : x.length ≤ 1000) (hy : y.length ≤ 1000) (X Y KF : Option ρ) : acl (fun (v225 : Int) kk227 => aka x (acs x) y v225 (fun u226 => kk227 u226) (fun z => ifb (!(ige z 0)) X KF) (fun _ => Y)) (0 : Int) = if ah4 x y (fun _ => true) then Y else KF := by
 refine axd x y (fun _ => true) X Y KF (fun i a hi ha kn => ?_) (fun kn => ?_)
 ·try dsimp only
  unfold aka
  rw [acp hi, aci ha, aLj (by omega), ab3, acj hi (by omega), adH]
  simp
 ·try dsimp only
  unfold aka
  rw [acL]
theorem aSd {x y : List (Int × Int)} (hx : x.length ≤ 1000) (hy : y.length ≤ 1000) (ids : List Int) (X Y KF : Option ρ) : acl (fun (v225 : Int) kk227 => ag2 x (acs x) (aCR ids) y v225 (fun u226 => kk227 u226) (fun z => ifb (!(ige z 0)) X KF) (fun _ => Y)) (0 : Int) = if ah4 x y (fun u => ids.contains u.1) then Y else KF := by
 refine axd x y (fun u => ids.contains u.1) X Y KF (fun i a hi ha kn => ?_) (fun kn => ?_)
 ·try dsimp only
  unfold ag2
  rw [acp hi, aci ha, apF, aLi (by omega), ab3]
  by_cases h : ids.contains a.1 = true
  ·rw [if_pos h, ad6, acj hi (by omega), adH, h]
   simp
  ·rw [if_neg h, acj hi (by omega)]
   have h' := Bool.not_eq_true _ ▸ h
   rw [h']
   simp
 ·try dsimp only
  unfold ag2
  rw [acL]
theorem aSc {x y : List azD} (hx : x.length ≤ 1000) (hy : y.length ≤ 1000) (ids : List Int) (X Y KF : Option ρ) : acl (fun (v225 : Int) kk227 => adM x (acs x) (aCR ids) y v225 (fun u226 => kk227 u226) (fun z => ifb (!(ige z 0)) X KF) (fun _ => Y)) (0 : Int) = if ah4 x y (fun u => ids.contains u.1) then Y else KF := by
 refine axd x y (fun u => ids.contains u.1) X Y KF (fun i a hi ha kn => ?_) (fun kn => ?_)
 ·try dsimp only
  unfold adM
  rw [acp hi, aci ha, apF, aIj (by omega), ab3]
  by_cases h : ids.contains a.1 = true
  ·rw [if_pos h, ad6, acj hi (by omega), adH, h]
   simp
  ·rw [if_neg h, acj hi (by omega)]
   have h' := Bool.not_eq_true _ ▸ h
   rw [h']
   simp
 ·try dsimp only
  unfold adM
  rw [acL]
theorem aVi {x y : List azD} (hx : x.length ≤ 1000) (hy : y.length ≤ 1000) (ids : List Int) (k : Bool → Option ρ) : acl (fun (v225 : Int) kk227 => adM x (acs x) (aCR ids) y v225 (fun u226 => kk227 u226) (fun z => k (!(ige z 0))) (fun _ => k true)) (0 : Int) = k (ah4 x y (fun u => ids.contains u.1)) := by
 have h := aSc (ρ := ρ) hx hy ids (k true) (k true) (k false)
 have e : (fun z : Int => ifb (!(ige z 0)) (k true) (k false)) = fun z => k (!(ige z 0)) := by
  funext z
  cases (!(ige z 0)) <;> rfl
 rw [e] at h
 rw [h]
 cases ah4 x y (fun u => ids.contains u.1) <;> rfl
theorem aVk {x y : List Cmp} (hx : x.length ≤ 1000) (hp : ∀ c ∈ x, c.2.2.1.length ≤ 1000 ∧ c.2.2.2.1.length ≤ 1000) (hy : y.length ≤ 1000) (K : Option Bool) : acl (fun (v228 : Int) kk230 => akc x (acs x) y v228 (fun u229 => kk230 u229) (fun z44 => some z44) (fun _ => K)) (0 : Int) = if (x.all fun c => aF9 c y) = true then K else some false := by
 refine (afS x (fun c => !aF9 c y) (fun _ => some false) (some false) K (fun _ => rfl) (fun i c hi hc kn => ?_) (fun kn => ?_)).trans ?_
 rotate_left
 ·try dsimp only
  unfold akc
  rw [acL]
 ·rw [List.all_eq_not_any_not]
  cases x.any fun c => !aF9 c y <;> rfl
 ·try dsimp only
  unfold akc
  have h := hp c (List.mem_of_getElem? hc)
  rw [acp hi, aci hc]
  refine (aQc hy c h.1 h.2 _ (kn ((i : Int) + 1)) (some false) (fun j => by rw [show ige (j : Int) 0 = true from decide_eq_true (by omega), acj hi (by omega)]; rfl)).trans ?_
  cases aF9 c y <;> rfl
end
theorem part_ok {s b : acw} (hs : ahl s) (hb : ahl b) : avf s b = some (aSP s b) := by
 have g1 := hs.gauges; have g2 := hs.uses; have g3 := hs.loans; have g4 := hs.compares
 have b1 := hb.gauges; have b2 := hb.uses; have b3 := hb.loans; have b4 := hb.compares
 unfold avf aGs aSP
 rw [aUB, aUA]
 refine (adf s.2.1 (fun i => aCR (aQ7 (s.1, s.2.1.take i, s.2.2))) (some _) rfl (fun i g hi hg kn => ?_) (fun kn => ?_))
 ·try dsimp only
  unfold amZ
  rw [acp hi, aci hg, acj hi (by omega)]
  unfold aQ7
  dsimp only
  rw [take_succ hg, List.map_append, List.map_singleton, aoD]
 ·try dsimp only
  unfold amZ
  rw [acL, List.take_length]
  try dsimp only
  rw [show aQ7 (s.1, s.2.1, s.2.2) = aQ7 s from rfl]
  refine (aVk g4 hs.piles b4 _).trans ?_
  rw [show (ah4 s.2.2.2.2.1 b.2.2.2.2.1 fun _ => true) = s.2.2.2.2.1.all fun c => aF9 c b.2.2.2.2.1 from rfl]
  by_cases hc : (s.2.2.2.2.1.all fun c => aF9 c b.2.2.2.2.1) = true
  case neg => rw [if_neg hc, Bool.eq_false_iff.2 hc]; rfl
  rw [if_pos hc, hc, Bool.true_and]
  by_cases hf : s.1 = b.1
  case neg =>
   have ef : (aeL s.1.1 b.1.1 && (aeL s.1.2 b.1.2 && true)) = false := by
    rw [Prod.ext_iff] at hf
    simp [aeL]
    omega
   rw [ef, acM, decide_eq_false hf]
   rfl
  have ef : (aeL s.1.1 b.1.1 && (aeL s.1.2 b.1.2 && true)) = true := by simp [aeL, hf]
  rw [ef, ad6, decide_eq_true hf, Bool.true_and]
  refine (aVj g1 b1 _ _ _).trans ?_
  cases ah4 s.2.1 b.2.1 fun _ => true
  case false => rfl
  rw [if_pos rfl, Bool.true_and]
  refine (aSd g2 b2 _ _ _ _).trans ?_
  cases ah4 s.2.2.1 b.2.2.1 fun u => (aQ7 s).contains u.1
  case false => rfl
  rw [if_pos rfl, Bool.true_and]
  refine (aSd b2 g2 _ _ _ _).trans ?_
  cases ah4 b.2.2.1 s.2.2.1 fun u => (aQ7 s).contains u.1
  case false => rfl
  rw [if_pos rfl, Bool.true_and]
  refine (aSc g3 b3 _ _ _ _).trans ?_
  cases ah4 s.2.2.2.1 b.2.2.2.1 fun u => (aQ7 s).contains u.1
  case false => rfl
  rw [if_pos rfl, Bool.true_and]
  exact aVi b3 g3 _ some
end Go.Proofs.ZzM
end
noncomputable section
namespace Go.Proofs.ZzM
open Go Go.Am
def aop (x : List Int) (y : List Int) (l : Lk) : List Int := if gv x l.2.1 = aff then y else y.set l.1.toNat (min (gv y l.1) (l.2.2 + gv x l.2.1))
def aKP (L : List Lk) (N : Nat) (x : List Int) : List Int := L.foldl (aop x) (List.replicate N aff)
def exL (L : List Lk) (N : Nat) (to : Int) : Nat → List Int
 | 0 => (List.replicate N aff).set to.toNat 0
 | k + 1 => aKP L N (exL L N to k)
def ajn (L : List Lk) (N : Nat) (to : Int) (most : Nat) : List (List Int) := (List.range (most + 1)).map (exL L N to)
section
variable {L : List Lk} {N : Nat}
theorem aFr (x y : List Int) (l : Lk) : (aop x y l).length = y.length := by unfold aop; split <;> simp
theorem awY (x : List Int) : ∀ (M : List Lk) (y : List Int), (M.foldl (aop x) y).length = y.length
 | [], y => rfl
 | l :: M, y => by rw [List.foldl_cons, awY x M, aFr]
theorem aPf (x : List Int) : (aKP L N x).length = N := by unfold aKP; rw [awY]; simp
theorem aMG (to : Int) (k : Nat) : (exL L N to k).length = N := by
 cases k with
 | zero => simp [exL]
 | succ k => exact aPf _
def Lim (B : Int) (x : List Int) : Prop := ∀ v : Int, gv x v ≠ aff → -B ≤ gv x v ∧ gv x v ≤ B
theorem gv_out {x : List Int} {v : Int} (h : ¬ v.toNat < x.length) : gv x v = 0 := by
 unfold gv
 rw [List.getElem?_eq_none (by omega)]
 rfl
theorem aQ1 {B : Int} (hB : 0 ≤ B) : Lim B (List.replicate N aff) := by
 intro v hv
 by_cases h : v.toNat < N
 ·exfalso; apply hv
  unfold gv
  rw [List.getElem?_replicate, if_pos h]
  rfl
 ·rw [gv_out (by simpa using h)]; omega
theorem aQ0 {B : Int} {y : List Int} (hy : Lim B y) {u : Int} (hu : 0 ≤ u) (hl : u.toNat < y.length) {a : Int} (ha : a ≠ aff → -B ≤ a ∧ a ≤ B) : Lim B (y.set u.toNat a) := by
 intro v hv
 by_cases h : v.toNat = u.toNat
 ·have : gv (y.set u.toNat a) v = a := by
   unfold gv
   rw [h, List.getElem?_set_self hl]
   rfl
  rw [this] at hv ⊢
  exact ha hv
 ·have : gv (y.set u.toNat a) v = gv y v := by
   unfold gv
   rw [List.getElem?_set_ne (fun e => h e.symm)]
  rw [this] at hv ⊢
  exact hy v hv
theorem aS3 (hS : afe L N) {B : Int} (hB : 0 ≤ B) (hB2 : B ≤ 1000000000000000000) {x y : List Int} (hx : Lim B x) (hy : Lim (B + 4503599627370496) y) (hl : y.length = N) {l : Lk} (hm : l ∈ L) : Lim (B + 4503599627370496) (aop x y l) := by
 unfold aop
 split
 ·exact hy
 ·rename_i hf
  have h1 := hS.inr l hm
  have h2 := hS.most l hm
  have h3 := hx _ hf
  refine aQ0 hy h1.1.1 (by omega) fun ha => ?_
  by_cases h4 : gv y l.1 = aff
  ·rw [h4] at ha ⊢
   have : min aff (l.2.2 + gv x l.2.1) = l.2.2 + gv x l.2.1 := by unfold aff; omega
   rw [this]; omega
  ·have := hy _ h4
   omega
theorem aNS (hS : afe L N) {B : Int} (hB : 0 ≤ B) (hB2 : B ≤ 1000000000000000000) {x : List Int} (hx : Lim B x) : ∀ (M : List Lk), (∀ l ∈ M, l ∈ L) → ∀ y : List Int, y.length = N → Lim (B + 4503599627370496) y → Lim (B + 4503599627370496) (M.foldl (aop x) y)
 | [], _, y, _, hy => hy
 | l :: M, hM, y, hl, hy => by
   rw [List.foldl_cons]
   exact aNS hS hB hB2 hx M (fun m hm => hM m (by simp [hm])) _ (by rw [aFr, hl]) (aS3 hS hB hB2 hx hy hl (hM l (by simp)))
theorem aMy (hS : afe L N) {to : Int} (ht : 0 ≤ to ∧ to < N) : ∀ k : Nat, k ≤ 200 → Lim (k * 4503599627370496) (exL L N to k)
 | 0, _ => by
   unfold exL
   exact aQ0 (aQ1 (by omega)) ht.1 (by simp; omega) (fun _ => by omega)
 | k + 1, hk => by
   have := aNS hS (B := k * 4503599627370496) (by omega) (by omega) (aMy hS ht k (by omega)) L (fun _ h => h) (List.replicate N aff) (by simp) (aQ1 (by omega))
   unfold exL aKP
   have e : (((k + 1 : Nat) : Int) * 4503599627370496) = (k : Int) * 4503599627370496 + 4503599627370496 := by push_cast; omega
   rw [e]
   exact this
theorem aKM {ρ : Type} (hN : N ≤ 1000) (K : List Int → Option ρ) {f : Int × List Int → (Int × List Int → Option ρ) → Option ρ}
 (hf : ∀ (v : Int × List Int) kk, f v kk = aqg (N : Int) v.1 v.2 (fun u34 u35 => kk (u34, u35)) K) : acl f ((0 : Int), List.replicate N (0 : Int)) = K (List.replicate N aff) := by
 refine adf (List.replicate N (0 : Int)) (fun i => List.replicate i aff ++ List.replicate (N - i) (0 : Int)) _ (by simp) (fun i a hi ha kn => ?_) (fun kn => ?_)
 ·rw [hf]
  dsimp only
  unfold aqg
  rw [List.length_replicate] at hi
  have hlen : (List.replicate i aff ++ List.replicate (N - i) (0 : Int)).length = N := by simp; omega
  have e1 : ilt (i : Int) (N : Int) = true := decide_eq_true (by omega)
  rw [aco e1, show adj (List.replicate i aff ++ List.replicate (N - i) (0 : Int)) = (N : Int) by unfold adj; rw [hlen], ae9 (by omega) (by omega), agW (by rw [hlen]; omega), acr (by omega) (by omega)]
  congr 2
  rw [Int.toNat_natCast]
  rw [List.set_append_right _ _ (by simp), List.length_replicate, Nat.sub_self]
  rw [show N - i = (N - (i + 1)) + 1 by omega, List.replicate_succ, List.set_cons_zero, List.replicate_succ']
  simp
 ·rw [hf]
  dsimp only
  unfold aqg
  rw [List.length_replicate]
  have e1 : ilt (N : Int) (N : Int) = false := decide_eq_false (by omega)
  rw [acm e1]
  simp
theorem okN (hN : N ≤ 1000) {ρ : Type} (x : Option ρ) : acH ((ile (0 : Int) (N : Int)) && (acJ (Int.toNat (N : Int)))) x = x := by
 rw [adx]
 rw [Int.toNat_natCast, acq (by omega), Bool.and_true]
 exact decide_eq_true (by omega)
theorem aQZ {ρ : Type} (hS : afe L N) {B : Int} (hB : 0 ≤ B) (hB2 : B ≤ 1000000000000000000) {x : List Int} (hx : Lim B x) (hxl : x.length = N) (K : List Int → Option ρ) :
 acl (fun (v20 : (Val (.pair tI (.slice tI)))) kk23 => auk x L (acs L) v20.1 v20.2 (fun u21 u22 => kk23 (u21, u22)) K) ((0 : Int), List.replicate N aff) = K (aKP L N x) := by
 have hl3 := hS.len
 refine adf L (fun i => (L.take i).foldl (aop x) (List.replicate N aff)) _ rfl (fun i l hi hl kn => ?_) (fun kn => ?_)
 ·try dsimp only
  unfold auk
  have hm := List.mem_of_getElem? hl
  have h1 := hS.inr l hm
  have h2 := hS.most l hm
  rw [acp hi, aci hl, ajg h1.2.1 (by omega), take_succ hl, List.foldl_append, acj hi (by omega)]
  have hlen : ((L.take i).foldl (aop x) (List.replicate N aff)).length = N := by rw [awY]; simp
  generalize (L.take i).foldl (aop x) (List.replicate N aff) = y at hlen ⊢
  by_cases hf : gv x l.2.1 = aff
  ·rw [acm (by rw [hf]; rfl)]
   simp only [List.foldl_cons, List.foldl_nil]
   unfold aop
   rw [if_pos hf]
  ·have h3 := hx _ hf
   rw [aco (bne_iff_ne.2 hf), show adj y = (N : Int) by unfold adj; rw [hlen], ae9 h1.1.1 h1.1.2, agW (by omega), ajg h1.2.1 (by omega), acr (by omega) (by omega), ae9 h1.1.1 h1.1.2, agW (by omega), acj hi (by omega)]
   simp only [List.foldl_cons, List.foldl_nil]
   unfold aop
   rw [if_neg hf, awR]
 ·try dsimp only
  unfold auk
  rw [acL, List.take_length]
  rfl
theorem aTl {ρ : Type} : @aGN ρ = @aqg ρ := rfl
theorem ahj (to : Int) (m : Nat) : (ajn L N to m).length = m + 1 := by simp [ajn]
theorem awX {to : Int} {m k : Nat} (hk : k ≤ m) : (ajn L N to m)[k]? = some (exL L N to k) := by
 unfold ajn
 rw [List.getElem?_map, List.getElem?_range (by omega)]
 rfl
theorem aTk (hS : afe L N) {to : Int} (ht : 0 ≤ to ∧ to < N) {most : Nat} (hm : most ≤ 100) : apN ((N : Int), L) to (most : Int) = some (ajn L N to most) := by
 have hN := hS.n60
 unfold apN aAR
 dsimp only
 rw [okN (by omega), Int.toNat_natCast]
 refine (aKM (by omega) _ (fun v kk => by rw [acA, List.length_replicate])).trans ?_
 rw [show adj (List.replicate N aff) = (N : Int) by simp [adj], ae9 ht.1 ht.2, agW (by simp; omega)]
 refine adf (List.replicate most ()) (fun i => ajn L N to i) _ (by simp [ajn, exL]) (fun i a hi ha kn => ?_) (fun kn => ?_)
 ·try dsimp only
  unfold azn
  rw [List.length_replicate] at hi
  have e1 : ilt (i : Int) (most : Int) = true := decide_eq_true (by omega)
  rw [aco e1, acA, ahj]
  have e2 : (((i + 1 : Nat) : Int) - 1) = (i : Int) := by omega
  rw [e2, acr (by omega) (by omega), show adj (ajn L N to i) = ((i + 1 : Nat) : Int) by unfold adj; rw [ahj], ae9 (by omega) (by omega), Int.toNat_natCast, ahw (awX (Nat.le_refl i)), okN (by omega), Int.toNat_natCast]
  rw [aTl]
  refine (aKM (by omega) _ (fun v kk => by rw [acA, List.length_replicate])).trans ?_
  refine (aQZ hS (B := i * 4503599627370496) (by omega) (by omega) (aMy hS ht i (by omega)) (aMG _ _) _).trans ?_
  rw [adx (acq (by simp only [ahj, List.length_singleton]; omega)), acr (by omega) (by omega)]
  congr 2
  unfold ajn
  rw [List.range_succ (n := i + 1), List.map_append]
  rfl
 ·try dsimp only
  unfold azn
  rw [List.length_replicate]
  have e1 : ilt (most : Int) (most : Int) = false := decide_eq_false (by omega)
  rw [acm e1]
def aCW (L : List Lk) (x : List Int) (good : Int → Bool) (u sum : Int) : Option Nat := L.findIdx? fun l => l.1 == u && (decide (gv x l.2.1 ≠ aff) && good (sum + l.2.2 + gv x l.2.1))
def alK (L : List Lk) (rest : Nat → List Int) (good : Int → Bool) : Nat → Int → Int → List Int → List Int
 | 0, _, _, out => out
 | k + 1, u, sum, out => match aCW L (rest k) good u sum with
   | some i => alK L rest good k (L[i]?.getD (0, 0, 0)).2.1 (sum + (L[i]?.getD (0, 0, 0)).2.2) (out ++ [(i : Int)])
   | none => alK L rest good k u sum out
def folL {ρ : Type} (good : Int → Bool) (c0 : Int) (c1 : List (List Int)) (c2 : List Lk) (c3 : Int) (v0 : Int) (v1 : Int) (v2 : Int) (v3 : List Int) (kn : Int → Int → Int → List Int → Option ρ) (k0 : Int × Int × List Int → Option ρ) : Option ρ :=
 ifb (ilt v2 c3) (adv c2 v2 fun e7 => ifb (ieq e7.1 v0) (ck (c0 - (1 : Int)) fun n8 => adv c1 n8 fun e9 => adv e9 e7.2.1 fun e10 => ifb (ine e10 (1152921504606846976 : Int)) (ck (v1 + e7.2.2) fun n11 => ck (c0 - (1 : Int)) fun n12 => adv c1 n12 fun e13 => adv e13 e7.2.1 fun e14 => ck (n11 + e14) fun n15 => ifb (good n15) (acH (acJ ((List.length v3) + (List.length ([v2])))) (ck (v1 + e7.2.2) fun n16 => k0 (e7.2.1, n16, (v3 ++ ([v2]))))) (ck (v2 + (1 : Int)) fun n17 => kn v0 v1 n17 v3)) (ck (v2 + (1 : Int)) fun n18 => kn v0 v1 n18 v3)) (ck (v2 + (1 : Int)) fun n19 => kn v0 v1 n19 v3)) (k0 (v0, v1, v3))
theorem aUU {ρ : Type} (hS : afe L N) (good : Int → Bool) {rest : List (List Int)} {k : Nat} {x : List Int} (hr : rest[k]? = some x) (hk : k ≤ 100) (hx : Lim 1000000000000000000 x) (hxl : x.length = N) {u sum : Int} (hs : -1000000000000000000 ≤ sum ∧ sum ≤ 1000000000000000000) {out : List Int} (ho : out.length ≤ 1000)
 (K : Int × Int × List Int → Option ρ) : acl (fun (v : Int × Int × Int × List Int) kk => folL good ((k + 1 : Nat) : Int) rest L (acs L) v.1 v.2.1 v.2.2.1 v.2.2.2 (fun a b c d => kk (a, b, c, d)) K) (u, sum, (0 : Int), out) =
  match aCW L x good u sum with | some i => K ((L[i]?.getD (0, 0, 0)).2.1, sum + (L[i]?.getD (0, 0, 0)).2.2, out ++ [(i : Int)]) | none => K (u, sum, out) := by
 have hl3 := hS.len
 refine afs (fun v => ∃ i : Nat, i ≤ L.length ∧ v = (u, sum, (i : Int), out) ∧ ∀ j l, j < i → L[j]? = some l → (l.1 == u && (decide (gv x l.2.1 ≠ aff) && good (sum + l.2.2 + gv x l.2.1))) = false) (fun v => L.length - v.2.2.1.toNat) ?_ ⟨0, by omega, rfl, fun j l h => by omega⟩
 rintro v ⟨i, hi, rfl, hp⟩
 have e0 : (((k + 1 : Nat) : Int) - 1) = (k : Int) := by omega
 rcases Nat.lt_or_ge i L.length with h2 | h2
 ·have hl : L[i]? = some L[i] := List.getElem?_eq_getElem h2
  generalize L[i] = l at hl
  have hm := List.mem_of_getElem? hl
  have h1 := hS.inr l hm
  have h4 := hS.most l hm
  have hstep : (l.1 == u && (decide (gv x l.2.1 ≠ aff) && good (sum + l.2.2 + gv x l.2.1))) = false → ∃ y, (∃ i : Nat, i ≤ L.length ∧ y = (u, sum, (i : Int), out) ∧ ∀ j l, j < i → L[j]? = some l → (l.1 == u && (decide (gv x l.2.1 ≠ aff) && good (sum + l.2.2 + gv x l.2.1))) = false) ∧ (L.length - y.2.2.1.toNat < L.length - ((u, sum, (i : Int), out) : Int × Int × Int × List Int).2.2.1.toNat) ∧ y = (u, sum, (i : Int) + 1, out) := fun hf =>
   ⟨_, ⟨i + 1, h2, by rw [show ((i + 1 : Nat) : Int) = (i : Int) + 1 by push_cast; rfl], fun j m hj hm => by
    rcases Nat.lt_succ_iff_lt_or_eq.1 hj with h | rfl
    ·exact hp j m h hm
    ·rw [hl] at hm; cases hm; exact hf⟩, by simp; omega, rfl⟩
  by_cases hf : (l.1 == u && (decide (gv x l.2.1 ≠ aff) && good (sum + l.2.2 + gv x l.2.1))) = true
  ·refine .inl fun kn => ?_
   have hfi : aCW L x good u sum = some i := by
    unfold aCW
    rw [List.findIdx?_eq_some_iff_getElem]
    obtain ⟨hh, rfl⟩ := List.getElem?_eq_some_iff.1 hl
    exact ⟨h2, hf, fun j hj => by have := hp j _ hj (List.getElem?_eq_getElem (by omega)); rw [this]; simp⟩
   rw [hfi]
   simp only [Bool.and_eq_true, beq_iff_eq, decide_eq_true_eq] at hf
   have h5 := hx _ hf.2.1
   dsimp only
   unfold folL
   rw [acp h2, aci hl, aco (by simp [hf.1]), e0, acr (by omega) (by omega), aci hr, ajg h1.2.1 (by omega), aco (bne_iff_ne.2 hf.2.1), acr (by omega) (by omega), acr (by omega) (by omega), aci hr, ajg h1.2.1 (by omega), acr (by omega) (by omega), aco hf.2.2,
    adx (acq (by simp; omega)), acr (by omega) (by omega), hl]
   rfl
  ·have hf' := Bool.not_eq_true _ ▸ hf
   obtain ⟨y, hy1, hy2, rfl⟩ := hstep hf'
   refine .inr ⟨_, hy1, hy2, fun kn => ?_⟩
   dsimp only
   unfold folL
   rw [acp h2, aci hl, acj h2 (by omega)]
   by_cases g1 : l.1 = u
   ·rw [aco (by simp [g1]), e0, acr (by omega) (by omega), aci hr, ajg h1.2.1 (by omega)]
    by_cases g2 : gv x l.2.1 = aff
    ·rw [acm (by rw [g2]; rfl)]
    ·have h5 := hx _ g2
     have g3 : good (sum + l.2.2 + gv x l.2.1) = false := by simpa [g1, g2] using hf'
     rw [aco (bne_iff_ne.2 g2), acr (by omega) (by omega), acr (by omega) (by omega), aci hr, ajg h1.2.1 (by omega), acr (by omega) (by omega), acm g3]
   ·rw [acm (by simpa using g1)]
 ·refine .inl fun kn => ?_
  obtain rfl : i = L.length := by omega
  have hfi : aCW L x good u sum = none := by
   unfold aCW
   rw [List.findIdx?_eq_none_iff]
   intro l hl
   obtain ⟨j, hj, rfl⟩ := List.mem_iff_getElem.1 hl
   exact hp j _ hj (List.getElem?_eq_getElem hj)
  rw [hfi]
  dsimp only
  unfold folL
  rw [acL]
def aUT {ρ : Type} (good : Int → Bool) (c0 : List (List Int)) (c6 : List Lk) (v0 : Int) (v1 : Int) (v2 : Int) (v3 : List Int) (kn : Int → Int → Int → List Int → Option ρ) (k0 : List Int → Option ρ) : Option ρ :=
 ifb (igt v1 (0 : Int)) (acl (fun (v22 : Int × Int × Int × List Int) kk27 => folL good v1 c0 c6 (acs c6) v22.1 v22.2.1 v22.2.2.1 v22.2.2.2 (fun u23 u24 u25 u26 => kk27 (u23, u24, u25, u26)) (fun z20 => ck (v1 - (1 : Int)) fun n21 => kn z20.1 n21 z20.2.1 z20.2.2)) (v0, v2, (0 : Int), v3)) (k0 v3)
theorem aTB {ρ : Type} (c0 : List (List Int)) (c4 : Int) (c6 : List Lk) : @ak3 ρ c0 c4 c6 = aUT (fun n => ieq n c4) c0 c6 := rfl
theorem aUS {ρ : Type} (hS : afe L N) (good : Int → Bool) {rest : List (List Int)} {R : Nat → List Int} {k0 : Nat} (hk : k0 ≤ 100) (hr : ∀ k, k < k0 → rest[k]? = some (R k)) (hx : ∀ k, k < k0 → Lim 900000000000000000 (R k) ∧ (R k).length = N) (u : Int) (K : List Int → Option ρ) :
 acl (fun (v : Int × Int × Int × List Int) kk => aUT good rest L v.1 v.2.1 v.2.2.1 v.2.2.2 (fun a b c d => kk (a, b, c, d)) K) (u, (k0 : Int), (0 : Int), []) = K (alK L R good k0 u 0 []) := by
 have key := amr (f := fun (v : Int × Int × Int × List Int) kk => aUT good rest L v.1 v.2.1 v.2.2.1 v.2.2.2 (fun a b c d => kk (a, b, c, d)) K) (F := fun v => K (alK L R good v.2.1.toNat v.1 v.2.2.1 v.2.2.2))
  (fun v => ∃ k : Nat, v.2.1 = k ∧ k ≤ k0 ∧ (-(((k0 - k : Nat) : Int) * 4503599627370496) ≤ v.2.2.1 ∧ v.2.2.1 ≤ ((k0 - k : Nat) : Int) * 4503599627370496) ∧ v.2.2.2.length ≤ k0 - k) (fun v => v.2.1.toNat) (fun v hv kn hk => ?_) (x := (u, (k0 : Int), 0, [])) ⟨k0, rfl, Nat.le_refl _, by simp, by simp⟩
 ·rw [key]; simp
 ·obtain ⟨u, k', sum, out⟩ := v
  obtain ⟨k, e, h1, h2, h3⟩ := hv
  dsimp only at e h2 h3 hk ⊢
  subst e
  rw [Int.toNat_natCast] at hk ⊢
  unfold aUT
  cases k with
  | zero =>
    rw [acm (by rfl)]
    rfl
  | succ k =>
    rw [aco (decide_eq_true (by omega))]
    have hh := hx k (by omega)
    have hlim : Lim 1000000000000000000 (R k) := fun v hv => by have := hh.1 v hv; omega
    refine (aUU hS good (hr k (by omega)) (by omega) hlim hh.2 (by omega) (by omega) _).trans ?_
    unfold alK
    have e0 : (((k + 1 : Nat) : Int) - 1) = (k : Int) := by omega
    cases hn : aCW L (R k) good u sum with
    | none =>
      dsimp only
      rw [e0, acr (by omega) (by omega), hk _ ⟨k, rfl, by omega, by dsimp only; omega, by dsimp only; omega⟩ (by simp)]
      simp
    | some i =>
      have hi : i < L.length := by
       unfold aCW at hn
       exact (List.findIdx?_eq_some_iff_getElem.1 hn).1
      have hl : L[i]? = some L[i] := List.getElem?_eq_getElem hi
      have h4 := hS.most L[i] (List.getElem_mem _)
      dsimp only
      rw [hl]
      simp only [Option.getD_some]
      rw [e0, acr (by omega) (by omega), hk _ ⟨k, rfl, by omega, by dsimp only; omega, by simp; omega⟩ (by simp)]
      simp
def aCO (L : List Lk) (N : Nat) (u v : Int) : List Int × Int :=
 if (afD L N u v).2 ≠ 0 then ([], (afD L N u v).2) else
 match (ajn L N v N).findIdx? (fun x => gv x u == (afD L N u v).1) with
 | some k => (alK L (exL L N v) (fun n => ieq n (afD L N u v).1) k u 0 [], 0)
 | none => ([], 0)
theorem aOx (hS : afe L N) {u v : Int} (hu : 0 ≤ u ∧ u < N) (hv : 0 ≤ v ∧ v < N) : apQ ((N : Int), L) u v = some (aCO L N u v) := by
 have hN := hS.n60
 unfold apQ aBb aCO
 rw [azF hS hu hv, ab3]
 by_cases h : (afD L N u v).2 = 0
 ·rw [acm (by rw [h]; rfl), if_neg (by simp [h]), aTk hS hv (by omega), ab3]
  rw [aTB]
  let k0 : Int → Option (List Int × Int) := fun j => acl (fun (v29 : Int × Int × Int × List Int) kk34 => aUT (fun n => ieq n (afD L N u v).1) (ajn L N v N) L v29.1 v29.2.1 v29.2.2.1 v29.2.2.2 (fun u30 u31 u32 u33 => kk34 (u30, u31, u32, u33)) (fun z28 => some ((z28, (0 : Int)) : List Int × Int))) (u, j, (0 : Int), [])
  refine (af1 (ajn L N v N) (fun x => gv x u == (afD L N u v).1) k0 (k0 (-1)) (fun i x hi hx kn => ?_) (fun kn => ?_)).trans ?_
  rotate_left
  ·try dsimp only
   unfold ak4
   rw [acL]
  ·have hex : ∀ k, k < N + 1 → (ajn L N v N)[k]? = some (exL L N v k) := fun k hk => awX (by omega)
   have hlim : ∀ k, k < N + 1 → Lim 900000000000000000 (exL L N v k) ∧ (exL L N v k).length = N := fun k hk => ⟨fun w hw => by
    have := aMy hS hv k (by omega) w hw; omega, aMG _ _⟩
   cases hf : (ajn L N v N).findIdx? (fun x => gv x u == (afD L N u v).1) with
   | none =>
     have := amr (f := fun (v29 : Int × Int × Int × List Int) kk34 => aUT (fun n => ieq n (afD L N u v).1) (ajn L N v N) L v29.1 v29.2.1 v29.2.2.1 v29.2.2.2 (fun u30 u31 u32 u33 => kk34 (u30, u31, u32, u33)) (fun z28 => some ((z28, (0 : Int)) : List Int × Int))) (F := fun _ => some (([], 0) : List Int × Int)) (fun v => v.2.1 = -1 ∧ v.2.2.2 = []) (fun _ => 0) (fun x hx kn hk => by
      unfold aUT
      rw [hx.1, hx.2]
      rfl) (x := (u, (-1 : Int), (0 : Int), [])) ⟨rfl, rfl⟩
     exact this
   | some k =>
     have hk := (List.findIdx?_eq_some_iff_getElem.1 hf).1
     rw [ahj] at hk
     exact aUS hS _ (R := exL L N v) (by omega) (fun j hj => hex j (by omega)) (fun j hj => hlim j (by omega)) u (fun z => some ((z, (0 : Int)) : List Int × Int))
  ·try dsimp only
   unfold ak4
   have hxl : x.length = N := by
    have hi' := hi
    rw [ahj] at hi'
    rw [awX (by omega)] at hx
    cases hx
    exact aMG _ _
   rw [ahj] at hi
   rw [acA, ahj, aco (decide_eq_true (by omega)), aci hx, ajg hu.1 (by omega), acr (by omega) (by omega), adH]
 ·rw [aco (bne_iff_ne.2 h), if_pos h]
end
end Go.Proofs.ZzM
end
noncomputable section
namespace Go.Proofs.ZzM
open Go Go.Am
def aP6 (f : Int → Int → Int) (z : Int) (l : List Int) (d : Int) : Int := match l with | [] => z | x :: _ => f x d
def avn (f : Int → Int → Int) (z : Int) (c : Cmp) : Int := aP6 f z (ac6 c.2.2.1 c.2.2.2.1) c.2.1 - aP6 f z (ac6 c.2.2.2.1 c.2.2.1) c.2.1
structure aVl (b : acw) (f : Int → Int → Int) (z : Int) (g : acS) : Prop where
 hi : f g.1 g.2.1 ≤ z + (g.2.2.1 + g.2.2.2.1.2)
 lo : z + (g.2.2.1 + g.2.2.2.1.1) ≤ f g.1 g.2.1
 down : ∀ d e, g.2.1 ≤ d → d ≤ e → f g.1 e ≤ f g.1 d
 loss : ∀ d e, g.2.1 ≤ d → d ≤ e → f g.1 d ≤ f g.1 e + ag6 b g d e
structure aLq (b : acw) (f : Int → Int → Int) (z : Int) : Prop where
 gauge : ∀ g ∈ b.2.1, aVl b f z g
 cmp : ∀ c ∈ b.2.2.2.2.1, (afn b c).1 ≤ avn f z c ∧ avn f z c ≤ (afn b c).2
theorem aKN {b : acw} (h : ads b) {p : Int → Int} (hg : ∀ g ∈ b.2.1, akA b p g) : ∃ f : Int → Int → Int, (∀ g ∈ b.2.1, aVl b f (p 0) g) ∧ ∀ g ∈ b.2.1, ∀ d ∈ acB b g, f g.1 d = p (aeS b g.1 d) := by
 let f : Int → Int → Int := fun id d => match ahM b id with | some g => fill b p g d | none => 0
 have hfv : ∀ g ∈ b.2.1, ∀ d, f g.1 d = fill b p g d := fun g hgm d => by
  show (match ahM b g.1 with | some g => fill b p g d | none => 0) = _
  rw [asI h.ids hgm]
 refine ⟨f, fun g hgm => ?_, fun g hgm d hd => by rw [hfv g hgm]; exact azu h hgm (hg g hgm) hd⟩
 have gf := hg g hgm
 have e0 : f g.1 g.2.1 = p (aeS b g.1 g.2.1) := by rw [hfv g hgm]; exact azu h hgm gf (aiE g)
 refine ⟨by rw [e0]; exact gf.hi, by rw [e0]; exact gf.lo, fun d e h0 hde => ?_, fun d e h0 hde => ?_⟩
 ·rw [hfv g hgm, hfv g hgm]
  exact (avd h hgm gf h0 hde).1
 ·rw [hfv g hgm, hfv g hgm]
  exact (avd h hgm gf h0 hde).2
theorem aID {b : acw} {f : Int → Int → Int} {p : Int → Int} (hm : ∀ g ∈ b.2.1, ∀ d ∈ acB b g, f g.1 d = p (aeS b g.1 d)) {l : List Int} {day : Int} (hl : ∀ x ∈ l, ∃ g ∈ b.2.1, g.1 = x ∧ day ∈ acB b g) : p (ay4 b l day) = aP6 f (p 0) l day := by
 cases l with
 | nil => rfl
 | cons x t =>
   obtain ⟨g, q1, rfl, q3⟩ := hl x (by simp)
   exact (hm g q1 day q3).symm
theorem aCj {b : acw} {f : Int → Int → Int} {p : Int → Int} (hm : ∀ g ∈ b.2.1, ∀ d ∈ acB b g, f g.1 d = p (aeS b g.1 d)) {c : Cmp}
 (hl : ∀ x, x ∈ ac6 c.2.2.1 c.2.2.2.1 ∨ x ∈ ac6 c.2.2.2.1 c.2.2.1 → ∃ g ∈ b.2.1, g.1 = x ∧ c.2.1 ∈ acB b g) : p (cx b c) - p (cy b c) = avn f (p 0) c := by
 unfold avn
 rw [aw2, aw1, aID hm (fun x hx => hl x (.inl hx)), aID hm (fun x hx => hl x (.inr hx))]
theorem aEx {b : acw} (h : ads b) (f : Int → Int → Int) (z : Int) {l : List Int} {day : Int} (hl : ∀ x ∈ l, ∃ g ∈ b.2.1, g.1 = x ∧ day ∈ acB b g) : aEy b f z (ay4 b l day) = aP6 f z l day := by
 rw [axa h f z hl]
 unfold aP6
 cases l <;> rfl
theorem az0 {b : acw} (h : ads b) {f : Int → Int → Int} {z : Int} {c : Cmp} (hl : ∀ x, x ∈ ac6 c.2.2.1 c.2.2.2.1 ∨ x ∈ ac6 c.2.2.2.1 c.2.2.1 → ∃ g ∈ b.2.1, g.1 = x ∧ c.2.1 ∈ acB b g) : aEy b f z (cx b c) - aEy b f z (cy b c) = avn f z c := by
 unfold avn
 rw [aw2, aw1, aEx h f z (fun x hx => hl x (.inl hx)), aEx h f z (fun x hx => hl x (.inr hx))]
theorem aEw {b : acw} (h : ads b) {f : Int → Int → Int} {z : Int} {g : acS} (hg : g ∈ b.2.1) (hh : aVl b f z g) : akA b (aEy b f z) g := by
 have q : ∀ d ∈ acB b g, aEy b f z (aeS b g.1 d) = f g.1 d := fun d hd => as2 h f z hg hd
 have e0 := q g.2.1 (aiE g)
 refine ⟨?_, ?_, fun d e hd he hde => ?_, fun d e hd he hde => ?_⟩
 ·rw [e0, ajZ]; exact hh.hi
 ·rw [e0, ajZ]; exact hh.lo
 ·rw [q d hd, q e he]; exact hh.down d e (h.day hg hd).1 hde
 ·rw [q d hd, q e he]; exact hh.loss d e (h.day hg hd).1 hde
section
variable {b : acw} {c : Cmp}
theorem aSL (h : ads b) {p : Int → Int} (hp : Pot (acn b) p) : ∃ f, aLq b f (p 0) ∧ ∀ g ∈ b.2.1, ∀ d ∈ acB b g, f g.1 d = p (aeS b g.1 d) := by
 obtain ⟨hg, hc⟩ := (aFU h).1 hp
 obtain ⟨f, hf, hm⟩ := aKN h hg
 refine ⟨f, ⟨hf, fun c hcm => ?_⟩, hm⟩
 have := aCj hm (c := c) (fun x hx => ajw h hcm hx)
 have := hc c hcm
 omega
theorem aTb (h : ads b) {f : Int → Int → Int} {z : Int} (hh : aLq b f z) : Pot (acn b) (aEy b f z) := by
 refine (aFU h).2 ⟨fun g hg => aEw h hg (hh.gauge g hg), fun c hc => ?_⟩
 have := az0 (f := f) (z := z) h (c := c) (fun x hx => ajw h hc hx)
 have := hh.cmp c hc
 omega
theorem aOa (h : ads b) {d : Cmp} (hd : d ∈ b.2.2.2.2.1) : ∀ x, x ∈ ac6 d.2.2.1 d.2.2.2.1 ∨ x ∈ ac6 d.2.2.2.1 d.2.2.1 → ∃ g ∈ (acD b c).2.1, g.1 = x ∧ d.2.1 ∈ acB (acD b c) g := by
 intro x hx
 obtain ⟨g, q1, q2, q3⟩ := ajw h hd hx
 exact ⟨g, q1, q2, amE q3⟩
theorem aQ9 (h : ads b) (h' : ads (acD b c)) {p : Int → Int} (hp : Pot (acO (acD b c)) p) : ∃ f, aLq b f (p 0) ∧ p (cx (acD b c) c) - p (cy (acD b c) c) = avn f (p 0) c := by
 obtain ⟨hg, hc⟩ := (azs h').1 hp
 obtain ⟨f, hf, hm⟩ := aKN h' hg
 refine ⟨f, ⟨fun g hgm => ?_, fun d hd => ?_⟩, aCj hm fun x hx => ajw h' aqb hx⟩
 ·have := hf g hgm
  exact ⟨this.hi, this.lo, this.down, this.loss⟩
 ·have := aCj hm (c := d) (aOa h hd)
  have := hc d hd
  omega
theorem aQ8 (h : ads b) (h' : ads (acD b c)) {f : Int → Int → Int} {z : Int} (hh : aLq b f z) : Pot (acO (acD b c)) (aEy (acD b c) f z) ∧ aEy (acD b c) f z (cx (acD b c) c) - aEy (acD b c) f z (cy (acD b c) c) = avn f z c := by
 refine ⟨(azs h').2 ⟨fun g hg => aEw h' hg ?_, fun d hd => ?_⟩, az0 h' fun x hx => ajw h' aqb hx⟩
 ·have := hh.gauge g hg
  exact ⟨this.hi, this.lo, this.down, this.loss⟩
 ·have := az0 (f := f) (z := z) h' (c := d) (aOa h hd)
  have := hh.cmp d hd
  omega
theorem aJc (h : ads b) : adR (acn b) ((acd b).length + 1) = true ↔ ∃ f z, aLq b f z := by
 have := h.sys.n60
 rw [aep h.sys.links (by omega)]
 constructor
 ·rintro ⟨p, hp⟩
  obtain ⟨f, hf, _⟩ := aSL h hp
  exact ⟨f, _, hf⟩
 ·rintro ⟨f, z, hh⟩
  exact ⟨_, aTb h hh⟩
theorem d_max (h : ads b) (h' : ads (acD b c)) {f : Int → Int → Int} {z : Int} (hh : aLq b f z) : dLo b c ≤ avn f z c ∧ avn f z c ≤ dHi b c := by
 have ho : adR (acO (acD b c)) ((acd (acD b c)).length + 1) = true := by rw [akk h h']; exact (aJc h).2 ⟨f, z, hh⟩
 obtain ⟨hp, hd⟩ := aQ8 h h' hh
 have a1 := aHT (agu h') (agL h') ho (arE h') (arD h') hp
 have a2 := aHT (agu h') (agL h') ho (arD h') (arE h') hp
 unfold dLo dHi
 omega
theorem d_all (h : ads b) (h' : ads (acD b c)) (ho : adR (acn b) ((acd b).length + 1) = true) {t : Int} (h1 : dLo b c ≤ t) (h2 : t ≤ dHi b c) : ∃ f z, aLq b f z ∧ avn f z c = t := by
 rw [← akk h h'] at ho
 obtain ⟨p, hp, hd⟩ := aRs (agu h') (agL h') ho (arE h') (arD h') h1 h2
 obtain ⟨f, hf, he⟩ := aQ9 h h' hp
 exact ⟨f, _, hf, by rw [← he]; exact hd⟩
theorem aU1 (h : ads b) (h' : ads (acD b c)) (ho : adR (acn b) ((acd b).length + 1) = true) : dLo b c ≤ dHi b c := by
 rw [← akk h h'] at ho
 exact avm (agu h') (agL h') ho (arE h') (arD h')
structure Pred (b : acw) (c : Cmp) (s : Int × Int) : Prop where
 good : ads b
 good2 : ads (acD b (aca c))
 order : aMw b c ≤ asH b c
 has : ∃ f z, aLq b f z
 ends : s.1 - aMw b c ≤ s.2 - asH b c
 bd : -9007199254740992 ≤ s.1 - aMw b c ∧ s.2 - asH b c ≤ 9007199254740992
 all : ∀ f z, aLq b f z → s.1 - aMw b c ≤ avn f z c ∧ avn f z c ≤ s.2 - asH b c
 each : ∀ t, s.1 - aMw b c ≤ t → t ≤ s.2 - asH b c → ∃ f z, aLq b f z ∧ avn f z c = t
theorem aIR (hp : (adG b c).2 = 0) : Pred b c (adG b c).1 := by
 obtain ⟨h, h'⟩ := ajG hp
 rw [aCM h h'] at hp ⊢
 by_cases ho : adR (acn b) ((acd b).length + 1) = true
 ·rw [if_pos ho] at hp ⊢
  obtain ⟨h1, h2⟩ := aLz hp
  rw [h2]
  have e1 : aMw b (aca c) = aMw b c := rfl
  have e2 : asH b (aca c) = asH b c := rfl
  rw [e1, e2] at *
  have s1 : dLo b (aca c) + aMw b c - aMw b c = dLo b (aca c) := by omega
  have s2 : dHi b (aca c) + asH b c - asH b c = dHi b (aca c) := by omega
  refine ⟨h, h', h1, (aJc h).1 ho, ?_, ?_, fun f z hh => ?_, fun t t1 t2 => ?_⟩
  ·simp only
   rw [s1, s2]
   exact aU1 h h' ho
  ·simp only
   rw [s1, s2]
   rw [← akk h h'] at ho
   have a1 := aN9 (agu h') (agL h') ho (arE h') (arD h')
   have a2 := aN9 (agu h') (agL h') ho (arD h') (arE h')
   unfold dLo dHi
   omega
  ·simp only
   rw [s1, s2]
   exact d_max (c := aca c) h h' hh
  ·simp only at t1 t2
   rw [s1] at t1
   rw [s2] at t2
   exact d_all (c := aca c) h h' ho t1 t2
 ·rw [if_neg ho] at hp
  simp at hp
end
end Go.Proofs.ZzM
end
noncomputable section
namespace Go.Proofs.ZzM
open Go Go.Am
theorem aFJ {b : acw} (h : ads b) : (aeq b).length = (acn b).length := by
 have g0 : ∀ i, ((b.2.1.take i).mapIdx (adC b)).flatten.length = ((b.2.1.take i).flatMap (adt b)).length := by
  intro i
  induction i with
  | zero => simp
  | succ i ih =>
    rcases Nat.lt_or_ge i b.2.1.length with hi | hi
    ·have hg : b.2.1[i]? = some b.2.1[i] := List.getElem?_eq_getElem hi
     rw [ah8 _ hg, take_succ hg, List.flatMap_append, List.flatten_append, List.length_append, List.length_append, ih]
     congr 1
     unfold adC adt
     simp only [List.flatMap_cons, List.flatMap_nil, List.append_nil, List.flatten_cons, List.flatten_nil, List.length_append]
     rw [agU _ _ (fun _ => rfl), agU _ _ (fun _ => rfl)]
     rfl
    ·rw [List.take_of_length_le (by omega)] at ih ⊢
     exact ih
 have c0 := aPz (b := b) b.2.2.2.2.1.length (Nat.le_refl _)
 have g1 := g0 b.2.1.length
 rw [List.take_length] at c0 g1
 unfold aeq acn
 rw [List.length_append, List.length_append, g1, c0.1, c0.2]
theorem aKC {b : acw} : ∀ s ∈ (b.2.1.mapIdx (adC b)).flatten, (s.1 = 1 ∨ s.1 = 2) ∧ 0 ≤ s.2 ∧ s.2 < b.2.1.length := by
 intro s hs
 obtain ⟨l, hl, hm⟩ := List.mem_flatten.1 hs
 obtain ⟨i, hi, rfl⟩ := List.mem_iff_getElem.1 hl
 rw [List.length_mapIdx] at hi
 rw [List.getElem_mapIdx] at hm
 unfold adC at hm
 rcases List.mem_append.1 hm with h | h
 ·simp at h; subst h; exact ⟨.inl rfl, by dsimp only; omega, by dsimp only; omega⟩
 ·obtain ⟨_, _, h⟩ := List.mem_flatMap.1 h
  simp at h; subst h; exact ⟨.inr rfl, by dsimp only; omega, by dsimp only; omega⟩
theorem aKT {l : List Cmp} : ∀ s ∈ (l.mapIdx fun i (_ : Cmp) => [((3 : Int), (i : Int)), ((3 : Int), (i : Int))]).flatten, s.1 = 3 ∧ 0 ≤ s.2 ∧ s.2 < l.length := by
 intro s hs
 obtain ⟨m, hl, hm⟩ := List.mem_flatten.1 hs
 obtain ⟨i, hi, rfl⟩ := List.mem_iff_getElem.1 hl
 rw [List.length_mapIdx] at hi
 rw [List.getElem_mapIdx] at hm
 simp at hm; subst hm
 exact ⟨rfl, by dsimp only; omega, by dsimp only; omega⟩
theorem aSY (b : acw) (c : Cmp) : ∃ S : List (Int × Int), aeq (acD b c) = S ++ [(3, (b.2.2.2.2.1.length : Int)), (3, (b.2.2.2.2.1.length : Int))] ∧ ∀ s ∈ S, ¬ (s.1 = 3 ∧ s.2 = (b.2.2.2.2.1.length : Int)) := by
 refine ⟨((acD b c).2.1.mapIdx (adC (acD b c))).flatten ++ (b.2.2.2.2.1.mapIdx fun i (_ : Cmp) => [((3 : Int), (i : Int)), ((3 : Int), (i : Int))]).flatten, ?_, fun s hs => ?_⟩
 ·unfold aeq
  rw [show (acD b c).2.2.2.2.1 = b.2.2.2.2.1 ++ [c] from rfl, List.mapIdx_append, List.flatten_append, List.append_assoc]
  simp
 ·rcases List.mem_append.1 hs with h | h
  ·have := aKC s h; omega
  ·have := aKT s h; omega
theorem aE6 (b : acw) (c : Cmp) (h : ads (acD b c)) : acn (acD b c) = acO (acD b c) ++ [(cy (acD b c) c, cx (acD b c) c, (afn (acD b c) c).2), (cx (acD b c) c, cy (acD b c) c, -(afn (acD b c) c).1)] := by
 rw [aMD]
 unfold acn
 rw [show (acD b c).2.2.2.2.1 = b.2.2.2.2.1 ++ [c] from rfl, List.flatMap_append, List.append_assoc]
 simp [ac3]
def aT5 (b : acw) (c : Cmp) (s t : Int) : Int := dst (acO (acD b c)) ((acd (acD b c)).length + 1) s t
abbrev End : Type := Int × Int × Int
abbrev axe : Type := (Int × Int) × End × End
def endP (b : acw) (c : Cmp) (s t : Int) : End :=
 (aT5 b c s t, aT5 b c s (cy (acD b c) c) + (afn b c).2 + aT5 b c (cx (acD b c) c) t, aT5 b c s (cx (acD b c) c) - (afn b c).1 + aT5 b c (cy (acD b c) c) t)
def worth0 : axe := ((0, 0), (0, 0, 0), (0, 0, 0))
def aIn (b : acw) (n : Int × Int) (c : Cmp) : axe :=
 ((adG b c).1, endP b (aca c) 0 (agl (acD b (aca c)) n.1 n.2), endP b (aca c) (agl (acD b (aca c)) n.1 n.2) 0)
def aHH (b : acw) (n : Int × Int) (c : Cmp) : axe × Int := if (adG b c).2 ≠ 0 then (worth0, (adG b c).2) else (aIn b n c, 0)
theorem axo {b : acw} {c : Cmp} (h : (adG b c).2 = 0) : adR (acn b) ((acd b).length + 1) = true := by
 obtain ⟨g1, g2⟩ := ajG h
 rw [aCM g1 g2] at h
 by_cases ho : adR (acn b) ((acd b).length + 1) = true
 ·exact ho
 ·rw [if_neg ho] at h; cases h
section
variable {b : acw} {c : Cmp} (h : ads b) (h' : ads (acD b c)) (ho : adR (acn b) ((acd b).length + 1) = true)
include h h' ho
theorem alJ {s t : Int} (hs : 0 ≤ s ∧ s < ((acd (acD b c)).length + 1 : Nat)) (ht : 0 ≤ t ∧ t < ((acd (acD b c)).length + 1 : Nat)) : -9007199254740992 ≤ aT5 b c s t ∧ aT5 b c s t ≤ 9007199254740992 :=
 aN9 (agu h') (agL h') (by rw [akk h h']; exact ho) hs ht
theorem amu (B : acw) {s t : Int} (hs : 0 ≤ s ∧ s < ((acd (acD b c)).length + 1 : Nat)) (ht : 0 ≤ t ∧ t < ((acd (acD b c)).length + 1 : Nat)) : acZ (B, (((acd (acD b c)).length : Int) + 1, acO (acD b c))) t s = some (aT5 b c s t) := by
 rw [show (((acd (acD b c)).length : Int) + 1) = (((acd (acD b c)).length + 1 : Nat) : Int) by push_cast; rfl, aLa (agu h') ht hs, aqD (agu h') (agL h') hs ht, if_pos (by rw [akk h h']; exact ho)]
 rfl
theorem aP9 : (-4503599627370496 ≤ (afn b c).1 ∧ (afn b c).1 ≤ 4503599627370496) ∧ (-4503599627370496 ≤ (afn b c).2 ∧ (afn b c).2 ≤ 4503599627370496) := by
 have hs := h'.sys
 have e := aE6 b c h'
 have m1 := hs.most (cy (acD b c) c, cx (acD b c) c, (afn (acD b c) c).2) (by rw [e]; simp)
 have m2 := hs.most (cx (acD b c) c, cy (acD b c) c, -(afn (acD b c) c).1) (by rw [e]; simp)
 have e2 : afn (acD b c) c = afn b c := rfl
 rw [e2] at m1 m2
 dsimp only at m1 m2
 omega
theorem aN8 (B : acw) {s t : Int} (hs : 0 ≤ s ∧ s < ((acd (acD b c)).length + 1 : Nat)) (ht : 0 ≤ t ∧ t < ((acd (acD b c)).length + 1 : Nat)) :
 ai1 t s (B, (((acd (acD b c)).length : Int) + 1, acO (acD b c))) (cy (acD b c) c) (afn b c) (cx (acD b c) c) = some (endP b c s t) := by
 have hx := arE h'
 have hy := arD h'
 have b1 := alJ h h' ho hs ht
 have b2 := alJ h h' ho hs hy
 have b3 := alJ h h' ho hx ht
 have b4 := alJ h h' ho hs hx
 have b5 := alJ h h' ho hy ht
 have b6 := aP9 h h' ho
 unfold ai1 ao0
 rw [amu h h' ho B hs ht, ab3, amu h h' ho B hs hy, ab3, acr (by omega) (by omega), amu h h' ho B hx ht, ab3, acr (by omega) (by omega), amu h h' ho B hs hx, ab3, acr (by omega) (by omega), amu h h' ho B hy ht, ab3, acr (by omega) (by omega)]
 rfl
end
theorem aIT {B : acw} (h : ads B) (hn : ∀ g ∈ B.2.1, I64 g.2.2.2.2.1.1) (s : Sys) (l : List Int) (c : Cmp) : ai2 l (B, s) c = some (atP (acd B) l c.2.1) := by
 unfold ai2 ao1
 cases l with
 | nil => rw [acA]; rfl
 | cons x t =>
   rw [acA, acm (beq_eq_false_iff_ne.2 (by simp; omega)), show (0 : Int) = ((0 : Nat) : Int) from rfl, aci (show (x :: t)[0]? = some x from rfl), aym h hn, ab3]
   rfl
theorem aRd {ρ : Type} {b : acw} {c : Cmp} (h : ads (acD b c)) (K : List Lk → Option ρ) :
 acl (fun (v17 : Val acf) kk20 => ahG (b.2.2.2.2.1.length : Int) (aeq (acD b c)) (acn (acD b c)) (acs (acn (acD b c))) v17.1 v17.2 (fun u18 u19 => kk20 (u18, u19)) K) ((0 : Int), []) = K (acO (acD b c)) := by
 have hl3 := h.sys.len
 have hsl := aFJ h
 obtain ⟨S, hS, hSk⟩ := aSY b c
 have hL := aE6 b c h
 have hSl : S.length = (acO (acD b c)).length := by
  rw [hS, hL, List.length_append, List.length_append] at hsl
  simpa using hsl
 generalize acO (acD b c) = H at hL hSl ⊢
 rw [hS]
 generalize acn (acD b c) = L at hL hsl hl3 ⊢
 have hLl : L.length = H.length + 2 := by rw [hL]; simp
 refine adf L (fun i => (L.take i).take H.length) _ (by simp) (fun i l hi hl kn => ?_) (fun kn => ?_)
 ·try dsimp only
  unfold ahG
  rw [acp hi, aci hl]
  rcases Nat.lt_or_ge i H.length with h1 | h1
  ·have hs : (S ++ [((3 : Int), (b.2.2.2.2.1.length : Int)), (3, (b.2.2.2.2.1.length : Int))])[i]? = some S[i] := by
    rw [List.getElem?_append_left (by omega), List.getElem?_eq_getElem]
   have hk := hSk S[i] (List.getElem_mem _)
   have e : ((aeL (S[i]).1 (3 : Int)) && ((aeL (S[i]).2 (b.2.2.2.2.1.length : Int)) && true)) = false := by
    simp [aeL]; omega
   have e1 : (L.take i).take H.length = L.take i := List.take_of_length_le (by rw [List.length_take]; omega)
   have e2 : (L.take (i + 1)).take H.length = L.take (i + 1) := List.take_of_length_le (by rw [List.length_take]; omega)
   rw [aci hs, e, aco (by rfl), e1, e2, adx (acq (by rw [List.length_take]; simp; omega)), acj hi (by omega), take_succ hl]
  ·have hs : (S ++ [((3 : Int), (b.2.2.2.2.1.length : Int)), (3, (b.2.2.2.2.1.length : Int))])[i]? = some ((3 : Int), (b.2.2.2.2.1.length : Int)) := by
    rw [List.getElem?_append_right (by omega)]
    have : i - S.length = 0 ∨ i - S.length = 1 := by omega
    rcases this with e | e <;> rw [e] <;> rfl
   have e : ((aeL (3 : Int) (3 : Int)) && ((aeL (b.2.2.2.2.1.length : Int) (b.2.2.2.2.1.length : Int)) && true)) = true := by simp [aeL]
   have e1 : (L.take i).take H.length = (L.take (i + 1)).take H.length := by
    rw [List.take_take, List.take_take]
    congr 1
    omega
   rw [aci hs]
   dsimp only
   rw [e, acm (by rfl), acj hi (by omega), e1]
 ·try dsimp only
  unfold ahG
  rw [acL, List.take_length, hL]
  simp
theorem aKr {B : acw} (hr : aTT B) (n : Int × Int) {c : Cmp} (hA : c.2.2.1.length ≤ 1000) (hB : c.2.2.2.1.length ≤ 1000) : amx (B, azc B) n c = some (aHH B n c) := by
 unfold amx av0 aHH
 have hs := hr.good.size
 rw [show (B, azc B).1 = B from rfl, aPE hs hr.num hA hB, ab3]
 by_cases hp : (adG B c).2 = 0
 ·obtain ⟨g1, g2⟩ := ajG hp
  have ho := axo hp
  have e1 : ap3 B (aca c) = (acD B (aca c), 0) := by
   unfold ap3
   rw [if_neg (by simp [(acv B).2 g1]), if_neg (by simp [(acv _).2 g2])]
  have hn2 : ∀ g ∈ (acD B (aca c)).2.1, I64 g.2.2.2.2.1.1 := hr.num
  have hC := g2.nC
  have hw : (((acD B (aca c)).2.2.2.2.1.length : Int) - 1) = (B.2.2.2.2.1.length : Int) := by simp [acD]
  have hSays : aTS (acD B (aca c)) (B.2.2.2.2.1.length : Int) = (afn B (aca c), 0) := by
   have e : alQ (acD B (aca c)) (B.2.2.2.2.1.length : Int) = (aca c, 0) := by
    unfold alQ
    rw [if_neg (by simp [(acv _).2 g2]), if_neg (by simp [acD]; omega)]
    simp [acD]
   unfold aTS
   rw [e, if_neg (by simp)]
   rfl
  have hCancel : aCP c.2.2.1 c.2.2.2.1 = (ac6 c.2.2.1 c.2.2.2.1, ac6 c.2.2.2.1 c.2.2.1, 0) := by
   have hnu := (ahv _).1 (g2.nums (aqb (c := aca c)))
   have h6 : ajr c.2.2.1 = true ∧ ajr c.2.2.2.1 = true := ⟨hnu.2.2.2.2.2.1, hnu.2.2.2.2.2.2⟩
   unfold aCP
   rw [h6.1, h6.2]
   rfl
  rw [acm (by rw [hp]; rfl), if_neg (by simp [hp]), show ajC B (c.1, c.2.1, c.2.2.1, c.2.2.2.1, (0 : Int), c.2.2.2.2.2) = ajC B (aca c) from rfl, aR6 hs hr.num (c := aca c) hA hB, ab3, e1]
  dsimp only
  rw [acm (by rfl), acA, hw, acr (by omega) (by omega), aVf (g2.inn hn2), ab3, hSays, aLl (by omega) (by omega), ab3, hCancel, aky (g2.inn hn2), ab3, agn g2]
  dsimp only
  refine (aRd g2 _).trans ?_
  have ex : cx (acD B (aca c)) (aca c) = atP (acd (acD B (aca c))) (ac6 c.2.2.1 c.2.2.2.1) c.2.1 := rfl
  have ey : cy (acD B (aca c)) (aca c) = atP (acd (acD B (aca c))) (ac6 c.2.2.2.1 c.2.2.1) c.2.1 := rfl
  rw [aIT g2 hn2, ab3, aIT g2 hn2, ab3, aym g2 hn2, ab3, ← ex, ← ey, aN8 g1 g2 ho _ (adK _) (aec _ n), ab3, aN8 g1 g2 ho _ (aec _ n) (adK _), ab3]
  rfl
 ·rw [aco (bne_iff_ne.2 hp), if_pos hp]
  rfl
end Go.Proofs.ZzM
end
noncomputable section
namespace Go.Proofs.ZzM
open Go Go.Am
abbrev aTW : Type := acw × (Int × Int) × Bool × Int × List Int
def aRH : aTW := (ajF, (0, 0), false, 0, [])
def arM (L : List Lk) : Int → Int → List Int → Int × Int × Bool
 | u, s, [] => (u, s, true)
 | u, s, i :: t => if (L[i.toNat]?.getD (0, 0, 0)).1 = u then arM L (L[i.toNat]?.getD (0, 0, 0)).2.1 (s + (L[i.toNat]?.getD (0, 0, 0)).2.2) t else (0, 0, false)
def aLc (L : List Lk) (i : Int) : Bool := decide (i < 0) || decide ((L.length : Int) ≤ i)
def ahK (L : List Lk) (l : List Int) : Int := if 80 < l.length then 2 else if l.any (aLc L) then 1 else 0
def aeI (L : List Lk) (u v : Int) (l : List Int) : Int × Int :=
 if ahK L l ≠ 0 then (0, ahK L l) else if (arM L u 0 l).2.2 = true ∧ (arM L u 0 l).1 = v then ((arM L u 0 l).2.1, 0) else (0, 8)
def aUd (u : Int) (w : Int × Int × Bool) : Int := if w.2.2 = true ∧ w.1 = u ∧ w.2.1 < 0 then 0 else 8
def anU (L : List Lk) (l : List Int) : Int :=
 if ahK L l ≠ 0 then ahK L l else match l with
 | [] => 8
 | i :: _ => aUd (L[i.toNat]?.getD (0, 0, 0)).1 (arM L (L[i.toNat]?.getD (0, 0, 0)).1 0 l)
section
variable {L : List Lk} {N : Nat}
theorem aFd (N : Int) (hL : L.length ≤ 1000) (l : List Int) : akq (N, L) l = some (ahK L l) := by
 unfold akq asp ahK
 dsimp only
 rw [acA]
 by_cases h : 80 < l.length
 ·rw [aco (decide_eq_true (by omega)), if_pos h]
 ·rw [acm (decide_eq_false (by omega)), if_neg h, ← acA l]
  refine (afS l (aLc L) (fun z => ifb (ige z 0) (some 1) (some 0)) (some 1) (some 0) (fun j => by rw [show ige (j : Int) 0 = true from decide_eq_true (by omega)]; rfl) (fun i a hi ha kn => ?_) (fun kn => ?_)).trans ?_
  ·try dsimp only
   unfold aiz aLc
   rw [acp hi, aci ha, acj hi (by omega), acA, adH, adH]
   by_cases h1 : a < 0
   ·simp [ilt, h1]
   ·by_cases h2 : (L.length : Int) ≤ a
    ·simp [ilt, ige, h1, h2]
    ·simp [ilt, ige, h1, h2]
  ·try dsimp only
   unfold aiz
   rw [acL]
  ·cases l.any (aLc L) <;> rfl
theorem aMC {l : List Int} (h : ahK L l = 0) : l.length ≤ 80 ∧ ∀ i ∈ l, 0 ≤ i ∧ i.toNat < L.length := by
 unfold ahK at h
 split at h
 ·omega
 ·rename_i h1
  split at h
  ·omega
  ·rename_i h2
   refine ⟨by omega, fun i hi => ?_⟩
   have := List.any_eq_false.1 (Bool.eq_false_iff.2 h2) i hi
   simp [aLc] at this
   omega
theorem aPT (hS : afe L N) (u : Int) {l : List Int} (h : ahK L l = 0) : avj ((N : Int), L) u l = some (arM L u 0 l) := by
 obtain ⟨hl, hi⟩ := aMC h
 unfold avj aGL
 dsimp only
 have := amr (f := fun (v7 : Int × Int × Int) kk11 => anb l (acs l) L v7.1 v7.2.1 v7.2.2 (fun u8 u9 u10 => kk11 (u8, u9, u10)) (fun z5 => some (z5.1, z5.2.1, z5.2.2)) (fun z6 => some (z6.1, z6.2, true)))
  (F := fun v => some (arM L v.1 v.2.1 (l.drop v.2.2.toNat))) (fun v => ∃ i : Nat, v.2.2 = i ∧ i ≤ l.length ∧ (-(i * 4503599627370496) ≤ v.2.1 ∧ v.2.1 ≤ i * 4503599627370496)) (fun v => l.length - v.2.2.toNat) (fun v hv kn hk => ?_) (x := (u, (0 : Int), (0 : Int))) ⟨0, rfl, by omega, by simp⟩
 ·exact this
 ·obtain ⟨w, s, n⟩ := v
  obtain ⟨i, e, h1, h2⟩ := hv
  dsimp only at e h2 hk ⊢
  subst e
  rw [Int.toNat_natCast] at hk ⊢
  unfold anb
  rcases Nat.lt_or_ge i l.length with h3 | h3
  ·have ha : l[i]? = some l[i] := List.getElem?_eq_getElem h3
   have hd : l.drop i = l[i] :: l.drop (i + 1) := List.drop_eq_getElem_cons h3
   rw [hd]
   have hx := hi l[i] (List.getElem_mem _)
   generalize l[i] = a at ha hx
   have hg : L[a.toNat]? = some L[a.toNat] := List.getElem?_eq_getElem hx.2
   have hm := hS.most _ (List.mem_of_getElem? hg)
   generalize L[a.toNat] = x at hg hm
   rw [acp h3, aci ha, aiq hx.1 hg]
   unfold arM
   rw [hg]
   simp only [Option.getD_some]
   by_cases hc : x.1 = w
   ·rw [acm (by rw [hc]; exact bne_self_eq_false' _), if_pos hc, acr (by omega) (by omega), acj h3 (by omega), hk _ ⟨i + 1, by push_cast; rfl, h3, by dsimp only; push_cast; omega⟩ (by simp; omega)]
    simp
   ·rw [aco (bne_iff_ne.2 hc), if_neg hc]
  ·obtain rfl : i = l.length := by omega
   rw [acL, List.drop_length]
   rfl
theorem aPU (hS : afe L N) : ∀ (l : List Int) (u s B : Int), -B ≤ s ∧ s ≤ B → -(B + l.length * 4503599627370496) ≤ (arM L u s l).2.1 ∧ (arM L u s l).2.1 ≤ B + l.length * 4503599627370496
 | [], u, s, B, h => by simp [arM]; omega
 | i :: t, u, s, B, h => by
   unfold arM
   have hm : -4503599627370496 ≤ (L[i.toNat]?.getD (0, 0, 0)).2.2 ∧ (L[i.toNat]?.getD (0, 0, 0)).2.2 ≤ 4503599627370496 := by
    cases hg : L[i.toNat]? with
    | none => simp
    | some x => exact hS.most x (List.mem_of_getElem? hg)
   split
   ·have := aPU hS t (L[i.toNat]?.getD (0, 0, 0)).2.1 (s + (L[i.toNat]?.getD (0, 0, 0)).2.2) (B + 4503599627370496) (by omega)
    rw [List.length_cons]
    push_cast
    omega
   ·dsimp only
    omega
theorem avy (hS : afe L N) {u v : Int} (hu : 0 ≤ u ∧ u < N) (hv : 0 ≤ v ∧ v < N) (l : List Int) : agO ((N : Int), L) u v l = some (aeI L u v l) := by
 have hl3 := hS.len
 unfold agO alD aeI
 have e1 : (decide (0 ≤ u) && decide (u < (N : Int))) = true := by simp [hu.1, hu.2]
 have e2 : (decide (0 ≤ v) && decide (v < (N : Int))) = true := by simp [hv.1, hv.2]
 rw [agz hS, ab3, acm (by rfl), aAh, ab3, e1, acm (by rfl), aAh, ab3, e2, acm (by rfl), aFd _ (by omega), ab3]
 by_cases h : ahK L l = 0
 ·rw [acm (by rw [h]; rfl), if_neg (by simp [h]), aPT hS u h, ab3]
  cases h1 : (arM L u 0 l).2.2 with
  | false => rw [aco (by rfl), if_neg (by simp)]
  | true =>
    rw [acm (by rfl)]
    by_cases h2 : (arM L u 0 l).1 = v
    ·rw [acm (by rw [h2]; exact bne_self_eq_false' _), if_pos ⟨rfl, h2⟩]
    ·rw [aco (bne_iff_ne.2 h2), if_neg (fun h => h2 h.2)]
 ·rw [aco (bne_iff_ne.2 h), if_pos h]
theorem aBX {ρ α : Type} (x : α) (t : List α) (f : α → Option ρ) : adv (x :: t) (0 : Int) f = f x := rfl
theorem aEk (hS : afe L N) (l : List Int) : aiC ((N : Int), L) l = some (anU L l) := by
 have hl3 := hS.len
 unfold aiC alC anU
 rw [agz hS, ab3, acm (by rfl), aFd _ (by omega), ab3]
 by_cases h : ahK L l = 0
 ·rw [acm (by rw [h]; rfl), if_neg (by simp [h])]
  cases l with
  | nil => rw [acA]; rfl
  | cons i t =>
    have hx := (aMC h).2 i (by simp)
    have hg : L[i.toNat]? = some L[i.toNat] := List.getElem?_eq_getElem hx.2
    generalize L[i.toNat] = x at hg
    rw [acA, acm (beq_eq_false_iff_ne.2 (by simp; omega)), aBX, aiq hx.1 hg, aPT hS x.1 h, ab3]
    dsimp only
    rw [hg]
    dsimp only [Option.getD_some]
    generalize arM L x.1 0 (i :: t) = w
    obtain ⟨e, sum, ok⟩ := w
    unfold aUd
    dsimp only
    cases ok with
    | false => rw [aco (by rfl), if_neg (by simp)]
    | true =>
      rw [acm (by rfl)]
      by_cases h2 : e = x.1
      ·rw [acm (by rw [h2]; exact bne_self_eq_false' _)]
       by_cases h3 : sum < 0
       ·rw [acm (decide_eq_false (by omega)), if_pos ⟨rfl, h2, h3⟩]
       ·rw [aco (decide_eq_true (by omega)), if_neg (fun h => h3 h.2.2)]
      ·rw [aco (bne_iff_ne.2 h2), if_neg (fun h => h2 h.2.1)]
 ·rw [aco (bne_iff_ne.2 h), if_pos h]
end
def ajV (c : aTW) : Int :=
 if acz c.1 ≠ 0 then acz c.1 else if agl c.1 c.2.1.1 c.2.1.2 = 0 then 5 else
 if c.2.2.1 then (if aeI (acn c.1) 0 (agl c.1 c.2.1.1 c.2.1.2) c.2.2.2.2 = (c.2.2.2.1, 0) then 0 else 8)
 else (if aeI (acn c.1) (agl c.1 c.2.1.1 c.2.1.2) 0 c.2.2.2.2 = (-c.2.2.2.1, 0) then 0 else 8)
def akB (c : aTW) : Int :=
 if acz c.1 ≠ 0 then acz c.1 else if c.2.1 ≠ (0, 0) ∨ c.2.2.1 = true ∨ c.2.2.2.1 ≠ 0 then 1 else if anU (acn c.1) c.2.2.2.2 = 0 then 0 else 8
def aM6 (b : acw) (c : aTW) : Bool × Int :=
 if acz b ≠ 0 then (false, acz b) else
 if c.2.1 = (0, 0) then (if akB c ≠ 0 then (false, akB c) else (aSP c.1 b, 0)) else (if ajV c ≠ 0 then (false, ajV c) else (aSP c.1 b, 0))
theorem wr_neg {n : Int} (h : I64 n) : aUk (0 - n) = if n = -9223372036854775808 then n else -n := by
 have e : aUk (0 - n) = if (0 - n) % 18446744073709551616 ≥ 9223372036854775808 then (0 - n) % 18446744073709551616 - 18446744073709551616 else (0 - n) % 18446744073709551616 := by
  simp [aUk, IntKind.wrap, IntKind.bits, IntKind.signed]
 rw [e]
 unfold I64 at h
 split <;> split <;> omega
theorem ayo {c : aTW} (hI : In c.1) (hv : I64 c.2.2.2.1) : ahP c = some (ajV c) := by
 unfold ahP am8 ajV
 rw [afX hI.size hI.num, ab3]
 by_cases hc : acz c.1 = 0
 ·have hg := (acv c.1).1 hc
  rw [acm (by simp [ine, hc]), if_neg (show ¬ (acz c.1 ≠ 0) from fun h => h hc), amJ hI, ab3, akz hg, aky hI, ab3, agn hg]
  dsimp only
  by_cases h0 : agl c.1 c.2.1.1 c.2.1.2 = 0
  ·rw [if_pos h0, if_pos h0]; rfl
  ·have hN := hg.sys
   have hr := aec c.1 c.2.1
   have hz := adK c.1
   rw [if_neg h0, if_neg h0, acm (by rfl), show (((acd c.1).length : Int) + 1) = (((acd c.1).length + 1 : Nat) : Int) by push_cast; rfl]
   dsimp only
   rw [show (∀ f : Int → Option Int, ck (0 - c.2.2.2.1) f = f (aUk (0 - c.2.2.2.1))) from fun f => rfl, wr_neg hv]
   have key : ∀ (u v : Int) (t t' : Int), (t' = t ∨ (t' = -9223372036854775808 ∧ t = 9223372036854775808)) → (ifb (ine (aeI (acn c.1) u v c.2.2.2.2).2 0) (some (8 : Int)) (ifb (ine (aeI (acn c.1) u v c.2.2.2.2).1 t') (some 8) (some 0))) = some (if aeI (acn c.1) u v c.2.2.2.2 = (t, 0) then 0 else 8) := by
    intro u v t t' ht
    have hb : -9000000000000000000 ≤ (aeI (acn c.1) u v c.2.2.2.2).1 ∧ (aeI (acn c.1) u v c.2.2.2.2).1 ≤ 9000000000000000000 := by
     unfold aeI
     split
     ·simp
     ·rename_i hi
      split
      ·have := aPU hN c.2.2.2.2 u 0 0 (by simp)
       have := (aMC (by simpa using hi)).1
       dsimp only
       omega
      ·simp
    generalize aeI (acn c.1) u v c.2.2.2.2 = p at hb ⊢
    by_cases h2 : p.2 = 0
    ·rw [acm (by rw [h2]; rfl)]
     by_cases h1 : p.1 = t'
     ·have : p = (t, 0) := Prod.ext (by rcases ht with h | h <;> omega) h2
      rw [acm (by rw [h1]; exact bne_self_eq_false' _), if_pos this]
     ·have : ¬ p = (t, 0) := fun e => by
       have e1 : p.1 = t := by rw [e]
       rcases ht with h | h <;> omega
      rw [aco (bne_iff_ne.2 h1), if_neg this]
    ·have : ¬ p = (t, 0) := fun e => h2 (by rw [e])
     rw [aco (bne_iff_ne.2 h2), if_neg this]
   unfold I64 at hv
   cases c.2.2.1 with
   | true =>
     rw [ad6, avy hN hz hr, ab3, key _ _ _ _ (.inl rfl)]
     rfl
   | false =>
     rw [acM, avy hN hr hz, ab3, key _ _ (-c.2.2.2.1) _ (by split <;> omega)]
     rfl
 ·rw [aco (by simp [ine, hc]), if_pos hc]
theorem aIk {c : aTW} (hI : In c.1) : aiB c = some (akB c) := by
 unfold aiB alx akB
 rw [afX hI.size hI.num, ab3]
 by_cases hc : acz c.1 = 0
 ·have hg := (acv c.1).1 hc
  rw [acm (by simp [ine, hc]), if_neg (show ¬ (acz c.1 ≠ 0) from fun h => h hc)]
  by_cases h1 : c.2.1 = (0, 0)
  ·have e1 : (!((aeL c.2.1.1 0) && ((aeL c.2.1.2 0) && true))) = false := by rw [h1]; rfl
   rw [e1, acM]
   cases h2 : c.2.2.1 with
   | true => rw [ad6, if_pos (.inr (.inl rfl))]
   | false =>
     rw [acM]
     by_cases h3 : c.2.2.2.1 = 0
     ·rw [acm (by rw [h3]; rfl), if_neg (by simp [h1, h3]), aky hI, ab3, agn hg, show (((acd c.1).length : Int) + 1) = (((acd c.1).length + 1 : Nat) : Int) by push_cast; rfl]
      dsimp only
      rw [aEk hg.sys, ab3]
      by_cases h4 : anU (acn c.1) c.2.2.2.2 = 0
      ·rw [acm (by rw [h4]; rfl), if_pos h4]
      ·rw [aco (bne_iff_ne.2 h4), if_neg h4]
     ·rw [aco (bne_iff_ne.2 h3), if_pos (.inr (.inr h3))]
  ·have e1 : (!((aeL c.2.1.1 0) && ((aeL c.2.1.2 0) && true))) = true := by
    rw [Prod.ext_iff] at h1
    simp [aeL]
    dsimp only at h1
    omega
   rw [e1, ad6, if_pos (.inl h1)]
 ·rw [aco (by simp [ine, hc]), if_pos hc]
theorem aR8 {b : acw} {c : aTW} (hb : In b) (hI : In c.1) (hv : I64 c.2.2.2.1) : aqr b c = some (aM6 b c) := by
 unfold aqr av6 aM6
 rw [afX hb.size hb.num, ab3]
 by_cases hc : acz b = 0
 ·rw [acm (by simp [ine, hc]), if_neg (show ¬ (acz b ≠ 0) from fun h => h hc)]
  by_cases h1 : c.2.1 = (0, 0)
  ·have e1 : ((aeL c.2.1.1 0) && ((aeL c.2.1.2 0) && true)) = true := by rw [h1]; rfl
   rw [e1, ad6, if_pos h1, aIk hI, ab3]
   by_cases h2 : akB c = 0
   ·rw [acm (by rw [h2]; rfl), if_neg (by simp [h2]), part_ok hI.size hb.size, ab3]
   ·rw [aco (bne_iff_ne.2 h2), if_pos h2]
  ·have e1 : ((aeL c.2.1.1 0) && ((aeL c.2.1.2 0) && true)) = false := by
    rw [Prod.ext_iff] at h1
    simp [aeL]
    dsimp only at h1
    omega
   rw [e1, acM, if_neg h1, ayo hI hv, ab3]
   by_cases h2 : ajV c = 0
   ·rw [acm (by rw [h2]; rfl), if_neg (by simp [h2]), part_ok hI.size hb.size, ab3]
   ·rw [aco (bne_iff_ne.2 h2), if_pos h2]
 ·rw [aco (by simp [ine, hc]), if_pos hc]
end Go.Proofs.ZzM
end
noncomputable section
namespace Go.Proofs.ZzM
open Go Go.Am
def azN (b : acw) (l : List Int) : List (Int × Int) := l.map fun i => (aeq b)[i.toNat]?.getD (0, 0)
theorem aOE {b : acw} (hg : ads b) (hn : ∀ g ∈ b.2.1, I64 g.2.2.2.2.1.1) {l : List Int} (hl : l.length ≤ 1000) (hi : ∀ i ∈ l, 0 ≤ i ∧ i.toNat < (acn b).length) : akn b l = some (azN b l) := by
 unfold akn asd
 rw [aky (hg.inn hn), ab3, agn hg]
 refine adf l (fun i => azN b (l.take i)) _ rfl (fun i a hlt ha kn => ?_) (fun kn => ?_)
 ·try dsimp only
  unfold aix
  have hx := hi a (List.mem_of_getElem? ha)
  have hs : (aeq b)[a.toNat]? = some ((aeq b)[a.toNat]'(by rw [aFJ hg]; exact hx.2)) := List.getElem?_eq_getElem _
  generalize (aeq b)[a.toNat]'(by rw [aFJ hg]; exact hx.2) = x at hs
  have hlen : (azN b (l.take i)).length ≤ 1000 := by unfold azN; rw [List.length_map, List.length_take]; omega
  rw [acp hlt, aci ha, aiq hx.1 hs, adx (show acJ ((azN b (l.take i)).length + [x].length) = true from acq (show (azN b (l.take i)).length + 1 ≤ 4294967296 by omega)), acj hlt (by omega), take_succ ha]
  unfold azN
  rw [List.map_append, List.map_singleton, hs]
  rfl
 ·try dsimp only
  unfold aix
  rw [acL, List.take_length]
theorem src_ok {b : acw} : ∀ s ∈ aeq b, aVe b s := by
 intro s hs
 unfold aeq at hs
 rcases List.mem_append.1 hs with h | h
 ·have := aKC s h; exact .inl this
 ·have := aKT s h; exact .inr this
theorem aSz {b : acw} (hg : ads b) {l : List Int} (hi : ∀ i ∈ l, 0 ≤ i ∧ i.toNat < (acn b).length) : ∀ s ∈ azN b l, aVe b s := by
 intro s hs
 obtain ⟨i, h1, rfl⟩ := List.mem_map.1 hs
 have hx := hi i h1
 have hsx : (aeq b)[i.toNat]? = some ((aeq b)[i.toNat]'(by rw [aFJ hg]; exact hx.2)) := List.getElem?_eq_getElem _
 rw [hsx]
 exact src_ok _ (List.getElem_mem _)
section
variable {L : List Lk} {N : Nat}
theorem awU (R : Nat → List Int) (good : Int → Bool) : ∀ (k : Nat) (u sum : Int) (out : List Int), (∀ i ∈ out, 0 ≤ i ∧ i.toNat < L.length) → (∀ i ∈ alK L R good k u sum out, 0 ≤ i ∧ i.toNat < L.length) ∧ (alK L R good k u sum out).length ≤ out.length + k
 | 0, u, sum, out, h => ⟨h, by simp [alK]⟩
 | k + 1, u, sum, out, h => by
   unfold alK
   cases hn : aCW L (R k) good u sum with
   | none =>
     have := awU R good k u sum out h
     exact ⟨this.1, by have := this.2; dsimp only; omega⟩
   | some i =>
     have hi : i < L.length := by
      unfold aCW at hn
      exact (List.findIdx?_eq_some_iff_getElem.1 hn).1
     have := awU R good k (L[i]?.getD (0, 0, 0)).2.1 (sum + (L[i]?.getD (0, 0, 0)).2.2) (out ++ [(i : Int)]) (fun j hj => by
      rcases List.mem_append.1 hj with h1 | h1
      ·exact h j h1
      ·simp at h1; subst h1; simp; exact hi)
     exact ⟨this.1, by have := this.2; simp at this; dsimp only; omega⟩
theorem aKW (N : Nat) (u v : Int) : (∀ i ∈ (aCO L N u v).1, 0 ≤ i ∧ i.toNat < L.length) ∧ (aCO L N u v).1.length ≤ N := by
 unfold aCO
 split
 ·simp
 ·cases h : (ajn L N v N).findIdx? (fun x => gv x u == (afD L N u v).1) with
  | none => simp
  | some k =>
    have hk := (List.findIdx?_eq_some_iff_getElem.1 h).1
    rw [ahj] at hk
    have := awU (L := L) (exL L N v) (fun n => ieq n (afD L N u v).1) k u 0 [] (by simp)
    exact ⟨this.1, by have := this.2; simp at this; dsimp only; omega⟩
end
def ayj (B : acw) (n : Int × Int) (upper : Bool) : List Int :=
 if upper then (aCO (acn B) ((acd B).length + 1) 0 (agl B n.1 n.2)).1 else (aCO (acn B) ((acd B).length + 1) (agl B n.1 n.2) 0).1
def aoI (B : acw) (n : Int × Int) (upper : Bool) : acw := cutP B (azN B (ayj B n upper)) [n]
def certR (B : acw) (n : Int × Int) (upper : Bool) : aTW := (aoI B n upper, n, upper, (if upper then (ivR B n).2 else (ivR B n).1), ayj (aoI B n upper) n upper)
def ajH (b : acw) (n : Int × Int) (upper : Bool) : aTW × Int :=
 if (adc b [n]).2 ≠ 0 then (aRH, (adc b [n]).2) else
 if acz (aoI (adc b [n]).1 n upper) ≠ 0 then (aRH, acz (aoI (adc b [n]).1 n upper)) else
 if adR (acn (aoI (adc b [n]).1 n upper)) ((acd (aoI (adc b [n]).1 n upper)).length + 1) then (certR (adc b [n]).1 n upper, 0) else (aRH, 9)
theorem aPt {ρ : Type} : @alz ρ = @acY ρ := rfl
theorem aQt {ρ : Type} (K : Option ρ) : acl (fun (v23 : Int) kk25 => aly (0 : Int) v23 (fun u24 => kk25 u24) (fun _ => K)) (0 : Int) = K := by
 refine afs (fun x => x = 0) (fun _ => 0) (fun x hx => .inl fun kn => ?_) rfl
 rw [hx]
 rfl
theorem aNh {B : acw} (h : ads B) (hn : ∀ g ∈ B.2.1, I64 g.2.2.2.2.1.1) (n : Int × Int) (upper : Bool) : ahQ (B, azc B) n upper = some (ayj B n upper) := by
 unfold ahQ am9 ayj
 rw [aym h hn, ab3, show (B, azc B).2 = azc B from rfl, azK]
 cases upper with
 | true => rw [ad6, aOx h.sys (adK B) (aec B n), ab3]; rfl
 | false => rw [acM, aOx h.sys (aec B n) (adK B), ab3]; rfl
theorem aPr {B : acw} (h : ads B) (n : Int × Int) (upper : Bool) : (∀ i ∈ ayj B n upper, 0 ≤ i ∧ i.toNat < (acn B).length) ∧ (ayj B n upper).length ≤ 60 := by
 have hN := h.sys.n60
 unfold ayj
 split
 ·have := aKW (L := acn B) ((acd B).length + 1) 0 (agl B n.1 n.2)
  exact ⟨this.1, by have := this.2; omega⟩
 ·have := aKW (L := acn B) ((acd B).length + 1) (agl B n.1 n.2) 0
  exact ⟨this.1, by have := this.2; omega⟩
theorem aBQ (w : List Int) : ∀ (l : List Cmp) (i : Nat), ∀ c ∈ asF w i l, c ∈ l
 | [], i, c, h => by simp [asF] at h
 | a :: l, i, c, h => by
   simp only [asF] at h
   split at h
   ·rcases List.mem_cons.1 h with h | h
    ·rw [h]; simp
    ·exact List.mem_cons_of_mem _ (aBQ w l (i + 1) c h)
   ·exact List.mem_cons_of_mem _ (aBQ w l (i + 1) c h)
theorem aT9 {b : acw} (h : In b) (ss : List (Int × Int)) {looks : List (Int × Int)} (hl : looks.length ≤ 1000) : In (cutP b ss looks) := by
 obtain ⟨hs, hn⟩ := h
 have g1 := hs.gauges; have g2 := hs.uses; have g3 := hs.loans; have g4 := hs.compares
 unfold cutP
 refine ⟨⟨?_, ?_, ?_, ?_, hl, fun c hc => hs.piles c (aBQ _ _ _ c hc)⟩, fun g hg => hn g (List.mem_filter.1 hg).1⟩
 ·exact Nat.le_trans (List.length_filter_le _ _) g1
 ·exact Nat.le_trans (List.length_filter_le _ _) g2
 ·exact Nat.le_trans (List.length_filter_le _ _) g3
 ·exact Nat.le_trans (aBR _ _ _) g4
theorem aPG {b : acw} (hI : In b) (n : Int × Int) (upper : Bool) : anI b n upper = some (ajH b n upper) := by
 unfold anI asn ajH
 rw [aPt]
 refine (akG hI (ns := [n]) (by simp) (fun e => some (aRH, e)) (fun e he => by rw [adx (by simp [ine, he])]; rfl) (fun z he => by rw [adx (by simp [ine, he])]; rfl) (fun _ _ _ => rfl)).trans ?_
 split
 ·rfl
 ·rename_i e
  have hr := (agI hI (by simpa using e)).1
  dsimp only
  generalize (adc b [n]).1 = B at hr ⊢
  have hci := aPr hr.good n upper
  have hpi : In (aoI B n upper) := aT9 (hr.good.inn hr.num) _ (by simp)
  rw [anH, show ((((acd B).length : Int) + 1, acn B) : Sys) = azc B from rfl, aNh hr.good hr.num, ab3, aOE hr.good hr.num (by omega) hci.1, ab3,
   cut_ok hr.good.size (by unfold azN; rw [List.length_map]; omega) (by simp) (aSz hr.good hci.1), ab3, show cutP B (azN B (ayj B n upper)) [n] = aoI B n upper from rfl, afX hpi.size hpi.num, ab3]
  by_cases hc : acz (aoI B n upper) = 0
  ·have hg := (acv _).1 hc
   rw [acm (by simp [ine, hc]), if_neg (show ¬ (acz (aoI B n upper) ≠ 0) from fun h => h hc)]
   refine (aQt _).trans ?_
   rw [aky hpi, ab3, agn hg, acm (by rfl)]
   dsimp only
   rw [show ((((acd (aoI B n upper)).length : Int) + 1, acn (aoI B n upper)) : Sys) = azc (aoI B n upper) from rfl, azK (aoI B n upper), avx hg.sys, ab3]
   cases ho : adR (acn (aoI B n upper)) ((acd (aoI B n upper)).length + 1) with
   | false => rw [if_neg (by simp)]; rfl
   | true =>
     rw [if_pos rfl, ← azK (aoI B n upper), acm (by rfl), aE8 hr, ab3, aNh hg hpi.num, ab3]
     cases upper with
     | true => rw [ad6, avb hr, ab3]; rfl
     | false => rfl
  ·rw [aco (by simp [ine, hc]), if_pos hc, aco (by simp [ine, hc])]
   rfl
theorem aPo {L : List Lk} {N : Nat} (h : afe L N) (ho : adR L N = true) : apP ((N : Int), L) = some ([], 5) := by
 have hN := h.n60
 unfold apP aA5
 rw [agz h, ab3, acm (by rfl), arP h.links h.n1 (by omega), ab3, if_pos ho]
 rfl
theorem aLE {b : acw} (hg : ads b) (hn : ∀ g ∈ b.2.1, I64 g.2.2.2.2.1.1) (ho : adR (acn b) ((acd b).length + 1) = true) : avi b = some (aRH, 5) := by
 unfold avi aAM
 rw [aky (hg.inn hn), ab3, agn hg, acm (by rfl), show ((((acd b).length : Int) + 1, acn b), aeq b, (0 : Int)).1 = azc b from rfl, azK, aPo hg.sys ho, ab3]
 rfl
end Go.Proofs.ZzM
end
noncomputable section
namespace Go.Proofs.ZzM
open Go Go.Am
section
variable {b : acw} {c d : Cmp} {s : Int × Int}
theorem aUx (h : Pred b c s) : -10000000000000000 ≤ s.1 ∧ s.1 ≤ s.2 ∧ s.2 ≤ 10000000000000000 := by
 have q := h.good2.cmp (aqb (c := aca c))
 obtain ⟨_, _, b1, b2, b3⟩ := axm (b := b) h.good.film (c := aca c) ⟨q.nums, q.r1, q.r2⟩
 have e1 : aMw b c = aCt (adT b (aca c)).1 + (ahg b (aca c)).1 - (aca c).2.2.2.2.2.1 := rfl
 have e2 : asH b c = (adT b (aca c)).2.1 / (adT b (aca c)).2.2 + (ahg b (aca c)).2 + (aca c).2.2.2.2.2.1 := rfl
 have o := h.order
 have n := h.ends
 have bd := h.bd
 omega
end
end Go.Proofs.ZzM
end
noncomputable section
namespace Go.Proofs.ZzM
open Go Go.Am
def afh (e : End) : List Int := [e.1 - e.2.1, e.2.2 - e.1, Int.tdiv (e.2.2 - e.2.1) 2, Int.tdiv (e.2.2 - e.2.1) 2 - 1, Int.tdiv (e.2.2 - e.2.1) 2 + 1]
def alZ (e : End) (n : Int) : List Int := [n - e.2.1, e.2.2 - n]
def atE (e : End) (d : Int) : Int := min e.1 (min (e.2.1 + d) (e.2.2 - d))
def azP (w : axe) (d : Int) : Int × Int := (-(atE w.2.2 d), atE w.2.1 d)
def aPc (r : Int × Int) (n : Int) : List Int := [n - 2, n - 1, n, n + 1, n + 2].filter fun d => decide (r.1 < d) && decide (d < r.2)
def aCX (r : Int × Int) (l : List Int) : List Int := [r.1, r.2] ++ l.flatMap (aPc r)
def aNf (w : axe) (l : List Int) : Int := l.foldl (fun m d => max m ((azP w d).2 - (azP w d).1)) (-1)
def aPQ (w : axe) : Int := aNf w (aCX w.1 (afh w.2.1 ++ afh w.2.2))
def Sm (n : Int) : Prop := -100000000000000000 ≤ n ∧ n ≤ 100000000000000000
structure aIi (e : End) : Prop where
 s : Sm e.1
 u : Sm e.2.1
 d : Sm e.2.2
structure aIe (w : axe) : Prop where
 lo : Sm w.1.1
 hi : Sm w.1.2
 high : aIi w.2.1
 low : aIi w.2.2
theorem aIv (n : Int) : -1 ≤ n - 2 * Int.tdiv n 2 ∧ n - 2 * Int.tdiv n 2 ≤ 1 := by
 have h1 := Int.tmod_add_mul_tdiv n 2
 have h2 := Int.tmod_two_eq n
 omega
theorem aza {e : End} (h : aIi e) : afT e = some (afh e) := by
 obtain ⟨⟨a1, a2⟩, ⟨b1, b2⟩, c1, c2⟩ := h
 have h2 := aIv (e.2.2 - e.2.1)
 unfold afT am0
 rw [acr (by omega) (by omega), acr (by omega) (by omega), acr (by omega) (by omega), acr (by omega) (by omega), acr (by omega) (by omega), acr (by omega) (by omega)]
 rfl
theorem azl {e : End} (h : aIi e) {n : Int} (hn : -1000000000000000000 ≤ n ∧ n ≤ 1000000000000000000) : afU e n = some (alZ e n) := by
 obtain ⟨⟨a1, a2⟩, ⟨b1, b2⟩, c1, c2⟩ := h
 unfold afU am1
 rw [acr (by omega) (by omega), acr (by omega) (by omega)]
 rfl
theorem aUi {e : End} (h : aIi e) {d : Int} (hd : Sm d) : amy e d = some (atE e d) := by
 obtain ⟨⟨a1, a2⟩, ⟨b1, b2⟩, c1, c2⟩ := h
 obtain ⟨d1, d2⟩ := hd
 unfold amy av3
 rw [acr (by omega) (by omega), acr (by omega) (by omega), awR, awR]
 unfold atE
 congr 1
 omega
theorem aR3 {e : End} (h : aIi e) {d : Int} (hd : Sm d) : -200000000000000000 ≤ atE e d ∧ atE e d ≤ 100000000000000000 := by
 obtain ⟨⟨a1, a2⟩, ⟨b1, b2⟩, c1, c2⟩ := h
 obtain ⟨d1, d2⟩ := hd
 unfold atE
 omega
theorem aP4 {w : axe} (h : aIe w) {d : Int} (hd : Sm d) : ad7 w d = some (azP w d) := by
 unfold ad7 alp
 have b1 := aR3 h.low hd
 rw [aUi h.low hd, ab3, acr (by omega) (by omega), aUi h.high hd, ab3]
 unfold azP
 rw [Int.zero_sub]
theorem aTf (r : Int × Int) (n : Int) : (aPc r n).length ≤ 5 := List.length_filter_le _ _
theorem aB6 (r : Int × Int) : ∀ l : List Int, (l.flatMap (aPc r)).length ≤ l.length * 5
 | [] => by simp
 | n :: l => by
   have h1 := aTf r n
   have h2 := aB6 r l
   rw [List.flatMap_cons, List.length_append, List.length_cons]
   omega
theorem aUJ {ρ : Type} (r : Int × Int) {n : Int} (hn : -4000000000000000000 ≤ n ∧ n ≤ 4000000000000000000) {out : List Int} (ho : out.length ≤ 1000) (K : List Int → Option ρ) :
 acl (fun (v9 : (Val (.pair tI (.slice tI)))) kk12 => afy n r.1 r.2 v9.1 v9.2 (fun u10 u11 => kk12 (u10, u11)) K) (n - 2, out) = K (out ++ aPc r n) := by
 let five : List Int := [n - 2, n - 1, n, n + 1, n + 2]
 have hg : ∀ (i : Nat), i < 5 → five[i]? = some (n - 2 + i) := by
  intro i hi
  have : i = 0 ∨ i = 1 ∨ i = 2 ∨ i = 3 ∨ i = 4 := by omega
  rcases this with rfl | rfl | rfl | rfl | rfl <;> simp only [five, List.getElem?_cons_zero, List.getElem?_cons_succ] <;> congr 1 <;> omega
 refine afs (fun v => ∃ i : Nat, i ≤ 5 ∧ v = (n - 2 + (i : Int), out ++ (five.take i).filter fun d => decide (r.1 < d) && decide (d < r.2))) (fun v => (n + 3 - v.1).toNat) ?_ ⟨0, by omega, by simp⟩
 rintro v ⟨i, hi, rfl⟩
 rcases Nat.lt_or_ge i 5 with h5 | h5
 ·refine .inr ⟨(n - 2 + ((i + 1 : Nat) : Int), out ++ (five.take (i + 1)).filter fun d => decide (r.1 < d) && decide (d < r.2)), ⟨i + 1, h5, rfl⟩, by dsimp only; omega, fun kn => ?_⟩
  have hl : ((five.take i).filter fun d => decide (r.1 < d) && decide (d < r.2)).length ≤ 5 := akl _ five i
  dsimp only
  unfold afy
  rw [acr (by omega) (by omega), aco (decide_eq_true (by omega)), take_succ (hg i h5), List.filter_append]
  have e0 : n - 2 + (i : Int) + 1 = n - 2 + ((i + 1 : Nat) : Int) := by push_cast; omega
  by_cases h1 : r.1 < n - 2 + (i : Int)
  ·rw [aco (show igt (n - 2 + (i : Int)) r.1 = true from decide_eq_true h1)]
   by_cases h2 : n - 2 + (i : Int) < r.2
   ·rw [aco (show ilt (n - 2 + (i : Int)) r.2 = true from decide_eq_true h2), adx (acq (by rw [List.length_append]; simp only [List.length_singleton]; omega)), acr (by omega) (by omega), e0]
    simp [h1, h2]
   ·rw [acm (show ilt (n - 2 + (i : Int)) r.2 = false from decide_eq_false h2), acr (by omega) (by omega), e0]
    simp [h1, h2]
  ·rw [acm (show igt (n - 2 + (i : Int)) r.1 = false from decide_eq_false h1), acr (by omega) (by omega), e0]
   simp [h1]
 ·refine .inl fun kn => ?_
  obtain rfl : i = 5 := by omega
  dsimp only
  unfold afy
  rw [acr (by omega) (by omega), acm (decide_eq_false (by omega))]
  rfl
theorem aQC (w : axe) {l : List Int} (hl : l.length ≤ 100) (hn : ∀ n ∈ l, -2000000000000000000 ≤ n ∧ n ≤ 2000000000000000000) : agN w l = some (aCX w.1 l) := by
 unfold agN alq
 refine adf l (fun i => [w.1.1, w.1.2] ++ (l.take i).flatMap (aPc w.1)) _ rfl (fun i n hi ha kn => ?_) (fun kn => ?_)
 ·try dsimp only
  unfold ags
  have hb := hn n (List.mem_of_getElem? ha)
  have h5 := aB6 w.1 (l.take i)
  have ht : (l.take i).length ≤ 100 := by rw [List.length_take]; omega
  rw [acp hi, aci ha, acr (by omega) (by omega)]
  refine (aUJ w.1 (by omega) (by rw [List.length_append]; simp only [List.length_cons, List.length_nil]; omega) _).trans ?_
  rw [acj hi (by omega), take_succ ha, List.flatMap_append, List.append_assoc]
  simp
 ·try dsimp only
  unfold ags
  rw [acL, List.take_length]
  rfl
theorem aSX {r : Int × Int} {l : List Int} {d : Int} : d ∈ aCX r l ↔ d = r.1 ∨ d = r.2 ∨ (r.1 < d ∧ d < r.2 ∧ ∃ n ∈ l, n - 2 ≤ d ∧ d ≤ n + 2) := by
 unfold aCX aPc
 simp only [List.mem_append, List.mem_cons, List.not_mem_nil, or_false, List.mem_flatMap, List.mem_filter, Bool.and_eq_true, decide_eq_true_eq]
 constructor
 ·rintro ((h | h) | ⟨n, hn, h, h1, h2⟩)
  ·exact .inl h
  ·exact .inr (.inl h)
  ·exact .inr (.inr ⟨h1, h2, n, hn, by omega, by omega⟩)
 ·rintro (h | h | ⟨h1, h2, n, hn, h3, h4⟩)
  ·exact .inl (.inl h)
  ·exact .inl (.inr h)
  ·exact .inr ⟨n, hn, by omega, h1, h2⟩
theorem aNN (r : Int × Int) {l : List Int} (hl : l.length ≤ 100) : (aCX r l).length ≤ 600 := by
 have := aB6 r l
 unfold aCX
 rw [List.length_append]
 simp only [List.length_cons, List.length_nil]
 omega
theorem aQB {w : axe} (h : aIe w) {l : List Int} : ∀ d ∈ aCX w.1 l, Sm d := by
 intro d hd
 obtain ⟨a1, a2⟩ := h.lo
 obtain ⟨b1, b2⟩ := h.hi
 rcases aSX.1 hd with h | h | ⟨h1, h2, _⟩
 ·rw [h]; exact ⟨a1, a2⟩
 ·rw [h]; exact ⟨b1, b2⟩
 ·exact ⟨by omega, by omega⟩
theorem azb {e : End} (h : aIi e) : ∀ n ∈ afh e, -1000000000000000000 ≤ n ∧ n ≤ 1000000000000000000 := by
 obtain ⟨⟨a1, a2⟩, ⟨b1, b2⟩, c1, c2⟩ := h
 have h2 := aIv (e.2.2 - e.2.1)
 intro n hn
 unfold afh at hn
 simp only [List.mem_cons, List.not_mem_nil, or_false] at hn
 omega
theorem aSo {w : axe} (h : aIe w) : ahN w = some (aPQ w) := by
 unfold ahN aj6
 have hl : ([afh w.2.1, afh w.2.2] : List (List Int)).flatten = afh w.2.1 ++ afh w.2.2 := by simp
 have hll : (afh w.2.1 ++ afh w.2.2).length = 10 := rfl
 rw [aza h.high, ab3, aza h.low, ab3, ajU (by simp) (by rw [hl, hll]; omega), ab3, hl, aQC w (by rw [hll]; omega) (fun n hn => by
  rcases List.mem_append.1 hn with hn | hn
  ·have := azb h.high n hn; omega
  ·have := azb h.low n hn; omega), ab3]
 have hnl := aNN w.1 (l := afh w.2.1 ++ afh w.2.2) (by rw [hll]; omega)
 have hsm := aQB h (l := afh w.2.1 ++ afh w.2.2)
 unfold aPQ
 generalize aCX w.1 (afh w.2.1 ++ afh w.2.2) = l at hnl hsm ⊢
 refine afs (fun v => ∃ i : Nat, i ≤ l.length ∧ v = (aNf w (l.take i), (i : Int))) (fun v => l.length - v.2.toNat) ?_ ⟨0, by omega, rfl⟩
 rintro v ⟨i, hi, rfl⟩
 rcases Nat.lt_or_ge i l.length with h2 | h2
 ·have ha : l[i]? = some l[i] := List.getElem?_eq_getElem h2
  have hs := hsm l[i] (List.getElem_mem _)
  generalize l[i] = d at ha hs
  refine .inr ⟨(aNf w (l.take (i + 1)), ((i + 1 : Nat) : Int)), ⟨i + 1, h2, rfl⟩, by dsimp only; omega, fun kn => ?_⟩
  dsimp only
  unfold agc
  have b1 := aR3 h.low hs
  have b2 := aR3 h.high hs
  rw [acp h2, aci ha, show ad7 ((w.1.1, w.1.2), (w.2.1.1, w.2.1.2.1, w.2.1.2.2), w.2.2.1, w.2.2.2.1, w.2.2.2.2) d = ad7 w d from rfl, aP4 h hs, ab3, acr (by unfold azP; dsimp only; omega) (by unfold azP; dsimp only; omega), acj h2 (by omega), aHK, take_succ ha]
  unfold aNf
  rw [List.foldl_append]
  rfl
 ·refine .inl fun kn => ?_
  obtain rfl : i = l.length := by omega
  dsimp only
  unfold agc
  rw [acL, List.take_length]
theorem aNe {b : acw} {n : Int × Int} {c : Cmp} (hp : (adG b c).2 = 0) : aIe (aIn b n c) := by
 obtain ⟨g1, g2⟩ := ajG hp
 have ho := axo hp
 have hb := aUx (aIR hp)
 have hx := arE g2
 have hy := arD g2
 have b6 := aP9 g1 g2 ho
 have key : ∀ {s t : Int}, 0 ≤ s ∧ s < ((acd (acD b (aca c))).length + 1 : Nat) → 0 ≤ t ∧ t < ((acd (acD b (aca c))).length + 1 : Nat) → aIi (endP b (aca c) s t) := by
  intro s t hs ht
  have b1 := alJ g1 g2 ho hs ht
  have b2 := alJ g1 g2 ho hs hy
  have b3 := alJ g1 g2 ho hx ht
  have b4 := alJ g1 g2 ho hs hx
  have b5 := alJ g1 g2 ho hy ht
  unfold endP
  exact ⟨⟨by dsimp only; omega, by dsimp only; omega⟩, ⟨by dsimp only; omega, by dsimp only; omega⟩, by dsimp only; omega, by dsimp only; omega⟩
 exact ⟨⟨by show _ ≤ (adG b c).1.1; omega, by show (adG b c).1.1 ≤ _; omega⟩, ⟨by show _ ≤ (adG b c).1.2; omega, by show (adG b c).1.2 ≤ _; omega⟩, key (adK _) (aec _ n), key (aec _ n) (adK _)⟩
def aOq (b : acw) (n : Int × Int) (c : Cmp) : Int × Int :=
 if (adc b [n]).2 ≠ 0 then (0, (adc b [n]).2) else if (adG (adc b [n]).1 c).2 ≠ 0 then (0, (adG (adc b [n]).1 c).2) else (aPQ (aIn (adc b [n]).1 n c), 0)
theorem aSp {ρ : Type} : @ao4 ρ = @acY ρ := rfl
theorem aTR {b : acw} (hI : In b) (n : Int × Int) {c : Cmp} (hA : c.2.2.1.length ≤ 1000) (hB : c.2.2.2.1.length ≤ 1000) : apL b n c = some (aOq b n c) := by
 unfold apL aAF aOq
 rw [aSp]
 refine (akG hI (ns := [n]) (by simp) (fun e => some ((0 : Int), e)) (fun e he => by rw [adx (by simp [ine, he])]) (fun z he => by rw [adx (by simp [ine, he])]) (fun _ _ _ => rfl)).trans ?_
 split
 ·rfl
 ·rename_i e
  have hr := (agI hI (by simpa using e)).1
  dsimp only
  rw [anH, show ((((acd (adc b [n]).1).length : Int) + 1, acn (adc b [n]).1) : Sys) = azc (adc b [n]).1 from rfl, aKr hr n hA hB, ab3]
  unfold aHH
  by_cases hp : (adG (adc b [n]).1 c).2 = 0
  ·rw [if_neg (by simp [hp]), if_neg (by simp [hp]), acm (by rfl), aSo (aNe hp), ab3]
  ·rw [if_pos hp, if_pos hp, aco (bne_iff_ne.2 hp)]
def aPJ (x : Int) : Int := max (-288230376151711744) (min x 288230376151711744)
def arQ (w : axe) (l : Int × Int) : List Int := (afh w.2.1 ++ afh w.2.2) ++ (alZ w.2.1 l.1 ++ alZ w.2.2 (-l.1)) ++ (alZ w.2.1 l.2 ++ alZ w.2.2 (-l.2))
def aNs (w : axe) (l : Int × Int) : Bool := (aCX w.1 (arQ w l)).all fun d => aeJ (azP w d) l != 3
def azC (b : acw) (n l : Int × Int) (c : Cmp) : Bool × Int :=
 if (adc b [n]).2 ≠ 0 then (false, (adc b [n]).2) else if l.2 < l.1 then (false, 1) else if (adG (adc b [n]).1 c).2 ≠ 0 then (false, (adG (adc b [n]).1 c).2) else (aNs (aIn (adc b [n]).1 n c) (aPJ l.1, aPJ l.2), 0)
theorem aOG {ρ : Type} : @alv ρ = @acY ρ := rfl
theorem aT8 (x : Int) : ahO x = some (aPJ x) := by
 unfold ahO am5 aPJ
 rw [awR, aHK]
theorem azm {e : End} (h : aIi e) {n : Int} (hn : -300000000000000000 ≤ n ∧ n ≤ 300000000000000000) : ∀ m ∈ alZ e n, -1000000000000000000 ≤ m ∧ m ≤ 1000000000000000000 := by
 obtain ⟨⟨a1, a2⟩, ⟨b1, b2⟩, c1, c2⟩ := h
 intro m hm
 unfold alZ at hm
 simp only [List.mem_cons, List.not_mem_nil, or_false] at hm
 omega
theorem aPD {b : acw} (hI : In b) (n l : Int × Int) {c : Cmp} (hA : c.2.2.1.length ≤ 1000) (hB : c.2.2.2.1.length ≤ 1000) : akp b n l c = some (azC b n l c) := by
 unfold akp asl azC
 rw [aOG]
 refine (akG hI (ns := [n]) (by simp) (fun e => some (false, e)) (fun e he => by rw [aco (by simp [ine, he])]) (fun z he => by rw [aco (by simp [ine, he])]) (fun _ _ _ => rfl)).trans ?_
 split
 ·rfl
 ·rename_i e
  have hr := (agI hI (by simpa using e)).1
  dsimp only
  by_cases hl : l.2 < l.1
  ·rw [aco (by simp [igt, hl]), if_pos hl]
  ·rw [acm (by simp [igt]; omega), if_neg hl, anH, show ((((acd (adc b [n]).1).length : Int) + 1, acn (adc b [n]).1) : Sys) = azc (adc b [n]).1 from rfl, aKr hr n hA hB, ab3]
   unfold aHH
   by_cases hp : (adG (adc b [n]).1 c).2 = 0
   ·rw [if_neg (by simp [hp]), if_neg (by simp [hp]), acm (by rfl)]
    have hw := aNe (n := n) hp
    dsimp only
    generalize aIn (adc b [n]).1 n c = w at hw ⊢
    have f1 : -300000000000000000 ≤ aPJ l.1 ∧ aPJ l.1 ≤ 300000000000000000 := by unfold aPJ; omega
    have f2 : -300000000000000000 ≤ aPJ l.2 ∧ aPJ l.2 ≤ 300000000000000000 := by unfold aPJ; omega
    have q1 : ([afh w.2.1, afh w.2.2] : List (List Int)).flatten = afh w.2.1 ++ afh w.2.2 := by simp
    have q2 : ∀ x y z : List Int, ([x, y, z] : List (List Int)).flatten = x ++ (y ++ z) := by intro x y z; simp
    rw [aza hw.high, ab3, aza hw.low, ab3, ajU (by simp) (by rw [q1]; simp [afh]), ab3, q1, aT8, ab3, aT8, ab3]
    generalize aPJ l.1 = l1 at f1 ⊢
    generalize aPJ l.2 = l2 at f2 ⊢
    rw [azl hw.high (by omega), ab3, acr (by omega) (by omega), Int.zero_sub, azl hw.low (by omega), ab3, ajU (by simp) (by rw [q2]; simp [afh, alZ]), ab3, q2,
     azl hw.high (by omega), ab3, acr (by omega) (by omega), Int.zero_sub, azl hw.low (by omega), ab3, ajU (by simp) (by rw [q2]; simp [afh, alZ]), ab3, q2]
    have hll : (arQ w (l1, l2)).length = 18 := rfl
    have qs : afh w.2.1 ++ afh w.2.2 ++ (alZ w.2.1 l1 ++ alZ w.2.2 (-l1)) ++ (alZ w.2.1 l2 ++ alZ w.2.2 (-l2)) = arQ w (l1, l2) := rfl
    rw [qs, aQC w (by rw [hll]; omega) (fun m hm => by
     unfold arQ at hm
     simp only [List.mem_append] at hm
     rcases hm with ((hm | hm) | (hm | hm)) | (hm | hm)
     ·have := azb hw.high m hm; omega
     ·have := azb hw.low m hm; omega
     ·have := azm hw.high f1 m hm; omega
     ·have := azm hw.low (n := -l1) (by omega) m hm; omega
     ·have := azm hw.high f2 m hm; omega
     ·have := azm hw.low (n := -l2) (by omega) m hm; omega), ab3]
    have hnl := aNN w.1 (l := arQ w (l1, l2)) (by rw [hll]; omega)
    have hsm := aQB hw (l := arQ w (l1, l2))
    unfold aNs
    generalize aCX w.1 (arQ w (l1, l2)) = ds at hnl hsm ⊢
    refine (afS ds (fun d => aeJ (azP w d) (l1, l2) == 3) (fun z30 => some ((!(ige z30 (0 : Int))), (0 : Int))) (some (false, 0)) (some (true, 0)) (fun j => by rw [show ige (j : Int) 0 = true from decide_eq_true (by omega)]; rfl) (fun i d hi hd kn => ?_) (fun kn => ?_)).trans ?_
    ·try dsimp only
     unfold aiy
     rw [acp hi, aci hd, show ad7 ((w.1.1, w.1.2), (w.2.1.1, w.2.1.2.1, w.2.1.2.2), w.2.2.1, w.2.2.2.1, w.2.2.2.2) d = ad7 w d from rfl, aP4 hw (hsm d (List.mem_of_getElem? hd)), ab3, aEl, ab3, acj hi (by omega), adH]
    ·try dsimp only
     unfold aiy
     rw [acL]
    ·rw [show (fun d => aeJ (azP w d) (l1, l2) != 3) = (fun d => !(aeJ (azP w d) (l1, l2) == 3)) from rfl, ← List.not_any_eq_all_not]
     cases ds.any fun d => aeJ (azP w d) (l1, l2) == 3 <;> rfl
   ·rw [if_pos hp, if_pos hp, aco (bne_iff_ne.2 hp)]
end Go.Proofs.ZzM
end
noncomputable section
namespace Go.Proofs.ZzM
open Go Go.Am
theorem aPs {b : acw} (h : In b) (n : Int × Int) (upper : Bool) : In (ajH b n upper).1.1 := by
 have h0 : In ajF := ⟨⟨by simp [ajF], by simp [ajF], by simp [ajF], by simp [ajF], by simp [ajF], by simp [ajF]⟩, by simp [ajF]⟩
 unfold ajH
 by_cases e : (adc b [n]).2 = 0
 ·rw [if_neg (by simp [e])]
  have hr := (agI h e).1
  split
  ·exact h0
  ·split
   ·exact aT9 (hr.good.inn hr.num) _ (by simp)
   ·exact h0
 ·rw [if_pos e]; exact h0
theorem y1 : avw exB (2, 10) = ((984, 1011), 0) := by decide +kernel
theorem y2 : avw exB (1, 30) = ((964, 1005), 0) := by decide +kernel
theorem y3 : aIl exB (1, 10) (2, 10) = ((-6, 11), 0) := by decide +kernel
theorem y4 : aVh exB 10 [1, 2] = ((1979, 2018), 0) := by decide +kernel
theorem y5 : aOu exB (2, 0) (990, 1010) = (3, 0) := by decide +kernel
theorem y6 : (ajH exB (2, 10) true).2 = 0 ∧ (ajH exB (2, 10) true).1.2.2.2.1 = 1011 := by decide +kernel
theorem y7 : aOq exB (2, 10) exC = (10, 0) := by decide +kernel
theorem y8 : azC exB (2, 10) (900, 1100) exC = (true, 0) := by decide +kernel
theorem y9 : aM6 exB (ajH exB (2, 10) true).1 = (true, 0) := by decide +kernel
theorem y10 : acz exB = 0 ∧ adR (acn exB) ((acd exB).length + 1) = true := by decide +kernel
theorem y11 : ajV (ajH exB (2, 10) true).1 = 0 := by decide +kernel
theorem aOI : acV = some true := by
 unfold acV ar5 apK aoQ
 have hc := aPs apT (2, 10) true
 have hv : I64 (ajH exB (2, 10) true).1.2.2.2.1 := by rw [y6.2]; unfold I64; omega
 rw [ab3]
 rw [show ((((0 : Int), (2 : Int)), [((1 : Int), (0 : Int), (1000 : Int), ((-5 : Int), (5 : Int)), ((1 : Int), (10 : Int)), (1 : Int)), ((2 : Int), (0 : Int), (1000 : Int), ((-50 : Int), (50 : Int)), ((1 : Int), (4 : Int)), (0 : Int))], [((1 : Int), (10 : Int))], [((1 : Int), ((20 : Int), (29 : Int)), (3 : Int))], [((7 : Int), (10 : Int), [(1 : Int)], [(2 : Int)], (-20 : Int), (1 : Int), (100 : Int), (200 : Int))], ([] : List (Int × Int))) : acw) = exB from rfl]
 rw [aCN apT, ab3, aCN apT, ab3, aPH apT, ab3, aVg apT _ (by decide), ab3, aOt apT, ab3, aPG apT, ab3, y1, y2, y3, y4, y5, y6.1, y6.2]
 rw [show apL exB ((2 : Int), (10 : Int)) ((8 : Int), (10 : Int), [(1 : Int)], [(2 : Int)], (0 : Int), (0 : Int), (0 : Int), (0 : Int)) = some (aOq exB (2, 10) exC) from aTR apT _ (c := exC) (by decide) (by decide),
  show akp exB ((2 : Int), (10 : Int)) ((900 : Int), (1100 : Int)) ((8 : Int), (10 : Int), [(1 : Int)], [(2 : Int)], (0 : Int), (0 : Int), (0 : Int), (0 : Int)) = some (azC exB (2, 10) (900, 1100) exC) from aPD apT _ _ (c := exC) (by decide) (by decide),
  aR8 apT hc hv, aLE ((acv _).1 y10.1) apT.num y10.2, ayo hc hv, y7, y8, y9, y11]
 rfl
end Go.Proofs.ZzM
end
noncomputable section
namespace Go.Proofs.ZzM
open Go Go.Am
def ayn (b : acw) (n : Int × Int) : Prop := ∃ g ∈ b.2.1, g.1 = n.1 ∧ n.2 ∈ acB b g
theorem aHL {b : acw} (h : ads b) {n : Int × Int} : agl b n.1 n.2 ≠ 0 ↔ ayn b n := by
 unfold agl
 constructor
 ·intro hne
  cases hx : agD (acd b) n.1 n.2 with
  | none => rw [hx] at hne; simp at hne
  | some j =>
    have hm := List.mem_of_getElem? (ahb hx).2
    unfold acd at hm
    obtain ⟨g, hg, hd⟩ := List.mem_flatMap.1 hm
    obtain ⟨d, hd, e⟩ := List.mem_map.1 hd
    simp only [Prod.mk.injEq] at e
    obtain ⟨e1, rfl⟩ := e
    exact ⟨g, hg, e1, hd⟩
 ·rintro ⟨g, hg, e, hd⟩
  obtain ⟨i, hi, rfl⟩ := List.mem_iff_getElem.1 hg
  obtain ⟨k, hk, e2⟩ := List.mem_iff_getElem.1 hd
  rw [← e, aF5 h (List.getElem?_eq_getElem hi) (by rw [List.getElem?_eq_getElem hk, e2])]
  dsimp only
  omega
theorem aRw (b : acw) (n : Int × Int) (g : acS) {d : Int} (hd : d ∈ acB b g) : d ∈ acB (ahq b n) g := by
 unfold acB at hd ⊢
 rw [ap9] at hd ⊢
 unfold aHV ahq at *
 simp only [List.mem_append, List.mem_map, List.mem_filter] at hd ⊢
 rcases hd with (h | h) | ⟨m, ⟨h1, h2⟩, h3⟩
 ·exact .inl (.inl h)
 ·exact .inl (.inr h)
 ·exact .inr ⟨m, ⟨.inl h1, h2⟩, h3⟩
theorem aQR {b : acw} (n : Int × Int) (h' : ads (ahq b n)) : ayn (ahq b n) n := by
 have hu := h'.looks n (by simp [ahq])
 unfold aSv at hu
 split at hu
 ·omega
 obtain ⟨g, hg, _⟩ := avQ h' hu
 obtain ⟨hm, e⟩ := alg hg
 refine ⟨g, hm, e, ?_⟩
 unfold acB
 rw [ap9]
 unfold aHV ahq
 simp only [List.mem_append, List.mem_map, List.mem_filter]
 exact .inr ⟨n, ⟨.inr (by simp), by simp [e]⟩, rfl⟩
theorem azL {b : acw} {n : Int × Int} (e : (agp b n).2 = 0) : (agp b n = (b, 0) ∧ agl b n.1 n.2 ≠ 0) ∨ (agp b n = (ahq b n, 0) ∧ ads (ahq b n) ∧ agl b n.1 n.2 = 0) := by
 unfold agp at e ⊢
 split
 ·rename_i h; exact .inl ⟨rfl, h⟩
 ·rename_i h1
  rw [if_neg h1] at e
  split
  ·rename_i h2; rw [if_pos h2] at e; exact absurd e h2
  ·rename_i h2; exact .inr ⟨rfl, (acv _).1 (by simpa using h2), by simpa using h1⟩
theorem aIJ : ∀ {ns : List (Int × Int)} {b : acw}, (aeR b ns).2 = 0 → ∀ n, ayn b n → ayn (aeR b ns).1 n
 | [], b, _, n, hn => hn
 | m :: t, b, e, n, hn => by
   unfold aeR at e ⊢
   split
   ·rename_i h1; rw [if_pos h1] at e; exact absurd e h1
   ·rename_i h1
    rw [if_neg h1] at e
    refine aIJ e n ?_
    rcases azL (by simpa using h1) with ⟨h, _⟩ | ⟨h, _, _⟩
    ·rw [h]; exact hn
    ·rw [h]
     obtain ⟨g, hg, e1, hd⟩ := hn
     exact ⟨g, hg, e1, aRw b m g hd⟩
theorem aII : ∀ {ns : List (Int × Int)} {b : acw}, ads b → (aeR b ns).2 = 0 → ∀ n ∈ ns, ayn (aeR b ns).1 n
 | [], b, _, _, n, hn => by simp at hn
 | m :: t, b, hg, e, n, hn => by
   unfold aeR at e ⊢
   split
   ·rename_i h1; rw [if_pos h1] at e; exact absurd e h1
   ·rename_i h1
    rw [if_neg h1] at e
    have h1' : (agp b m).2 = 0 := by simpa using h1
    rcases List.mem_cons.1 hn with rfl | hn
    ·refine aIJ e n ?_
     rcases azL h1' with ⟨h, h2⟩ | ⟨h, h2, _⟩
     ·rw [h]; exact (aHL hg).1 h2
     ·rw [h]; exact aQR n h2
    ·exact aII (aIx hg h1') e n hn
theorem aQS {b : acw} {n : Int × Int} {f : Int → Int → Int} {z : Int} : aLq (ahq b n) f z ↔ aLq b f z :=
 ⟨fun h => ⟨fun g hg => by have := h.gauge g hg; exact ⟨this.hi, this.lo, this.down, this.loss⟩, h.cmp⟩, fun h => ⟨fun g hg => by have := h.gauge g hg; exact ⟨this.hi, this.lo, this.down, this.loss⟩, h.cmp⟩⟩
theorem aIK : ∀ {ns : List (Int × Int)} {b : acw}, (aeR b ns).2 = 0 → ∀ {f : Int → Int → Int} {z : Int}, aLq (aeR b ns).1 f z ↔ aLq b f z
 | [], b, _, f, z => Iff.rfl
 | m :: t, b, e, f, z => by
   unfold aeR at e ⊢
   split
   ·rename_i h1; rw [if_pos h1] at e; exact absurd e h1
   ·rename_i h1
    rw [if_neg h1] at e
    rw [aIK e]
    rcases azL (by simpa using h1) with ⟨h, _⟩ | ⟨h, _, _⟩
    ·rw [h]
    ·rw [h]; exact aQS
section
variable {B : acw} (h : aTT B)
include h
theorem aNV (n : Int × Int) : (ivR B n).1 ≤ (ivR B n).2 := avm h.good.sys h.good.tied h.op (aec B n) (adK B)
theorem iv_bd (n : Int × Int) : -9007199254740992 ≤ (ivR B n).1 ∧ (ivR B n).2 ≤ 9007199254740992 := by
 have a1 := apU h (aec B n) (adK B)
 have a2 := apU h (adK B) (aec B n)
 unfold ivR
 dsimp only
 omega
end
structure Asked (b : acw) (ns : List (Int × Int)) (B : acw) : Prop where
 room : aTT B
 nodes : ∀ n ∈ ns, ayn B n
 hist : ∀ {f : Int → Int → Int} {z : Int}, aLq B f z ↔ aLq b f z
 good : ads b
 gauges : B.2.1 = b.2.1
theorem aEF {b : acw} (hI : In b) {ns : List (Int × Int)} (e : (adc b ns).2 = 0) : Asked b ns (adc b ns).1 := by
 obtain ⟨h1, h2, h3, h4⟩ := agI hI e
 exact ⟨h1, by rw [h2]; exact aII h4 h3, by rw [h2]; exact aIK h3, h4, by rw [h2]; exact amL h3⟩
def aFy (c : Cmp) : Bool := decide (c.2.2.1.length ≤ 10) && decide (c.2.2.2.1.length ≤ 10)
theorem aRV (c : Cmp) : aqq c = some (aFy c) := by
 unfold aqq avT aFy
 rw [acA, acA, adH]
 by_cases h : c.2.2.1.length ≤ 10
 ·rw [if_pos (by simp [ile]; omega)]
  simp [ile, h]
  omega
 ·rw [if_neg (by simp [ile]; omega)]
  simp [h]
def fewP (b : acw) : Bool :=
 !((b.2.2.2.2.1.take 50).any fun c => !aFy c) && (decide (b.2.1.length ≤ 14) && (decide (b.2.2.1.length ≤ 45) && (decide (b.2.2.2.1.length ≤ 14) && (decide (b.2.2.2.2.1.length ≤ 42) && decide (b.2.2.2.2.2.length ≤ 12)))))
theorem few_ok (b : acw) : azv b = some (fewP b) := by
 unfold azv aGf
 have last : (ifb (ile (acs b.2.1) (14 : Int)) (ifb (ile (acs b.2.2.1) (45 : Int)) (ifb (ile (acs b.2.2.2.1) (14 : Int)) (ifb (ile (acs b.2.2.2.2.1) (42 : Int)) (some (ile (acs b.2.2.2.2.2) (12 : Int))) (some false)) (some false)) (some false)) (some false)) =
  some (decide (b.2.1.length ≤ 14) && (decide (b.2.2.1.length ≤ 45) && (decide (b.2.2.2.1.length ≤ 14) && (decide (b.2.2.2.2.1.length ≤ 42) && decide (b.2.2.2.2.2.length ≤ 12))))) := by
  have e : ∀ (n m : Nat), ile (n : Int) (m : Int) = decide (n ≤ m) := fun n m => by simp [ile]
  rw [acA, acA, acA, acA, acA, show (14 : Int) = ((14 : Nat) : Int) from rfl, show (45 : Int) = ((45 : Nat) : Int) from rfl, show (42 : Int) = ((42 : Nat) : Int) from rfl, show (12 : Int) = ((12 : Nat) : Int) from rfl, e, e, e, e, e]
  generalize decide (b.2.1.length ≤ 14) = x1
  generalize decide (b.2.2.1.length ≤ 45) = x2
  generalize decide (b.2.2.2.1.length ≤ 14) = x3
  generalize decide (b.2.2.2.2.1.length ≤ 42) = x4
  cases x1 <;> cases x2 <;> cases x3 <;> cases x4 <;> rfl
 rw [last]
 refine Eq.trans (afS (b.2.2.2.2.1.take 50) (fun c => !aFy c) (fun _ => some false) (some false) (some (decide (b.2.1.length ≤ 14) && (decide (b.2.2.1.length ≤ 45) && (decide (b.2.2.2.1.length ≤ 14) && (decide (b.2.2.2.2.1.length ≤ 42) && decide (b.2.2.2.2.2.length ≤ 12)))))) (fun _ => rfl) (fun i c hi hc kn => ?_) (fun kn => ?_)) ?_
 ·try dsimp only
  unfold amQ
  rw [List.length_take] at hi
  have hc' : b.2.2.2.2.1[i]? = some c := by rw [List.getElem?_take] at hc; split at hc <;> simp_all
  rw [acp (show i < b.2.2.2.2.1.length by omega), aco (decide_eq_true (by omega)), aci hc', aRV, ab3, acr (by omega) (by omega), adH]
 ·try dsimp only
  unfold amQ
  rw [List.length_take, adH]
  split
  ·rename_i h
   have h' : 50 < b.2.2.2.2.1.length := by rw [acA] at h; simp [ilt] at h; omega
   rw [acm (decide_eq_false (by omega))]
  ·rfl
 ·unfold fewP
  cases List.any (List.take 50 b.2.2.2.2.1) (fun c => !aFy c) <;> rfl
theorem aTj {b : acw} (h : fewP b = true) : ahl b := by
 simp only [fewP, Bool.and_eq_true, Bool.not_eq_true', decide_eq_true_eq] at h
 obtain ⟨h0, h1, h2, h3, h4, h5⟩ := h
 refine ⟨by omega, by omega, by omega, by omega, by omega, fun c hc => ?_⟩
 rw [List.take_of_length_le (by omega)] at h0
 have := List.any_eq_false.1 h0 c hc
 simp [aFy] at this
 omega
end Go.Proofs.ZzM
end
noncomputable section
namespace Go.Proofs.ZzM
open Go Go.Am
section
variable {L : List Lk} {N : Nat}
theorem aNa (h : afe L N) (ht : aqP L N) : aew ((N : Int), L) = some (if adR L N then (ad2 L N 0, 0) else ([], 9)) := by
 have h2 := h.n60
 have h3 := h.n1
 unfold aew apl
 rw [aOm h (by simp) (by simp), ab3]
 by_cases ho : adR L N = true
 ·rw [if_pos ho, acm (by rfl), aK9 h.links h.n1 (by omega) ho ⟨by omega, by omega⟩, ab3, ahm (by rw [akx]; omega), ab3, if_pos ho]
  rw [acm]
  rw [Bool.eq_false_iff]
  intro hc
  have hm := List.contains_iff_mem.1 hc
  obtain ⟨i, hi, he⟩ := List.mem_iff_getElem.1 hm
  rw [akx] at hi
  have := axb h ht ho (v := i) (by omega) (by omega)
  unfold gv at this
  rw [Int.toNat_natCast, List.getElem?_eq_getElem (by rw [akx]; exact hi)] at this
  simp only [Option.getD_some] at this
  omega
 ·rw [if_neg ho, aco (by rfl), if_neg ho]
end
end Go.Proofs.ZzM
end
noncomputable section
namespace Go.Proofs.ZzM
open Go Go.Am
theorem aRt {b : acw} (h : ads b) {y : List Int} (hy : y.length = (acd b).length + 1) (h0 : gv y 0 = 0) (hp : Pot (acn b) (gv y)) : aIh b (y.drop 1) = (true, 0) := by
 have e : 0 :: y.drop 1 = y := by
  cases y with
  | nil => simp at hy
  | cons a t =>
    have : a = 0 := h0
    rw [this]; rfl
 rw [aSg]
 refine ⟨h, aKo.2 ⟨by simp; omega, fun n hn => ?_⟩, ?_⟩
 ·obtain ⟨i, hi, rfl⟩ := List.mem_iff_getElem.1 hn
  rw [List.length_drop] at hi
  have := aSK h hp (v := ((1 + i : Nat) : Int)) (by omega) (by omega)
  rw [h0] at this
  unfold gv at this
  rw [Int.toNat_natCast, List.getElem?_eq_getElem (by omega)] at this
  rw [List.getElem_drop]
  simp only [Option.getD_some] at this
  omega
 ·unfold aRi
  rw [e]
  exact aRj.2 hp
end Go.Proofs.ZzM
end
noncomputable section
namespace Go.Proofs.ZzM
open Go Go.Am
section
variable {B : acw} (h : aTT B)
include h
theorem aTn {v : Int} (hv : 0 ≤ v ∧ v < ((acd B).length + 1 : Nat)) : (-4503599627370496 ≤ aEc B 0 v ∧ aEc B 0 v ≤ 4503599627370496) ∧ (-4503599627370496 ≤ aEc B v 0 ∧ aEc B v 0 ≤ 4503599627370496) := by
 have a1 : aEc B 0 v ≤ 4503599627370496 := axb h.good.sys h.good.tied h.op hv.1 hv.2
 have a2 : aEc B v 0 ≤ 4503599627370496 := aPA h.good.sys h.good.tied h.op hv.1 hv.2
 have a3 : -(aEc B v 0) ≤ aEc B 0 v := avm h.good.sys h.good.tied h.op hv (adK B)
 omega
end
theorem aFc (n : Int) (s : Int × Int) : adq n s = some (decide (s.1 ≤ n) && decide (n ≤ s.2)) := by
 unfold adq ar6
 rw [adH]
 by_cases h : s.1 ≤ n
 ·rw [if_pos (by simpa [ige] using h)]; simp [h]
 ·rw [if_neg (by simpa [ige] using h)]; simp [h]
def aNz (b : acw) (n : Int × Int) : Int := if (aoq b n).2 ≠ 0 then -1 else (aoq b n).1 - 1
theorem aSM {b : acw} (hI : In b) (n : Int × Int) : ahh b n = some (aNz b n) := by
 unfold ahh avR aNz
 rw [amJ hI, ab3]
 by_cases h : (aoq b n).2 = 0
 ·rw [acm (by rw [h]; rfl), if_neg (by simp [h])]
  have hl := avP hI.size
  have hr := aec b n
  have hb : 0 ≤ (aoq b n).1 ∧ (aoq b n).1 ≤ 3000000 := by
   unfold aoq
   split
   ·simp
   ·split
    ·simp
    ·dsimp only; omega
  rw [acr (by omega) (by omega)]
 ·rw [aco (bne_iff_ne.2 h), if_pos h]
theorem aLN {b : acw} (h : ads b) (n : Int × Int) : aNz b n = agl b n.1 n.2 - 1 := by
 unfold aNz
 rw [akz h]
 by_cases h0 : agl b n.1 n.2 = 0
 ·rw [if_pos h0, h0]; rfl
 ·rw [if_neg h0]; rfl
def aIL : acw → List (Int × Int) → acw × Bool
 | b, [] => (b, true)
 | b, n :: t => if (agp b n).2 ≠ 0 then (b, false) else aIL (agp b n).1 t
theorem aNw : ∀ (ns : List (Int × Int)) (b : acw), (aIL b ns).2 = decide ((aeR b ns).2 = 0) ∧ ((aeR b ns).2 = 0 → aIL b ns = ((aeR b ns).1, true))
 | [], b => ⟨rfl, fun _ => rfl⟩
 | n :: t, b => by
   unfold aIL aeR
   by_cases h : (agp b n).2 = 0
   ·rw [if_neg (by simp [h]), if_neg (by simp [h])]
    exact aNw t _
   ·rw [if_pos h, if_pos h]
    exact ⟨by simp [h], fun e => absurd e h⟩
abbrev aVm : Type := Int × Int × List acS × List (Int × Int) × List azD × List Cmp × List (Int × Int) × Flat
def bk2 (s : aVm) : acw := ((s.1, s.2.1), s.2.2.1, s.2.2.2.1, s.2.2.2.2.1, s.2.2.2.2.2.1, s.2.2.2.2.2.2.1)
theorem aPR {b : acw} (hg : ads b) (hn : ∀ g ∈ b.2.1, I64 g.2.2.2.2.1.1) {ns : List (Int × Int)} (hl : ns.length ≤ 1000) : agM b ns = some (aIL b ns) := by
 unfold agM atr
 refine azq ns (fun (i : Nat) (s : aVm) (t : List (Int × Int)) => some (aIL (bk2 s) t)) (fun i s => ads (bk2 s) ∧ ∀ g ∈ (bk2 s).2.1, I64 g.2.2.2.2.1.1) (fun s hs kn => ?_) (fun i n t s hd hi ha hs kn hk => ?_) (s := (b.1.1, b.1.2, b.2.1, b.2.2.1, b.2.2.2.1, b.2.2.2.2.1, b.2.2.2.2.2, 0, 0, [], [], [], [], [])) ⟨hg, hn⟩
 ·dsimp only
  unfold aiJ
  rw [acL]
  rfl
 ·dsimp only
  unfold aiJ
  obtain ⟨hs1, hs2⟩ := hs
  have hin : In (bk2 s) := hs1.inn hs2
  rw [acp hi, aci ha, aci ha]
  rw [show adr ((s.1, s.2.1), s.2.2.1, s.2.2.2.1, s.2.2.2.2.1, s.2.2.2.2.2.1, s.2.2.2.2.2.2.1) n = adr (bk2 s) n from rfl, amJ hin, ab3]
  rw [show aeK ((s.1, s.2.1), s.2.2.1, s.2.2.2.1, s.2.2.2.2.1, s.2.2.2.2.2.1, s.2.2.2.2.2.2.1) n = aeK (bk2 s) n from rfl, aM8 hin, ab3, akz hs1]
  have hu : aIL (bk2 s) (n :: t) = if (agp (bk2 s) n).2 ≠ 0 then (bk2 s, false) else aIL (agp (bk2 s) n).1 t := rfl
  rw [hu]
  by_cases h0 : agl (bk2 s) n.1 n.2 = 0
  ·rw [if_pos h0, acm (by rfl)]
   by_cases h2 : acz (ahq (bk2 s) n) = 0
   ·have e : agp (bk2 s) n = (ahq (bk2 s) n, 0) := by unfold agp; rw [if_neg (by simp [h0]), if_neg (by simp [h2])]
    have e2 : ay6 (bk2 s) n = (ahq (bk2 s) n, 0) := by unfold ay6; rw [if_neg (by simp [(acv (bk2 s)).2 hs1]), if_neg (by simp [h2])]
    rw [e2, e, acm (by rfl), acj hi (by omega), if_neg (show ¬ ((0 : Int) ≠ 0) by simp)]
    exact hk (s.1, s.2.1, s.2.2.1, s.2.2.2.1, s.2.2.2.2.1, s.2.2.2.2.2.1, s.2.2.2.2.2.2.1 ++ [n], s.2.2.2.2.2.2.2) ⟨(acv _).1 h2, hs2⟩
   ·have e : agp (bk2 s) n = (ajF, acz (ahq (bk2 s) n)) := by unfold agp; rw [if_neg (by simp [h0]), if_pos h2]
    have e2 : ay6 (bk2 s) n = (ajF, acz (ahq (bk2 s) n)) := by unfold ay6; rw [if_neg (by simp [(acv (bk2 s)).2 hs1]), if_pos h2]
    rw [e2, e, aco (bne_iff_ne.2 h2), if_pos h2]
    rfl
  ·have e : agp (bk2 s) n = (bk2 s, 0) := by unfold agp; rw [if_pos h0]
   rw [if_neg h0, aco (by rfl), acj hi (by omega), e, if_neg (show ¬ ((0 : Int) ≠ 0) by simp)]
   exact hk s ⟨hs1, hs2⟩
theorem aSr {b : acw} (hI : In b) (hc : acz b ≠ 0) (n : Int × Int) (t : List (Int × Int)) (hl : (n :: t).length ≤ 1000) : agM b (n :: t) = some (b, false) := by
 unfold agM atr
 refine afs (fun (v : Int × aVm) => v = (0, b.1.1, b.1.2, b.2.1, b.2.2.1, b.2.2.2.1, b.2.2.2.2.1, b.2.2.2.2.2, 0, 0, [], [], [], [], [])) (fun _ => 0) (fun v hv => .inl fun kn => ?_) rfl
 subst hv
 dsimp only
 unfold aiJ
 have e1 : aoq b n = (0, acz b) := by unfold aoq; rw [if_pos hc]
 have e2 : ay6 b n = (ajF, acz b) := by unfold ay6; rw [if_pos hc]
 rw [acA, aco (decide_eq_true (by rw [List.length_cons]; omega)), aBX, aBX, show adr ((b.1.1, b.1.2), b.2.1, b.2.2.1, b.2.2.2.1, b.2.2.2.2.1, b.2.2.2.2.2) n = adr b n from rfl, amJ hI, ab3,
  show aeK ((b.1.1, b.1.2), b.2.1, b.2.2.1, b.2.2.2.1, b.2.2.2.2.1, b.2.2.2.2.2) n = aeK b n from rfl, aM8 hI, ab3, e1, e2, acm (beq_eq_false_iff_ne.2 hc), aco (bne_iff_ne.2 hc)]
theorem aSq {b : acw} (hI : In b) {ns : List (Int × Int)} (hl : ns.length ≤ 1000) (h0 : ns ≠ []) : ∃ y : acw × Bool, agM b ns = some y ∧ (y.2 = true ↔ ads b ∧ (aeR b ns).2 = 0) ∧ (y.2 = true → y = ((aeR b ns).1, true)) := by
 by_cases hc : acz b = 0
 ·have hg := (acv b).1 hc
  have hr := aNw ns b
  refine ⟨_, aPR hg hI.num hl, ⟨fun h => ⟨hg, by rw [hr.1] at h; exact of_decide_eq_true h⟩, fun h => by rw [hr.1]; exact decide_eq_true h.2⟩, fun h => hr.2 (by rw [hr.1] at h; exact of_decide_eq_true h)⟩
 ·cases ns with
  | nil => exact absurd rfl h0
  | cons n t => exact ⟨_, aSr hI hc n t hl, ⟨fun h => (Bool.noConfusion h), fun h => absurd ((acv b).2 h.1) hc⟩, fun h => Bool.noConfusion h⟩
end Go.Proofs.ZzM
end
noncomputable section
namespace Go.Proofs.ZzM
open Go Go.Am
theorem aTc {x : List Int} {k : Int} (h1 : 1 ≤ k) : gv (0 :: x) k = gv x (k - 1) := by
 rw [aUP _ _ (by omega), if_neg (by omega)]
theorem aNX {ρ : Type} {x : List Int} {k : Int} (h1 : 1 ≤ k) (h2 : k ≤ x.length) (f : Int → Option ρ) : adv x (k - 1) f = f (gv (0 :: x) k) := by
 rw [ajg (by omega) (by omega), aTc h1]
end Go.Proofs.ZzM
end
noncomputable section
namespace Go.Proofs.ZzM
open Go Go.Am
def afK (k : Int) (l : Lk) : Bool := (l.1 == 0 && l.2.1 == k) || (l.1 == k && l.2.1 == 0)
theorem aOF {ρ : Type} {L : List Lk} (hl : L.length ≤ 1000) (k : Int) {i0 : Nat} (hi0 : i0 < L.length) (h0 : ∀ j l, j < i0 → L[j]? = some l → afK k l = false) (h1 : ∀ l, L[i0]? = some l → afK k l = true) (K : Int × List Lk → Option ρ) {r : Option ρ}
 (hK : ∀ W : List Lk, W.length = L.length → W.take (L.filter fun l => !afK k l).length = L.filter (fun l => !afK k l) → K (((L.filter fun l => !afK k l).length : Int), W) = r) :
 acl (fun (v25 : Int × Int × List Lk) kk29 => aen k v25.1 v25.2.1 v25.2.2 (fun u26 u27 u28 => kk29 (u26, u27, u28)) K) ((i0 : Int), (i0 : Int) + 1, L) = r := by
 have hstart : (L.take (i0 + 1)).filter (fun l => !afK k l) = L.take i0 := by
  have hg : L[i0]? = some L[i0] := List.getElem?_eq_getElem hi0
  rw [take_succ hg, List.filter_append]
  have e1 : (L.take i0).filter (fun l => !afK k l) = L.take i0 := by
   refine List.filter_eq_self.2 fun l hm => ?_
   obtain ⟨j, hj, rfl⟩ := List.mem_iff_getElem.1 hm
   rw [List.length_take] at hj
   rw [List.getElem_take, h0 j _ (by omega) (List.getElem?_eq_getElem (by omega))]
   rfl
  rw [e1]
  simp [h1 _ hg]
 refine afs (fun v => ∃ (j : Nat) (W : List Lk), i0 < j ∧ j ≤ L.length ∧ W.length = L.length ∧ ((L.take j).filter fun l => !afK k l).length < j ∧ W.take ((L.take j).filter fun l => !afK k l).length = (L.take j).filter (fun l => !afK k l) ∧ (∀ t, j ≤ t → W[t]? = L[t]?) ∧ v = ((((L.take j).filter fun l => !afK k l).length : Int), (j : Int), W)) (fun v => L.length - v.2.1.toNat) ?_ ?_
 ·rintro v ⟨j, W, hij, hj, hWl, hlt, hW, hsame, rfl⟩
  rcases Nat.lt_or_ge j L.length with h2 | h2
  ·have hg : L[j]? = some L[j] := List.getElem?_eq_getElem h2
   have hWg := hsame j (Nat.le_refl _)
   rw [hg] at hWg
   generalize L[j] = l at hg hWg
   have hts := take_succ hg
   generalize hfl : ((L.take j).filter fun l => !afK k l).length = c at hlt hW ⊢
   have hwc : c ≤ W.length := by omega
   by_cases hp : afK k l = true
   ·have hf : (L.take (j + 1)).filter (fun l => !afK k l) = (L.take j).filter (fun l => !afK k l) := by rw [hts, List.filter_append]; simp [hp]
    refine .inr ⟨(c, ((j + 1 : Nat) : Int), W), ⟨j + 1, W, by omega, h2, hWl, by rw [hf, hfl]; omega, by rw [hf, hfl]; exact hW, fun t ht => hsame t (by omega), by rw [hf, hfl]⟩, by dsimp only; omega, fun kn => ?_⟩
    dsimp only
    unfold aen
    rw [acA, hWl, aco (decide_eq_true (by omega)), show adj W = (L.length : Int) by unfold adj; rw [hWl], ae9 (by omega) (by omega), Int.toNat_natCast, ahw hWg]
    have e1 : ((j : Int) + 1) = ((j + 1 : Nat) : Int) := by push_cast; rfl
    unfold afK at hp
    simp only [Bool.or_eq_true, Bool.and_eq_true, beq_iff_eq] at hp
    by_cases a1 : l.1 = 0
    ·rw [aco (beq_iff_eq.2 a1)]
     by_cases a2 : l.2.1 = k
     ·rw [aco (beq_iff_eq.2 a2), acr (by omega) (by omega), e1]
     ·obtain ⟨a3, a4⟩ : l.1 = k ∧ l.2.1 = 0 := by rcases hp with h | h; exact absurd h.2 a2; exact h
      rw [acm (beq_eq_false_iff_ne.2 a2), aco (beq_iff_eq.2 a3), acm (by simp [ieq, a4]), acr (by omega) (by omega), e1]
    ·obtain ⟨a3, a4⟩ : l.1 = k ∧ l.2.1 = 0 := by rcases hp with h | h; exact absurd h.1 a1; exact h
     rw [acm (beq_eq_false_iff_ne.2 a1), aco (beq_iff_eq.2 a3), acm (by simp [ieq, a4]), acr (by omega) (by omega), e1]
   ·have hp' : afK k l = false := Bool.eq_false_iff.2 hp
    have hf : (L.take (j + 1)).filter (fun l => !afK k l) = (L.take j).filter (fun l => !afK k l) ++ [l] := by rw [hts, List.filter_append]; simp [hp']
    have hfl' : ((L.take (j + 1)).filter fun l => !afK k l).length = c + 1 := by rw [hf, List.length_append, hfl]; rfl
    refine .inr ⟨(((c + 1 : Nat) : Int), ((j + 1 : Nat) : Int), W.set c l), ⟨j + 1, W.set c l, by omega, h2, by rw [List.length_set]; exact hWl, by rw [hfl']; omega, by
     rw [hfl', hf, ← hW, List.take_set, take_succ (l := W) (i := c) (a := W[c]) (List.getElem?_eq_getElem (by omega)), List.set_append_right _ _ (by rw [List.length_take]; omega), List.length_take, Nat.min_eq_left hwc, Nat.sub_self]
     rfl, fun t ht => by rw [List.getElem?_set_ne (by omega)]; exact hsame t (by omega), by rw [hfl']⟩, by dsimp only; omega, fun kn => ?_⟩
    dsimp only
    unfold aen
    have hWc : W[c]? = some W[c] := List.getElem?_eq_getElem (by omega)
    have e0 : ((c : Int) + 1) = ((c + 1 : Nat) : Int) := by push_cast; rfl
    have e1 : ((j : Int) + 1) = ((j + 1 : Nat) : Int) := by push_cast; rfl
    have st : (acH ((ile (0 : Int) (c : Int)) && (ilt (c : Int) (adj W))) (ae6 W (Int.toNat (c : Int)) fun _ => ck ((c : Int) + (1 : Int)) fun n11 => ck ((j : Int) + (1 : Int)) fun n12 => kn (n11, n12, (List.set W (Int.toNat (c : Int)) l)))) = kn (((c + 1 : Nat) : Int), ((j + 1 : Nat) : Int), W.set c l) := by
     rw [show adj W = (L.length : Int) by unfold adj; rw [hWl], ae9 (by omega) (by omega), Int.toNat_natCast, ahw hWc, acr (by omega) (by omega), acr (by omega) (by omega), e0, e1]
    rw [acA, hWl, aco (decide_eq_true (by omega)), show acH ((ile (0 : Int) (j : Int)) && (ilt (j : Int) (adj W))) = acH ((ile (0 : Int) (j : Int)) && (ilt (j : Int) (L.length : Int))) by unfold adj; rw [hWl], ae9 (by omega) (by omega), Int.toNat_natCast, ahw hWg]
    unfold afK at hp'
    dsimp only at st ⊢
    by_cases a1 : l.1 = 0
    ·by_cases a2 : l.2.1 = k
     ·simp [a1, a2] at hp'
     ·rw [aco (beq_iff_eq.2 a1), acm (beq_eq_false_iff_ne.2 a2)]
      by_cases a3 : l.1 = k
      ·have a4 : ¬ l.2.1 = 0 := fun e => by rw [a3, e] at hp'; simp at hp'
       rw [aco (beq_iff_eq.2 a3), aco (by simp [ieq, a4])]
       exact st
      ·rw [acm (beq_eq_false_iff_ne.2 a3)]
       exact st
    ·rw [acm (beq_eq_false_iff_ne.2 a1)]
     by_cases a3 : l.1 = k
     ·have a4 : ¬ l.2.1 = 0 := fun e => by rw [a3, e] at hp'; simp at hp'
      rw [aco (beq_iff_eq.2 a3), aco (by simp [ieq, a4])]
      exact st
     ·rw [acm (beq_eq_false_iff_ne.2 a3)]
      exact st
  ·refine .inl fun kn => ?_
   obtain rfl : j = L.length := by omega
   dsimp only
   unfold aen
   rw [acA, hWl, acm (decide_eq_false (by omega))]
   rw [List.take_length] at hW ⊢
   exact hK W hWl hW
 ·exact ⟨i0 + 1, L, by omega, hi0, rfl, by rw [hstart, List.length_take]; omega, by rw [hstart, List.length_take, Nat.min_eq_left (by omega)], fun t _ => rfl, by rw [hstart, List.length_take, Nat.min_eq_left (by omega)]; push_cast; rfl⟩
theorem aSy {L : List Lk} (hl : L.length ≤ 1000) (N k : Int) : aes (N, L) k = some (L.filter fun l => !afK k l) := by
 unfold aes amW
 dsimp only
 rw [adx (acq (by omega))]
 let K0 : Int → Option (List Lk) := fun z6 => ifb (ieq z6 (-1 : Int)) (some L) (ck (z6 + (1 : Int)) fun n7 => acl (fun (v25 : (Val (.pair tI acf))) kk29 => aen k v25.1 v25.2.1 v25.2.2 (fun u26 u27 u28 => kk29 (u26, u27, u28)) (fun z24 => acH ((ile (0 : Int) z24.1) && (ile z24.1 (adj z24.2))) (acH ((ile (0 : Int) z24.1) && (ile z24.1 (adj (List.take (Int.toNat z24.1) z24.2 ++ List.replicate (List.length z24.2 - (Int.toNat z24.1)) ((0 : Int), (0 : Int), (0 : Int)) ++ List.drop ((Int.toNat z24.1) + (List.length z24.2 - (Int.toNat z24.1))) z24.2)))) (some (List.take (Int.toNat z24.1) (List.drop 0 (List.take (Int.toNat z24.1) z24.2 ++ List.replicate (List.length z24.2 - (Int.toNat z24.1)) ((0 : Int), (0 : Int), (0 : Int)) ++ List.drop ((Int.toNat z24.1) + (List.length z24.2 - (Int.toNat z24.1))) z24.2))))))) (z6, n7, L))
 refine (af1 L (afK k) K0 (some L) (fun i l hi hg kn => ?_) (fun kn => ?_)).trans ?_
 ·try dsimp only
  unfold agS
  rw [acA, aco (decide_eq_true (by omega)), show acH ((ile (0 : Int) (i : Int)) && (ilt (i : Int) (adj L))) = acH ((ile (0 : Int) (i : Int)) && (ilt (i : Int) (L.length : Int))) from rfl, ae9 (by omega) (by omega), Int.toNat_natCast, ahw hg]
  by_cases a1 : l.1 = 0
  ·rw [aco (beq_iff_eq.2 a1)]
   by_cases a2 : l.2.1 = k
   ·rw [aco (beq_iff_eq.2 a2), if_pos (by simp [afK, a1, a2])]
   ·rw [acm (beq_eq_false_iff_ne.2 a2)]
    by_cases a3 : l.1 = k
    ·rw [aco (beq_iff_eq.2 a3)]
     by_cases a4 : l.2.1 = 0
     ·rw [aco (beq_iff_eq.2 a4), if_pos (by simp [afK, a3, a4])]
     ·rw [acm (beq_eq_false_iff_ne.2 a4), acj hi (by omega), if_neg (by simp [afK, a2, a4])]
    ·rw [acm (beq_eq_false_iff_ne.2 a3), acj hi (by omega), if_neg (by simp [afK, a2, a3])]
  ·rw [acm (beq_eq_false_iff_ne.2 a1)]
   by_cases a3 : l.1 = k
   ·rw [aco (beq_iff_eq.2 a3)]
    by_cases a4 : l.2.1 = 0
    ·rw [aco (beq_iff_eq.2 a4), if_pos (by simp [afK, a3, a4])]
    ·rw [acm (beq_eq_false_iff_ne.2 a4), acj hi (by omega), if_neg (by simp [afK, a1, a4])]
   ·rw [acm (beq_eq_false_iff_ne.2 a3), acj hi (by omega), if_neg (by simp [afK, a1, a3])]
 ·try dsimp only
  unfold agS
  rw [acA, acm (decide_eq_false (by omega))]
 ·cases hf : L.findIdx? (afK k) with
  | none =>
    have := List.findIdx?_eq_none_iff.1 hf
    dsimp only
    rw [List.filter_eq_self.2 fun l hm => by rw [this l hm]; rfl]
  | some i =>
    obtain ⟨h1, h2, h3⟩ := List.findIdx?_eq_some_iff_getElem.1 hf
    dsimp only
    show K0 (i : Int) = _
    simp only [K0]
    rw [acm (beq_eq_false_iff_ne.2 (by omega)), acr (by omega) (by omega)]
    refine aOF hl k h1 (fun j l hj hg => ?_) (fun l hg => ?_) _ (fun W hWl hW => ?_)
    ·have hj' : j < L.length := by omega
     rw [List.getElem?_eq_getElem hj'] at hg
     cases hg
     simpa using h3 j hj
    ·rw [List.getElem?_eq_getElem h1] at hg
     cases hg
     exact h2
    ·have hfl := List.length_filter_le (fun l => !afK k l) L
     generalize (L.filter fun l => !afK k l).length = c at hW hfl ⊢
     dsimp only
     rw [Int.toNat_natCast]
     have e1 : ((ile (0 : Int) (c : Int)) && (ile (c : Int) (adj W))) = true := by
      have : (c : Int) ≤ (W.length : Int) := by omega
      simp [ile, adj, this]
     have hlen : (List.take c W ++ List.replicate (List.length W - c) ((0 : Int), (0 : Int), (0 : Int)) ++ List.drop (c + (List.length W - c)) W).length = W.length := by
      simp; omega
     have e2 : ((ile (0 : Int) (c : Int)) && (ile (c : Int) (adj (List.take c W ++ List.replicate (List.length W - c) ((0 : Int), (0 : Int), (0 : Int)) ++ List.drop (c + (List.length W - c)) W)))) = true := by
      have : (c : Int) ≤ (W.length : Int) := by omega
      unfold adj
      rw [hlen]
      simp [ile, this]
     rw [adx e1, adx e2, List.drop_zero, List.append_assoc, List.take_append_of_le_length (by rw [List.length_take]; omega), List.take_take, Nat.min_self, hW]
theorem Wl.tighter {L L' : List Lk} {S : Int → Prop} (h : ∀ u v m, (u, v, m) ∈ L → ∃ m', m' ≤ m ∧ (u, v, m') ∈ L') {vs : List Int} {v d : Int} (w : Wl L S vs v d) : ∃ d', d' ≤ d ∧ Wl L' S vs v d' := by
 induction w with
 | nil hs => exact ⟨0, Int.le_refl _, .nil hs⟩
 | @step vs u v m d hw hl ih =>
   obtain ⟨d', h1, h2⟩ := ih
   obtain ⟨m', h3, h4⟩ := h u v m hl
   exact ⟨d' + m', by omega, .step h2 h4⟩
section
variable {B : acw} (h : aTT B)
include h
def aFl (B : acw) (k t : Int) : List Lk := [(0, k, t), (k, 0, -t)] ++ (acn B).filter fun l => !afK k l
theorem aUW {k t : Int} (hk : 0 ≤ k ∧ k < ((acd B).length + 1 : Nat)) (h1 : -(aEc B k 0) ≤ t) (h2 : t ≤ aEc B 0 k) : ∀ u v m, (u, v, m) ∈ acn B → ∃ m', m' ≤ m ∧ (u, v, m') ∈ aFl B k t := by
 intro u v m hl
 cases ht : afK k (u, v, m) with
 | false => exact ⟨m, Int.le_refl _, List.mem_append.2 (.inr (List.mem_filter.2 ⟨hl, by rw [ht]; rfl⟩))⟩
 | true =>
   unfold afK at ht
   simp only [Bool.or_eq_true, Bool.and_eq_true, beq_iff_eq] at ht
   rcases ht with ⟨rfl, rfl⟩ | ⟨rfl, rfl⟩
   ·have := aHS h.good.sys h.good.tied h.op (adK B) 0 v m hl
    have e : dst (acn B) ((acd B).length + 1) 0 0 = 0 := azB h.good.sys h.op (adK B)
    exact ⟨t, by unfold aEc at h2; omega, List.mem_append.2 (.inl (by simp))⟩
   ·have := aHS h.good.sys h.good.tied h.op hk u 0 m hl
    have e : dst (acn B) ((acd B).length + 1) u u = 0 := azB h.good.sys h.op hk
    exact ⟨-t, by unfold aEc at h1; omega, List.mem_append.2 (.inl (by simp))⟩
theorem aUV {k t : Int} (hk : 0 ≤ k ∧ k < ((acd B).length + 1 : Nat)) (hk0 : k ≠ 0) (hb : -4503599627370496 ≤ t ∧ t ≤ 4503599627370496) : afe (aFl B k t) ((acd B).length + 1) := by
 have hs := h.good.sys
 have hl := aBO h.good
 have hn := h.good.nodes
 have hc := h.good.nC
 have hf := List.length_filter_le (fun l => !afK k l) (acn B)
 have q : ∀ l ∈ aFl B k t, l ∈ acn B ∨ l = (0, k, t) ∨ l = (k, 0, -t) := by
  intro l hl
  rcases List.mem_append.1 hl with h | h
  ·simp at h; exact .inr h
  ·exact .inl (List.mem_filter.1 h).1
 refine ⟨hs.n1, hs.n60, by unfold aFl; rw [List.length_append]; simp only [List.length_cons, List.length_nil]; omega, fun l hl => ?_, fun l hl => ?_, fun l hl => ?_⟩
 ·rcases q l hl with h | rfl | rfl
  ·exact hs.inr l h
  ·exact ⟨adK B, hk⟩
  ·exact ⟨hk, adK B⟩
 ·rcases q l hl with h | rfl | rfl
  ·exact hs.noloop l h
  ·exact fun e => hk0 e.symm
  ·exact hk0
 ·rcases q l hl with h | rfl | rfl
  ·exact hs.most l h
  ·exact hb
  ·dsimp only; omega
theorem aNg {n : Int × Int} (hn : ayn B n) {t : Int} (h1 : (ivR B n).1 ≤ t) (h2 : t ≤ (ivR B n).2) :
 aew (((((acd B).length + 1 : Nat) : Int)), aFl B (agl B n.1 n.2) t) = some (ad2 (aFl B (agl B n.1 n.2) t) ((acd B).length + 1) 0, 0) ∧ aIh B ((ad2 (aFl B (agl B n.1 n.2) t) ((acd B).length + 1) 0).drop 1) = (true, 0) ∧
 gv (0 :: (ad2 (aFl B (agl B n.1 n.2) t) ((acd B).length + 1) 0).drop 1) (agl B n.1 n.2) = t ∧ ((ad2 (aFl B (agl B n.1 n.2) t) ((acd B).length + 1) 0).drop 1).length = (acd B).length := by
 have hk := aec B n
 have hk0 := (aHL h.good).2 hn
 have hz := aTn h hk
 unfold ivR at h1 h2
 dsimp only at h1 h2
 generalize agl B n.1 n.2 = k at hk hk0 hz h1 h2 ⊢
 have hs := aUV h (t := t) hk hk0 (by omega)
 have hsub := aUW h hk h1 h2
 have hN := hs.n60
 have ht : aqP (aFl B k t) ((acd B).length + 1) := ⟨fun v h0 h1 => by
  obtain ⟨vs, d, hw, hd⟩ := h.good.tied.to v h0 h1
  obtain ⟨d', q1, q2⟩ := hw.tighter hsub
  exact ⟨vs, d', q2, by omega⟩, fun v h0 h1 => by
  obtain ⟨vs, d, hw, hd⟩ := h.good.tied.from' v h0 h1
  obtain ⟨d', q1, q2⟩ := hw.tighter hsub
  exact ⟨vs, d', q2, by omega⟩⟩
 have ho : adR (aFl B k t) ((acd B).length + 1) = true := by
  obtain ⟨p, hp, e⟩ := aRs h.good.sys h.good.tied h.op hk (adK B) (t := t) h1 h2
  refine (aep hs.links (by omega)).2 ⟨p, fun a b m hl => ?_⟩
  rcases List.mem_append.1 hl with h1 | h1
  ·simp only [List.mem_cons, List.not_mem_nil, or_false, Prod.mk.injEq] at h1
   rcases h1 with ⟨rfl, rfl, rfl⟩ | ⟨rfl, rfl, rfl⟩ <;> omega
  ·exact hp a b m (List.mem_filter.1 h1).1
 have hp := aM3 hs ht ho
 have hz0 := aCE hs ho (v := 0) (by omega) (by omega)
 have hpl : Pot (acn B) (gv (ad2 (aFl B k t) ((acd B).length + 1) 0)) := fun a b m hl => by
  obtain ⟨m', q1, q2⟩ := hsub a b m hl
  have := hp a b m' q2
  omega
 have hl := akx (L := aFl B k t) (N := (acd B).length + 1) 0
 have a1 := hp 0 k t (List.mem_append.2 (.inl (by simp)))
 have a2 := hp k 0 (-t) (List.mem_append.2 (.inl (by simp)))
 have key : 0 :: (ad2 (aFl B k t) ((acd B).length + 1) 0).drop 1 = ad2 (aFl B k t) ((acd B).length + 1) 0 := by
  generalize ad2 (aFl B k t) ((acd B).length + 1) 0 = y at hl hz0
  cases y with
  | nil => simp at hl
  | cons a t =>
    have : a = 0 := hz0
    rw [this]; rfl
 refine ⟨by rw [aNa hs ht, if_pos ho], aRt h.good hl hz0 hpl, ?_, by rw [List.length_drop, hl]; omega⟩
 rw [key]
 omega
end
theorem aOA {ρ : Type} : @alt ρ = @acY ρ := rfl
def aR7 (B : acw) (n l : Int × Int) (inn : Bool) (r : List Int × Int) : Prop :=
 (aeJ (ivR B n) l = (if inn then 2 else 1) ∧ r.2 = 5) ∨ (aeJ (ivR B n) l ≠ (if inn then 2 else 1) ∧ r.2 = 0 ∧ aIh B r.1 = (true, 0) ∧ ((l.1 ≤ gv (0 :: r.1) (agl B n.1 n.2) ∧ gv (0 :: r.1) (agl B n.1 n.2) ≤ l.2) ↔ inn = true) ∧ r.1.length = (acd B).length)
theorem aSs {B : acw} (h : aTT B) {n : Int × Int} (hn : ayn B n) {t : Int} (h1 : (ivR B n).1 ≤ t) (h2 : t ≤ (ivR B n).2) :
 (ck (0 - t) fun n13 => ab6 (aes (azc B) (agl B n.1 n.2)) fun r14 => acH (acJ ((List.length ([((0 : Int), agl B n.1 n.2, t), (agl B n.1 n.2, (0 : Int), n13)])) + (List.length r14))) (ab6 (aew ((((acd B).length : Int) + 1), (([((0 : Int), agl B n.1 n.2, t), (agl B n.1 n.2, (0 : Int), n13)]) ++ r14))) fun r15 => ifb (ine r15.2 (0 : Int)) (some (([] : List Int), r15.2)) (acH (ile (1 : Int) (adj r15.1)) (some ((List.drop 1 r15.1), (0 : Int)))))) =
  some ((ad2 (aFl B (agl B n.1 n.2) t) ((acd B).length + 1) 0).drop 1, 0) := by
 have hb := iv_bd h n
 have hl := h.good.sys.len
 have hf := List.length_filter_le (fun l => !afK (agl B n.1 n.2) l) (acn B)
 obtain ⟨w1, _, _, w4⟩ := aNg h hn h1 h2
 rw [acr (by omega) (by omega), Int.zero_sub, show azc B = (((acd B).length : Int) + 1, acn B) from rfl, aSy (by omega), ab3, adx (acq (by simp only [List.length_cons, List.length_nil]; omega)), show (((acd B).length : Int) + 1) = (((acd B).length + 1 : Nat) : Int) by push_cast; rfl,
  show [((0 : Int), agl B n.1 n.2, t), (agl B n.1 n.2, 0, -t)] ++ (acn B).filter (fun l => !afK (agl B n.1 n.2) l) = aFl B (agl B n.1 n.2) t from rfl, w1, ab3]
 dsimp only
 rw [acm (by rfl), adx (decide_eq_true (by show (1 : Int) ≤ ((ad2 (aFl B (agl B n.1 n.2) t) ((acd B).length + 1) 0).length : Int); rw [akx]; omega))]
def witT (s l : Int × Int) (inn : Bool) : Option Int :=
 if inn then (if max s.1 l.1 ≤ min s.2 l.2 then some (max s.1 l.1) else none) else if s.1 < l.1 ∨ l.2 < s.1 then some s.1 else if l.2 < s.2 then some s.2 else none
def witR (B : acw) (n l : Int × Int) (inn : Bool) : List Int × Int := match witT (ivR B n) l inn with | some t => ((ad2 (aFl B (agl B n.1 n.2) t) ((acd B).length + 1) 0).drop 1, 0) | none => ([], 5)
theorem aPS {s l : Int × Int} (hs : s.1 ≤ s.2) (hl : ¬ l.2 < l.1) (inn : Bool) : (witT s l inn = none ∧ aeJ s l = (if inn then 2 else 1)) ∨ ∃ t, witT s l inn = some t ∧ s.1 ≤ t ∧ t ≤ s.2 ∧ aeJ s l ≠ (if inn then 2 else 1) ∧ ((l.1 ≤ t ∧ t ≤ l.2) ↔ inn = true) := by
 unfold witT aeJ
 cases inn with
 | true =>
   rw [if_pos rfl, if_pos rfl]
   by_cases h : max s.1 l.1 ≤ min s.2 l.2
   ·rw [if_pos h]
    refine .inr ⟨_, rfl, by omega, by omega, ?_, ?_⟩
    ·split
     ·omega
     ·rw [if_neg (by omega)]; omega
    ·exact ⟨fun _ => rfl, fun _ => ⟨by omega, by omega⟩⟩
   ·rw [if_neg h]
    refine .inl ⟨rfl, ?_⟩
    rw [if_neg (by omega), if_pos (by omega)]
 | false =>
   simp only [Bool.false_eq_true, if_false]
   by_cases h : s.1 < l.1 ∨ l.2 < s.1
   ·rw [if_pos h]
    refine .inr ⟨_, rfl, by omega, by omega, ?_, ?_⟩
    ·rw [if_neg (by omega)]; split <;> omega
    ·exact ⟨fun h' => by omega, fun h' => h'.elim⟩
   ·rw [if_neg h]
    by_cases h2 : l.2 < s.2
    ·rw [if_pos h2]
     refine .inr ⟨_, rfl, by omega, by omega, ?_, ?_⟩
     ·rw [if_neg (by omega)]; split <;> omega
     ·exact ⟨fun h' => by omega, fun h' => h'.elim⟩
    ·rw [if_neg h2]
     refine .inl ⟨rfl, ?_⟩
     rw [if_pos (by omega)]
theorem aCK {b : acw} (hI : In b) (n l : Int × Int) (inn : Bool) : ∃ r : List Int × Int, ako b n l inn = some r ∧ (((adc b [n]).2 ≠ 0 ∧ r.2 = (adc b [n]).2) ∨ ((adc b [n]).2 = 0 ∧ l.2 < l.1 ∧ r.2 = 1) ∨ ((adc b [n]).2 = 0 ∧ ¬ l.2 < l.1 ∧ aR7 (adc b [n]).1 n l inn r)) := by
 unfold ako asj
 rw [aOA]
 have hopen := fun K => akG (ρ := List Int × Int) hI (ns := [n]) (by simp) (E0 := fun r1 => ifb (ine r1 (0 : Int)) (some ([], r1)) (acH (igt l.1 l.2) (some ([], (1 : Int))))) (E1 := fun z7 => ifb (ine z7.1 (0 : Int)) (some ([], z7.1)) (acH (igt l.1 l.2) (some ([], (1 : Int))))) (E2 := fun z8 r9 => ifb (ine r9.2.2 (0 : Int)) (some ([], r9.2.2)) (acH (igt l.1 l.2) (some ([], (1 : Int))))) (E3 := fun _ _ _ => some ([], (9 : Int))) (K := K)
  (fun e => some ([], e)) (fun e he => by rw [aco (by simp [ine, he])]) (fun z he => by rw [aco (by simp [ine, he])]) (fun _ _ _ => rfl)
 by_cases ho : (adc b [n]).2 = 0
 case neg =>
  refine ⟨([], (adc b [n]).2), (hopen _).trans (by rw [if_pos ho]), .inl ⟨ho, rfl⟩⟩
 have hA := aEF hI ho
 have hr := hA.room
 have hn := hA.nodes n (by simp)
 by_cases hl : l.2 < l.1
 ·refine ⟨([], 1), (hopen _).trans ?_, .inr (.inl ⟨ho, hl, rfl⟩)⟩
  rw [if_neg (by simp [ho])]
  dsimp only
  rw [aco (decide_eq_true hl)]
 generalize hB : (adc b [n]).1 = B at hr hn hA
 refine ⟨witR B n l inn, (hopen _).trans ?_, .inr (.inr ⟨ho, hl, ?_⟩)⟩
 ·rw [if_neg (by simp [ho])]
  dsimp only
  have ea := aym hr.good hr.num (azc B) n
  rw [hB, acm (decide_eq_false (by omega)), anH, show ((((acd B).length : Int) + 1, acn B) : Sys) = azc B from rfl, ajx hr, ab3, ea]
  simp only [ab3]
  have ho1 := aNV hr n
  unfold witR witT
  generalize hs : ivR B n = s at ho1
  have wt : ∀ t : Int, s.1 ≤ t → t ≤ s.2 → _ := fun t h1 h2 => aSs hr hn (t := t) (by rw [hs]; exact h1) (by rw [hs]; exact h2)
  cases inn with
  | true =>
    simp only [Bool.not_true, acM, aHK, awR, if_true]
    by_cases h : max s.1 l.1 ≤ min s.2 l.2
    ·rw [acm (by simp only [ile, decide_eq_true h]; rfl), if_pos h]
     exact wt _ (by omega) (by omega)
    ·rw [aco (by simp only [ile, decide_eq_false h]; rfl), if_neg h]
  | false =>
    simp only [Bool.not_false, ad6, Bool.false_eq_true, if_false]
    by_cases h1 : s.1 < l.1
    ·rw [aco (decide_eq_true h1), if_pos (.inl h1)]
     exact wt _ (by omega) (by omega)
    ·rw [acm (decide_eq_false h1)]
     by_cases h2 : l.2 < s.1
     ·rw [acm (by simp only [igt, decide_eq_true (show s.1 > l.2 from h2)]; rfl), if_pos (.inr h2)]
      rw [acm (by simp only [igt, decide_eq_true (show s.1 > l.2 from h2)]; rfl)]
      exact wt _ (by omega) (by omega)
     ·rw [aco (by simp only [igt, decide_eq_false (show ¬ s.1 > l.2 from h2)]; rfl), if_neg (by omega)]
      by_cases h3 : l.2 < s.2
      ·rw [aco (decide_eq_true h3), if_pos h3]
       exact wt _ (by omega) (by omega)
      ·rw [acm (decide_eq_false h3), if_neg h3, aco (by simp only [igt, decide_eq_false (show ¬ s.1 > l.2 from h2)]; rfl)]
 ·unfold aR7 witR
  rcases aPS (aNV hr n) hl inn with ⟨h1, h2⟩ | ⟨t, h1, h2, h3, h4, h5⟩
  ·rw [h1]; exact .inl ⟨h2, rfl⟩
  ·rw [h1]
   obtain ⟨_, w2, w3, w4⟩ := aNg hr hn h2 h3
   refine .inr ⟨h4, rfl, w2, ?_, w4⟩
   dsimp only
   rw [w3]
   exact h5
end Go.Proofs.ZzM
end
noncomputable section
namespace Go.Proofs.ZzM
open Go Go.Am
theorem aFF {b : acw} (hn : ∀ g ∈ b.2.1, I64 g.2.2.2.2.1.1) (n l : Int × Int) : ag8 b n l = some true := by
 unfold ag8 agX
 rw [few_ok, ab3, aOI]
 by_cases hf : fewP b = true
 case neg => rw [Bool.eq_false_iff.2 hf]; rfl
 have hI : In b := ⟨aTj hf, hn⟩
 rw [hf, acm (by rfl), aOt hI, ab3]
 obtain ⟨r, hr, hr1⟩ := aCK hI n l true
 obtain ⟨q, hq, hq1⟩ := aCK hI n l false
 rw [hr, ab3, hq, ab3]
 unfold aOu
 by_cases ho : (adc b [n]).2 = 0
 case neg =>
  rw [if_pos ho, aco (bne_iff_ne.2 ho), ab3, ad6]
  have e1 : r.2 = (adc b [n]).2 := by rcases hr1 with h | h | h; exact h.2; exact absurd h.1 ho; exact absurd h.1 ho
  have e2 : q.2 = (adc b [n]).2 := by rcases hq1 with h | h | h; exact h.2; exact absurd h.1 ho; exact absurd h.1 ho
  rw [e1, e2]
  simp [ieq]
 rw [if_neg (by simp [ho])]
 by_cases hl : l.2 < l.1
 ·have e1 : r.2 = 1 := by rcases hr1 with h | h | h; exact absurd ho h.1; exact h.2.2; exact absurd hl h.2.1
  have e2 : q.2 = 1 := by rcases hq1 with h | h | h; exact absurd ho h.1; exact h.2.2; exact absurd hl h.2.1
  rw [if_pos hl, aco (by rfl), ab3, ad6, e1, e2]
  rfl
 have w1 : aR7 (adc b [n]).1 n l true r := by rcases hr1 with h | h | h; exact absurd ho h.1; exact absurd h.2.1 hl; exact h.2.2
 have w2 : aR7 (adc b [n]).1 n l false q := by rcases hq1 with h | h | h; exact absurd ho h.1; exact absurd h.2.1 hl; exact h.2.2
 obtain ⟨hR, hB, hr0, hg0⟩ := agI hI ho
 have hA := aEF hI ho
 obtain ⟨y, hy, hy1, hy2⟩ := aSq hI (ns := [n]) (by simp) (by simp)
 have hw := hy2 (hy1.2 ⟨hg0, hr0⟩)
 rw [if_neg hl, acm (by rfl), hy, hw, ← hB]
 simp only [ab3]
 have hnd := hA.nodes n (by simp)
 generalize (adc b [n]).1 = B at hR hnd w1 w2 ⊢
 have hIB := hR.good.inn hR.num
 have hir := aec B n
 have hi0 := (aHL hR.good).2 hnd
 have hp : ahh B n = some (agl B n.1 n.2 - 1) := by rw [aSM hIB, aLN hR.good]
 have hv : aeJ (ivR B n) l = 1 ∨ aeJ (ivR B n) l = 2 ∨ aeJ (ivR B n) l = 3 := by
  unfold aeJ
  split
  ·exact .inl rfl
  ·split
   ·exact .inr (.inl rfl)
   ·exact .inr (.inr rfl)
 unfold aR7 at w1 w2
 generalize aeJ (ivR B n) l = v at hv w1 w2 ⊢
 obtain ⟨ra, re⟩ := r
 obtain ⟨qa, qe⟩ := q
 simp only [if_true, Bool.false_eq_true, if_false, iff_false] at w1 w2
 have fitsIn : aIh B ra = (true, 0) → ra.length = (acd B).length → (l.1 ≤ gv (0 :: ra) (agl B n.1 n.2) ∧ gv (0 :: ra) (agl B n.1 n.2) ≤ l.2) → ∀ K : Option Bool, (ab6 (ae3 B ra) fun r9 => ifb (ine r9.2 (0 : Int)) (some false) (ifb (!r9.1) (some false) (ifb (ige (agl B n.1 n.2 - 1) (acs ra)) (some false) (adv ra (agl B n.1 n.2 - 1) fun e10 => ab6 (adq e10 l) fun r11 => ifb (!r11) (some false) K)))) = K := by
  intro f1 f2 f3 K
  rw [aSf hIB.size hIB.num, ab3, f1, acm (by rfl), acm (by rfl), acA, f2, acm (decide_eq_false (by omega)), aNX (by omega) (by omega), aFc, ab3, decide_eq_true f3.1, decide_eq_true f3.2]
  rfl
 have fitsOut : aIh B qa = (true, 0) → qa.length = (acd B).length → ¬ (l.1 ≤ gv (0 :: qa) (agl B n.1 n.2) ∧ gv (0 :: qa) (agl B n.1 n.2) ≤ l.2) → (ab6 (ae3 B qa) fun r12 => ifb (ine r12.2 (0 : Int)) (some false) (ifb (!r12.1) (some false) (ifb (ige (agl B n.1 n.2 - 1) (acs qa)) (some false) (adv qa (agl B n.1 n.2 - 1) fun e13 => ab6 (adq e13 l) fun r14 => ifb r14 (some false) (some true))))) = some true := by
  intro f1 f2 f3
  rw [aSf hIB.size hIB.num, ab3, f1, acm (by rfl), acm (by rfl), acA, f2, acm (decide_eq_false (by omega)), aNX (by omega) (by omega), aFc, ab3]
  have : (decide (l.1 ≤ gv (0 :: qa) (agl B n.1 n.2)) && decide (gv (0 :: qa) (agl B n.1 n.2) ≤ l.2)) = false := by
   rw [Bool.and_eq_false_iff]
   by_cases h : l.1 ≤ gv (0 :: qa) (agl B n.1 n.2)
   ·exact .inr (decide_eq_false fun h2 => f3 ⟨h, h2⟩)
   ·exact .inl (decide_eq_false h)
  rw [this]
  rfl
 simp only [hp, ab3, Bool.not_true, acM]
 have hlt : ilt (agl B n.1 n.2 - 1) 0 = false := decide_eq_false (by omega)
 simp only [hlt, acM]
 try dsimp only at w1 w2
 rcases w1 with ⟨a1, a2⟩ | ⟨a1, a2, a3, a4, a5⟩
 ·rcases w2 with ⟨c1, c2⟩ | ⟨c1, c2, c3, c4, c5⟩
  ·omega
  ·subst a1; subst a2; subst c2
   exact fitsOut c3 c5 (by simpa using c4)
 ·rcases w2 with ⟨c1, c2⟩ | ⟨c1, c2, c3, c4, c5⟩
  ·subst c1; subst a2; subst c2
   exact fitsIn a3 a5 (by simpa using a4) (some true)
  ·have hv3 : v = 3 := by omega
   subst hv3; subst a2; subst c2
   exact (fitsIn a3 a5 (by simpa using a4) _).trans (fitsOut c3 c5 (by simpa using c4))
end Go.Proofs.ZzM
end