/- lemmas -/
import Derived.Test.YthhhehllmdfhiaaGreatPlA
import Derived.Test.YthhhehllmdfhiaaGreatMdTA
set_option linter.all false
set_option linter.unusedSectionVars false
set_option linter.unusedVariables false
set_option linter.unusedSimpArgs false
noncomputable section
namespace Go.Proofs.ZzM
open Go Go.Am
section
variable {L : List Lk} {N : Nat}
theorem Wl.app {u v : Int} {vs : List Int} {d : Int} (h1 : Wl L (fun x => x = u) vs v d) {ws : List Int} {w e : Int} (h2 : Wl L (fun x => x = v) ws w e) : ∃ xs, Wl L (fun x => x = u) xs w (d + e) := by
 induction h2 with
 | nil h => subst h; exact ⟨vs, by rw [Int.add_zero]; exact h1⟩
 | step hw hx ih =>
   obtain ⟨xs, hi⟩ := ih
   have := Wl.step hi hx
   rw [Int.add_assoc] at this
   exact ⟨_, this⟩
def dst (L : List Lk) (N : Nat) (s t : Int) : Int := gv (aiz L N s) t
theorem aRi (h : aep L N) (ht : ayY L N) (ho : ady L N = true) {s t : Int} (hs : 0 ≤ s ∧ s < N) (hv : 0 ≤ t ∧ t < N) : dst L N s t ≤ 9007199254740992 := by
 have h2 := h.n60
 obtain ⟨p, hp⟩ := (aeB h.links (by omega)).1 ho
 obtain ⟨vs, d, hw, hd⟩ := ht.from' s hs.1 hs.2
 obtain ⟨ws, e, hx, he⟩ := ht.to t hv.1 hv.2
 obtain ⟨xs, hy⟩ := Wl.app hw hx
 have := (aiy h.links (by omega) hp hs).low t xs _ (aQi.2 hy)
 unfold dst
 omega
theorem aRh (h : aep L N) (ht : ayY L N) (ho : ady L N = true) {s t : Int} (hs : 0 ≤ s ∧ s < N) (hv : 0 ≤ t ∧ t < N) : dst L N s t ≠ ad0 := by
 have := aRi h ht ho hs hv
 unfold ad0
 omega
theorem aRg (h : aep L N) (ht : ayY L N) (ho : ady L N = true) {s : Int} (hs : 0 ≤ s ∧ s < N) : Pot L (dst L N s) := by
 have h2 := h.n60
 obtain ⟨p, hp⟩ := (aeB h.links (by omega)).1 ho
 intro u v m hl
 have hr := h.inr _ hl
 exact (aiy h.links (by omega) hp hs).pot h.inr hl (aRh h ht ho hs hr.1)
theorem aNO (h : aep L N) (ho : ady L N = true) {s : Int} (hs : 0 ≤ s ∧ s < N) : dst L N s s = 0 := aML h ho hs.1 hs.2
theorem aHI (h : aep L N) (ht : ayY L N) (ho : ady L N = true) {s t : Int} (hs : 0 ≤ s ∧ s < N) (hv : 0 ≤ t ∧ t < N) {p : Int → Int} (hp : Pot L p) : p t - p s ≤ dst L N s t := by
 have h2 := h.n60
 obtain ⟨vs, hw⟩ := (aiy h.links (by omega) hp hs).att t hv.1 hv.2 (aRh h ht ho hs hv)
 obtain ⟨u, hu, hx⟩ := (aQi.1 hw).pot hp
 subst hu
 exact hx
theorem aUP (h : aep L N) (ht : ayY L N) (ho : ady L N = true) {x y : Int} (hx : 0 ≤ x ∧ x < N) (hy : 0 ≤ y ∧ y < N) {t : Int} (h1 : -(dst L N x y) ≤ t) (h2 : t ≤ dst L N y x) : ∃ p, Pot L p ∧ p x - p y = t := by
 refine ⟨fun v => min (dst L N y v) (dst L N x v + t), fun u v m hl => ?_, ?_⟩
 ·have a1 := aRg h ht ho hy u v m hl
  have a2 := aRg h ht ho hx u v m hl
  show min _ _ ≤ min _ _ + m
  omega
 ·have e1 := aNO h ho hx
  have e2 := aNO h ho hy
  show min (dst L N y x) (dst L N x x + t) - min (dst L N y y) (dst L N x y + t) = t
  omega
theorem aKA (h : aep L N) (ht : ayY L N) (ho : ady L N = true) {x y : Int} (hx : 0 ≤ x ∧ x < N) (hy : 0 ≤ y ∧ y < N) : -(dst L N x y) ≤ dst L N y x := by
 have h2 := h.n60
 obtain ⟨p, hp⟩ := (aeB h.links (by omega)).1 ho
 have a1 := aHI h ht ho hx hy hp
 have a2 := aHI h ht ho hy hx hp
 omega
theorem aKB (h : aep L N) (ht : ayY L N) (ho : ady L N = true) {s t : Int} (hs : 0 ≤ s ∧ s < N) (hv : 0 ≤ t ∧ t < N) : -9007199254740992 ≤ dst L N s t ∧ dst L N s t ≤ 9007199254740992 := by
 have a1 := aRi h ht ho hs hv
 have a2 := aRi h ht ho hv hs
 have a3 := aKA h ht ho hv hs
 omega
theorem aqK (h : aep L N) (ht : ayY L N) {s t : Int} (hs : 0 ≤ s ∧ s < N) (hv : 0 ≤ t ∧ t < N) : afw L N s t = if ady L N then (dst L N s t, 0) else (0, 9) := by
 unfold afw
 by_cases ho : ady L N = true
 ·have hne := aRh h ht ho hs hv
  unfold dst at hne ⊢
  rw [if_neg (by simp [ho]), if_neg hne, if_pos ho]
 ·rw [if_pos (by simpa using ho), if_neg ho]
end
section
variable {b : acz} {c : Cmp}
theorem aUH (h' : adh (acE b c)) : GL (acE b c) (acP (acE b c)) := by
 intro i g hg l hl
 rw [aMm]
 exact List.mem_append.2 (.inl (List.mem_flatMap.2 ⟨g, List.mem_of_getElem? hg, hl⟩))
theorem agN (h' : adh (acE b c)) : ayY (acP (acE b c)) ((acd (acE b c)).length + 1) := h'.tiedL (aUH h')
theorem agw (h' : adh (acE b c)) : aep (acP (acE b c)) ((acd (acE b c)).length + 1) :=
 h'.sys.sub (fun l hl => List.mem_of_mem_take hl) (by unfold acP; rw [List.length_take]; omega)
theorem akp (h : adh b) (h' : adh (acE b c)) : ady (acP (acE b c)) ((acd (acE b c)).length + 1) = ady (acn b) ((acd b).length + 1) := by
 have n1 := h.sys.n60
 have n2 := (agw h').n60
 rw [Bool.eq_iff_iff, aeB (agw h').links (by omega), aeB h.sys.links (by omega)]
 exact (aQg h h').symm
theorem aqh : c ∈ (acE b c).2.2.2.2.1 := by simp [acE]
theorem arN (h' : adh (acE b c)) : 0 ≤ cx (acE b c) c ∧ cx (acE b c) c < ((acd (acE b c)).length + 1 : Nat) := (aHK h' aqh).rng
theorem arM (h' : adh (acE b c)) : 0 ≤ cy (acE b c) c ∧ cy (acE b c) c < ((acd (acE b c)).length + 1 : Nat) := (aCa h' aqh).rng
def dLo (b : acz) (c : Cmp) : Int := -(dst (acP (acE b c)) ((acd (acE b c)).length + 1) (cx (acE b c) c) (cy (acE b c) c))
def dHi (b : acz) (c : Cmp) : Int := dst (acP (acE b c)) ((acd (acE b c)).length + 1) (cy (acE b c) c) (cx (acE b c) c)
theorem aCG (h : adh b) (h' : adh (acE b (ab9 c))) : adF b c = if ady (acn b) ((acd b).length + 1) then azC b (ab9 c) (dLo b (ab9 c), dHi b (ab9 c)) else ((0, 0), 9) := by
 have e : ap8 b (ab9 c) = (acE b (ab9 c), 0) := by
  unfold ap8
  rw [if_neg (by simp [(acx b).2 h]), if_neg (by simp [(acx _).2 h'])]
 unfold adF
 rw [e, aqK (agw h') (agN h') (arM h') (arN h'), aqK (agw h') (agN h') (arN h') (arM h'), akp h h']
 by_cases ho : ady (acn b) ((acd b).length + 1) = true
 ·rw [if_pos ho, if_pos ho, if_pos ho]
  rfl
 ·rw [if_neg ho, if_neg ho, if_neg ho]
  rfl
theorem ajK (hp : (adF b c).2 = 0) : adh b ∧ adh (acE b (ab9 c)) := by
 have hw : (ap8 b (ab9 c)).2 = 0 := by
  unfold adF at hp
  by_cases hw : (ap8 b (ab9 c)).2 = 0
  ·exact hw
  ·rw [if_pos hw] at hp; exact hp
 unfold ap8 at hw
 by_cases hb : acu b = 0
 ·rw [if_neg (by simp [hb])] at hw
  by_cases hm : acu (acE b (ab9 c)) = 0
  ·exact ⟨(acx b).1 hb, (acx _).1 hm⟩
  ·rw [if_pos hm] at hw; exact absurd hw hm
 ·rw [if_pos hb] at hw; exact absurd hw hb
theorem aLm {s : Int × Int} (h : (azC b c s).2 = 0) : aMh b c ≤ asK b c ∧ azC b c s = ((s.1 + aMh b c, s.2 + asK b c), 0) := by
 unfold azC at h ⊢
 split at h
 ·simp at h
 ·rename_i hl
  rw [if_neg hl]
  exact ⟨by omega, rfl⟩
end
end Go.Proofs.ZzM
end
noncomputable section
namespace Go.Proofs.ZzM
open Go Go.Am
structure Room (B : acz) : Prop where
 good : adh B
 op : ady (acn B) ((acd B).length + 1) = true
 num : ∀ g ∈ B.2.1, I64 g.2.2.2.2.1.1
theorem aiM {b : acz} (hI : In b) {ns : List (Int × Int)} (e : (adv b ns).2 = 0) : Room (adv b ns).1 ∧ (adv b ns).1 = (agY b ns).1 ∧ (agY b ns).2 = 0 ∧ adh b := by
 unfold adv at e ⊢
 by_cases hc : acu b = 0
 ·rw [if_neg (by simp [hc])] at e ⊢
  by_cases hr : (agY b ns).2 = 0
  ·rw [if_neg (by simp [hr])] at e ⊢
   cases ho : ady (acn (agY b ns).1) ((acd (agY b ns).1).length + 1) with
   | true =>
     rw [if_pos rfl]
     exact ⟨⟨azJ ((acx b).1 hc) hr, ho, by rw [arZ hr]; exact hI.num⟩, rfl, hr, (acx b).1 hc⟩
   | false => rw [ho] at e; simp at e
  ·rw [if_pos hr] at e; exact absurd e hr
 ·rw [if_pos hc] at e; exact absurd e hc
theorem afu (B : acz) (n : Int × Int) : 0 ≤ avb B n.1 n.2 ∧ avb B n.1 n.2 < ((acd B).length + 1 : Nat) := by
 unfold avb
 cases h : ag0 (acd B) n.1 n.2 with
 | none => dsimp only; omega
 | some j => have := (ah9 h).1; dsimp only; omega
theorem aCy {B : acz} (h : adh B) (hn : ∀ g ∈ B.2.1, I64 g.2.2.2.2.1.1) (s : Sys) (n : Int × Int) : afc (B, s) n = some (avb B n.1 n.2) := by
 unfold afc asi
 rw [show aeo (B, s).1 n = aeo B n from rfl, aCJ (h.inn hn), ab2, asU h]
 split
 ·rename_i e; rw [e]
 ·rfl
theorem aKT {B : acz} {L : List Lk} {N : Nat} (h : aep L N) {to from' : Int} (h1 : 0 ≤ to ∧ to < N) (h2 : 0 ≤ from' ∧ from' < N) : ac4 (B, (N : Int), L) to from' = some (afw L N from' to).1 := by
 unfold ac4 aly
 rw [show (B, (N : Int), L).2 = ((N : Int), L) from rfl, azu h h2 h1, ab2]
def ay4 (B : acz) : Sys := (((acd B).length : Int) + 1, acn B)
def aTb (B : acz) (s t : Int) : Int := dst (acn B) ((acd B).length + 1) s t
def ivR (B : acz) (n : Int × Int) : Int × Int := (-(aTb B (avb B n.1 n.2) 0), aTb B 0 (avb B n.1 n.2))
theorem amP (B : acz) : ay4 B = ((((acd B).length + 1 : Nat) : Int), acn B) := by unfold ay4; push_cast; rfl
theorem af0 (B : acz) : 0 ≤ (0 : Int) ∧ (0 : Int) < ((acd B).length + 1 : Nat) := by omega
section
variable {B : acz} (h : Room B)
include h
theorem aw2 {s t : Int} (hs : 0 ≤ s ∧ s < ((acd B).length + 1 : Nat)) (ht : 0 ≤ t ∧ t < ((acd B).length + 1 : Nat)) : -9007199254740992 ≤ aTb B s t ∧ aTb B s t ≤ 9007199254740992 :=
 aKB h.good.sys h.good.tied h.op hs ht
theorem aqH {to from' : Int} (h1 : 0 ≤ to ∧ to < ((acd B).length + 1 : Nat)) (h2 : 0 ≤ from' ∧ from' < ((acd B).length + 1 : Nat)) : ac4 (B, ay4 B) to from' = some (aTb B from' to) := by
 rw [amP, aKT h.good.sys h1 h2, aqK h.good.sys h.good.tied h2 h1, if_pos h.op]
 rfl
theorem aEW (n : Int × Int) : afb (B, ay4 B) n = some (-(aTb B (avb B n.1 n.2) 0)) := by
 unfold afb alx
 have hb := aw2 h (afu B n) (af0 B)
 rw [aCy h.good h.num, ab2, aqH h (af0 B) (afu B n), ab2, acq (by omega) (by omega)]
 congr 1
 omega
theorem avd (n : Int × Int) : afv (B, ay4 B) n = some (aTb B 0 (avb B n.1 n.2)) := by
 unfold afv aii
 rw [aCy h.good h.num, ab2, aqH h (afu B n) (af0 B), ab2]
theorem anM (n : Int × Int) : aew (B, ay4 B) n = some (ivR B n) := by
 unfold aew aih
 rw [aEW h, ab2, avd h, ab2]
 rfl
end
def avA (b : acz) (n : Int × Int) : (Int × Int) × Int := if (adv b [n]).2 ≠ 0 then ((0, 0), (adv b [n]).2) else (ivR (adv b [n]).1 n, 0)
theorem aCI {b : acz} (hI : In b) (n : Int × Int) : ai8 b n = some (avA b n) := by
 unfold ai8 apd avA
 refine (amU hI (ns := [n]) (by simp) (fun e => some (((0, 0) : Int × Int), e)) (fun e he => by rw [adB (by simp [ine, he])]) (fun z he => by rw [adB (by simp [ine, he])]) (fun _ _ _ => rfl)).trans ?_
 split
 ·rfl
 ·rename_i e
  have hr := (aiM hI (by simpa using e)).1
  dsimp only
  rw [apQ, show ((((acd (adv b [n]).1).length : Int) + 1, acn (adv b [n]).1) : Sys) = ay4 (adv b [n]).1 from rfl, anM hr, ab2]
theorem aPk {ρ : Type} : @alF ρ = @ac9 ρ := rfl
theorem aSU {ρ : Type} : @apc ρ = @ac9 ρ := rfl
def btR (B : acz) (m n : Int × Int) : Int × Int := (-(aTb B (avb B m.1 m.2) (avb B n.1 n.2)), aTb B (avb B n.1 n.2) (avb B m.1 m.2))
def aH6 (b : acz) (m n : Int × Int) : (Int × Int) × Int := if (adv b [m, n]).2 ≠ 0 then ((0, 0), (adv b [m, n]).2) else (btR (adv b [m, n]).1 m n, 0)
theorem aPt {b : acz} (hI : In b) (m n : Int × Int) : anQ b m n = some (aH6 b m n) := by
 unfold anQ ass aH6
 rw [aPk]
 refine (amU hI (ns := [m, n]) (by simp) (fun e => some (((0, 0) : Int × Int), e)) (fun e he => by rw [adB (by simp [ine, he])]) (fun z he => by rw [adB (by simp [ine, he])]) (fun _ _ _ => rfl)).trans ?_
 split
 ·rfl
 ·rename_i e
  have hr := (aiM hI (by simpa using e)).1
  dsimp only
  generalize (adv b [m, n]).1 = B at hr ⊢
  have hb := aw2 hr (afu B m) (afu B n)
  rw [apQ, show ((((acd B).length : Int) + 1, acn B) : Sys) = ay4 B from rfl, aCy hr.good hr.num, ab2, aCy hr.good hr.num, ab2, aqH hr (afu B n) (afu B m), ab2,
   acq (by omega) (by omega), aqH hr (afu B m) (afu B n), ab2]
  unfold btR
  rw [Int.zero_sub]
def akE (s l : Int × Int) : Int := if l.1 ≤ s.1 ∧ s.2 ≤ l.2 then 1 else if s.2 < l.1 ∨ l.2 < s.1 then 2 else 3
theorem aEd (s l : Int × Int) : akr s l = some (akE s l) := by
 unfold akr asg akE
 simp only [adM, ile, ilt, decide_eq_true_eq]
 by_cases h1 : l.1 ≤ s.1 <;> by_cases h2 : s.2 ≤ l.2 <;> by_cases h3 : s.2 < l.1 <;> by_cases h4 : l.2 < s.1 <;> simp [h1, h2, h3, h4]
def aR4 (b : acz) (n l : Int × Int) : Int × Int := if (adv b [n]).2 ≠ 0 then (0, (adv b [n]).2) else if l.2 < l.1 then (0, 1) else (akE (ivR (adv b [n]).1 n) l, 0)
theorem aTL {b : acz} (hI : In b) (n l : Int × Int) : avm b n l = some (aR4 b n l) := by
 unfold avm aAs aR4
 rw [aSU]
 refine (amU hI (ns := [n]) (by simp) (fun e => some ((0 : Int), e)) (fun e he => by rw [acs (by simp [ine, he])]) (fun z he => by rw [acs (by simp [ine, he])]) (fun _ _ _ => rfl)).trans ?_
 split
 ·rfl
 ·rename_i e
  have hr := (aiM hI (by simpa using e)).1
  dsimp only
  by_cases hl : l.2 < l.1
  ·rw [acs (by simp [igt, hl]), if_pos hl]
  ·rw [acm (by simp [igt]; omega), if_neg hl, apQ, show ((((acd (adv b [n]).1).length : Int) + 1, acn (adv b [n]).1) : Sys) = ay4 (adv b [n]).1 from rfl, anM hr, ab2, aEd, ab2]
end Go.Proofs.ZzM
end
noncomputable section
namespace Go.Proofs.ZzM
open Go Go.Am
def aCM (x y : List Int) : List Int × List Int × Int := if !ajx x then ([], [], 1) else if !ajx y then ([], [], 1) else (adb x y, adb y x, 0)
theorem aK5 {x y : List Int} (hx : x.length ≤ 100000) (hy : y.length ≤ 100000) : amI x y = some (aCM x y) := by
 unfold amI awL aCM
 rw [au6 (by omega), ab2]
 cases ajx x with
 | false => rfl
 | true =>
   rw [au6 (by omega), ab2]
   cases ajx y with
   | false => rfl
   | true =>
     rw [alN (by omega) (by omega), ab2, alN (by omega) (by omega), ab2]
     rfl
end Go.Proofs.ZzM
end
noncomputable section
namespace Go.Proofs.ZzM
open Go Go.Am
theorem aKu (ls : List (List Int)) (i : Nat) : (ls.take i).flatten.length ≤ ls.flatten.length := by
 conv => rhs; rw [← List.take_append_drop i ls, List.flatten_append, List.length_append]
 omega
theorem ajZ {ls : List (List Int)} (hl : ls.length ≤ 1000000) (hf : ls.flatten.length ≤ 1000000) : acF ls = some ls.flatten := by
 have hk : ∀ n : Nat, n ≤ 4000000 → ∀ (f : Int → Option (List Int)), ck (n : Int) f = f n := fun n h f => acq (by omega) (by omega) f
 have second : acl (fun (v9 : (Val (.pair tI (.slice tI)))) kk12 => acI ls (acv ls) v9.1 v9.2 (fun u10 u11 => kk12 (u10, u11)) (fun z8 => some z8)) ((0 : Int), ([] : List Int)) = some ls.flatten := by
  refine ac3 ls (fun i => (ls.take i).flatten) (some ls.flatten) (f := fun (v9 : (Val (.pair tI (.slice tI)))) kk12 => acI ls (acv ls) v9.1 v9.2 (fun u10 u11 => kk12 (u10, u11)) (fun z8 => some z8)) rfl (fun i x hi hx kn => ?_) (fun kn => ?_)
  ·try dsimp only
   unfold acI
   have h1 := aKu ls (i + 1)
   rw [take_succ hx, List.flatten_append, List.length_append] at h1
   simp only [List.flatten_cons, List.flatten_nil, List.append_nil] at h1
   rw [aco hi, aci hx, ack hi (by omega), take_succ hx, List.flatten_append]
   have : acO ((List.take i ls).flatten.length + x.length) = true := acp (by omega)
   rw [adB this]
   simp
  ·try dsimp only
   unfold acI
   rw [acK]
   simp
 unfold acF af5
 refine afn (fun x : Int × Int => ∃ i : Nat, i ≤ ls.length ∧ x = (((ls.take i).flatten.length : Int), (i : Int))) (fun x => ls.length - x.2.toNat) ?_ ⟨0, by omega, rfl⟩
 rintro x ⟨i, hi, rfl⟩
 rcases Nat.lt_or_ge i ls.length with h2 | h2
 ·refine .inr ⟨(((ls.take (i + 1)).flatten.length : Int), (i : Int) + 1), ⟨i + 1, h2, by simp⟩, by simp; omega, fun kn => ?_⟩
  obtain ⟨x, hx⟩ : ∃ x, ls[i]? = some x := ⟨_, List.getElem?_eq_getElem h2⟩
  have h1 := aKu ls (i + 1)
  rw [take_succ hx, List.flatten_append, List.length_append] at h1
  simp only [List.flatten_cons, List.flatten_nil, List.append_nil] at h1
  try dsimp only
  unfold adD
  rw [aco h2, aci hx, acB]
  have e1 : (((List.take i ls).flatten.length : Int) + (x.length : Int)) = ((List.take i ls).flatten.length + x.length : Nat) := by omega
  rw [e1, hk _ (by omega)]
  have : ilt ((((List.take i ls).flatten.length + x.length : Nat)) : Int) 0 = false := by simp [ilt]; omega
  rw [acm this, ack h2 (by omega), take_succ hx]
  simp
 ·refine .inl fun kn => ?_
  obtain rfl : i = ls.length := by omega
  try dsimp only
  unfold adD
  rw [acK, List.take_length]
  have e2 : ilt ((ls.flatten.length : Nat) : Int) 0 = false := decide_eq_false (by omega)
  dsimp only
  rw [acm e2, Int.sub_zero, hk _ (by omega)]
  rcases Nat.eq_zero_or_pos ls.flatten.length with h0 | h0
  ·have : igt (ls.flatten.length : Int) 0 = false := decide_eq_false (by omega)
   rw [acm this]
   exact second
  ·have : igt (ls.flatten.length : Int) 0 = true := decide_eq_true (by omega)
   rw [acs this]
   have : ((ilt (0 : Int) (ls.flatten.length : Int)) && (acO (Int.toNat (ls.flatten.length : Int)))) = true := by
    rw [Int.toNat_natCast, acp (by omega), Bool.and_true]
    exact decide_eq_true (by omega)
   rw [adB this]
   have : ile 0 (adx (List.replicate (Int.toNat (ls.flatten.length : Int)) (0 : Int))) = true := decide_eq_true (Int.natCast_nonneg _)
   rw [adB this]
   exact second
def onP (day : Int) (ids : List Int) : List (Int × Int) := ids.map fun id => (id, day)
theorem aPU {day : Int} {ls : List (List Int)} (hl : ls.length ≤ 1000000) (hf : ls.flatten.length ≤ 1000000) : avk day ls = some (onP day ls.flatten) := by
 unfold avk aAg
 rw [ajZ hl hf, ab2]
 refine ac3 ls.flatten (fun i => onP day (ls.flatten.take i)) _ rfl (fun i x hi hx kn => ?_) (fun kn => ?_)
 ·try dsimp only
  unfold akQ
  rw [aco hi, aci hx, ack hi (by omega), take_succ hx]
  have : acO (List.length (onP day (ls.flatten.take i)) + List.length ([(x, day)])) = true := acp (by simp [onP]; omega)
  rw [adB this]
  simp [onP]
 ·try dsimp only
  unfold akQ
  rw [acK, List.take_length]
theorem aSp {l : List Int} (hl : l.length ≤ 100000) (m : Int) : azn l m = some (ajx l && decide ((l.length : Int) ≤ m)) := by
 unfold azn aF2
 rw [aK5 hl (by simp), ab2]
 have e0 : ajx [] = true := by decide
 unfold aCM
 rw [e0, acB]
 cases ajx l <;> rfl
theorem aUj (n : Int) : avl n = some (aLc n) := by
 unfold avl aAl aLc inP
 rw [adM]
 by_cases h : 0 ≤ n
 ·rw [if_pos (by simpa [ige] using h)]; simp [h]
 ·rw [if_neg (by simpa [ige] using h)]; simp [h]
theorem aSY {ρ α : Type} (l : List α) (i : Int) (f : α → Option ρ) : acU ((ile (0 : Int) i) && (ilt i (adx l))) (afx l (Int.toNat i) f) = adG l i f := by
 unfold adG
 by_cases h0 : 0 ≤ i
 ·by_cases h1 : i < l.length
  ·have e : ((ile (0 : Int) i) && (ilt i (adx l))) = true := by simp [ile, ilt, h0, h1]
   rw [adB e]
   simp only [h0, decide_true]
   unfold afx
   rfl
  ·have e : ((ile (0 : Int) i) && (ilt i (adx l))) = false := by simp [ile, ilt, h1]
   rw [e]
   simp only [h0, decide_true]
   rw [List.getElem?_eq_none (by omega)]
   rfl
 ·have e : ((ile (0 : Int) i) && (ilt i (adx l))) = false := by simp [ile, ilt, h0]
  rw [e]
  simp only [h0, decide_false]
  rfl
theorem aUs {ρ : Type} (ns : List (Int × Int)) (n : Int) : @anb ρ ns n = @ac9 ρ n ns := by
 funext v0 v1 v2 v3 v4 v5 v6 v7 kn k0 k1
 unfold anb ac9
 rw [aSY]
def aM4 (B : acz) (ns : List (Int × Int)) (s : Int × Int) : Int × Int := ns.foldl (fun s n => (s.1 + (ivR B n).1, s.2 + (ivR B n).2)) s
def pileR (B : acz) (f : Int × Int) (ns : List (Int × Int)) : Int × Int := aM4 B ns (((ns.length : Int) - 1) * f.1, ((ns.length : Int) - 1) * f.2)
def aU4 (b : acz) (day : Int) (ids : List Int) : (Int × Int) × Int :=
 if acu b ≠ 0 then ((0, 0), acu b) else if ids.length = 0 ∨ ajx ids = false ∨ aLc day = false then ((0, 0), 1) else
 if (adv b (onP day ids)).2 ≠ 0 then ((0, 0), (adv b (onP day ids)).2) else (pileR (adv b (onP day ids)).1 b.1 (onP day ids), 0)
theorem aLi (B : acz) (x y : List (Int × Int)) (s : Int × Int) : aM4 B (x ++ y) s = aM4 B y (aM4 B x s) := by unfold aM4; rw [List.foldl_append]
theorem aPM {B : acz} (h : Room B) : ∀ (ns : List (Int × Int)) (s : Int × Int) (m : Int), -m ≤ s.1 ∧ s.1 ≤ m → -m ≤ s.2 ∧ s.2 ≤ m →
 (-(m + ns.length * 9007199254740992) ≤ (aM4 B ns s).1 ∧ (aM4 B ns s).1 ≤ m + ns.length * 9007199254740992) ∧ (-(m + ns.length * 9007199254740992) ≤ (aM4 B ns s).2 ∧ (aM4 B ns s).2 ≤ m + ns.length * 9007199254740992)
 | [], s, m, h1, h2 => by unfold aM4; simp; omega
 | n :: t, s, m, h1, h2 => by
   have b1 := aw2 h (afu B n) (af0 B)
   have b2 := aw2 h (af0 B) (afu B n)
   have := aPM h t (s.1 + (ivR B n).1, s.2 + (ivR B n).2) (m + 9007199254740992) (by unfold ivR; dsimp only; omega) (by unfold ivR; dsimp only; omega)
   show (-(m + ((n :: t).length : Nat) * 9007199254740992) ≤ (aM4 B t _).1 ∧ _) ∧ _
   unfold aM4 at this ⊢
   simp only [List.foldl_cons, List.length_cons]
   push_cast
   omega
theorem aU3 {b : acz} (hI : In b) (day : Int) {ids : List Int} (hl : ids.length ≤ 1000) : azo b day ids = some (aU4 b day ids) := by
 unfold azo aGs aU4
 rw [ae3 hI.size hI.num, ab2, aSp (by omega), ab2, aUj, ab2, acB]
 by_cases hc : acu b = 0
 ·rw [acm (by simp [ine, hc]), if_neg (show ¬ (acu b ≠ 0) from fun h => h hc)]
  by_cases h0 : ids.length = 0
  ·rw [acs (by simp [ieq, h0]), if_pos (.inl h0)]
  ·rw [acm (beq_eq_false_iff_ne.2 (by omega))]
   by_cases h1 : ajx ids = true
   ·have hp := (aIF ids).1 h1
    have e1 : (ajx ids && decide ((ids.length : Int) ≤ 6)) = true := by rw [h1]; simp; omega
    rw [e1, acm (by rfl)]
    by_cases h2 : aLc day = true
    ·have hg := (acx b).1 hc
     rw [acm (by rw [h2]; rfl), if_neg (by simp [h0, h1, h2]), aPU (by simp) (by simp; omega), ab2]
     have hlen : (onP day ids).length = ids.length := by simp [onP]
     rw [show ([ids] : List (List Int)).flatten = ids by simp, aUs, ← ae3 hI.size hI.num]
     refine (amU hI (ns := onP day ids) (by omega) (fun e => some (((0, 0) : Int × Int), e)) (fun e he => by rw [acs (by simp [ine, he])]) (fun z he => by rw [acs (by simp [ine, he])]) (fun _ _ _ => rfl)).trans ?_
     split
     ·rfl
     ·rename_i e
      have hr := (aiM hI (by simpa using e)).1
      have hf := hg.film
      dsimp only
      generalize (adv b (onP day ids)).1 = B at hr ⊢
      have hm : ∀ x : Int, 0 ≤ x → x ≤ 1000000 → 0 ≤ ((ids.length : Int) - 1) * x ∧ ((ids.length : Int) - 1) * x ≤ 10000000 := by
       intro x h0 h1
       have : ((ids.length : Int) - 1) * x ≤ 5 * 1000000 := Int.mul_le_mul (by omega) h1 h0 (by omega)
       exact ⟨Int.mul_nonneg (by omega) h0, by omega⟩
      have m1 := hm b.1.1 (by omega) (by omega)
      have m2 := hm b.1.2 (by omega) (by omega)
      rw [acq (by omega) (by omega), acq (by omega) (by omega), acq (by omega) (by omega), apQ, show ((((acd B).length : Int) + 1, acn B) : Sys) = ay4 B from rfl]
      unfold pileR
      rw [hlen]
      refine ac3 (onP day ids) (fun i => aM4 B ((onP day ids).take i) (((ids.length : Int) - 1) * b.1.1, ((ids.length : Int) - 1) * b.1.2)) _ rfl (fun i n hi hn kn => ?_) (fun kn => ?_)
      ·try dsimp only
       unfold ana
       have b1 := aw2 hr (afu B n) (af0 B)
       have b2 := aw2 hr (af0 B) (afu B n)
       have bs := aPM hr ((onP day ids).take i) (((ids.length : Int) - 1) * b.1.1, ((ids.length : Int) - 1) * b.1.2) 10000000 (by dsimp only; omega) (by dsimp only; omega)
       have bl : (((onP day ids).take i).length : Int) ≤ 6 := by rw [List.length_take]; omega
       rw [aco hi, aci hn, anM hr, ab2, take_succ hn, aLi]
       generalize aM4 B ((onP day ids).take i) (((ids.length : Int) - 1) * b.1.1, ((ids.length : Int) - 1) * b.1.2) = s at bs ⊢
       unfold ivR
       dsimp only
       rw [acq (by omega) (by omega), acq (by omega) (by omega), ack hi (by omega)]
       rfl
      ·try dsimp only
       unfold ana
       rw [acK, List.take_length]
    ·have h2' : aLc day = false := by simpa using h2
     rw [h2', acs (by rfl), if_pos (.inr (.inr rfl))]
   ·have h1' : ajx ids = false := by simpa using h1
    rw [h1', acs (by rfl), if_pos (.inr (.inl rfl))]
 ·rw [acs (by simp [ine, hc]), if_pos hc]
theorem akq {α : Type} (p : α → Bool) (l : List α) (i : Nat) : ((l.take i).filter p).length ≤ l.length := by
 have h1 := List.length_filter_le p (l.take i)
 rw [List.length_take] at h1
 omega
end Go.Proofs.ZzM
end
noncomputable section
namespace Go.Proofs.ZzM
open Go Go.Am
theorem aEA (x y : Int) (g : Bool) : ∀ m : List (Int × Bool), al3 (k := tI) (v := .bool) x (azd (k := tI) (v := .bool) y g m) = if x = y then some g else al3 (k := tI) (v := .bool) x m
 | [] => by
   unfold azd al3 aha al3
   by_cases h : x = y <;> simp [h]
 | e :: m => by
   unfold azd
   by_cases h : y = e.1
   ·have : aha tI y e.1 = true := by simp [aha, h]
    rw [this]
    try dsimp only
    unfold al3 aha
    by_cases h2 : x = y
    ·simp [h2]
    ·have : ¬ x = e.1 := fun h3 => h2 (h3.trans h.symm)
     simp [h2, this]
   ·have : aha tI y e.1 = false := by simp [aha, h]
    rw [this]
    try dsimp only
    have ih := aEA x y g m
    unfold al3
    by_cases h2 : x = e.1
    ·have : aha tI x e.1 = true := by simp [aha, h2]
     rw [this]
     have : ¬ x = y := fun h3 => h (h3.symm.trans h2)
     simp [this]
    ·have : aha tI x e.1 = false := by simp [aha, h2]
     rw [this]
     exact ih
def aCO (l : List Int) : List (Int × Bool) := l.foldl (fun m x => azd (k := tI) (v := .bool) x true m) []
theorem aoJ (l : List Int) (x : Int) : aCO (l ++ [x]) = azd (k := tI) (v := .bool) x true (aCO l) := by unfold aCO; rw [List.foldl_append]; rfl
theorem aI5 (x : Int) : ∀ (l : List Int) (m : List (Int × Bool)), al3 (k := tI) (v := .bool) x (l.foldl (fun m x => azd (k := tI) (v := .bool) x true m) m) = if l.contains x then some true else al3 (k := tI) (v := .bool) x m
 | [], m => by simp
 | y :: l, m => by
   rw [List.foldl_cons, aI5 x l, aEA]
   by_cases h : x = y
   ·subst h; simp
   ·simp [h]
theorem aI3 (l : List Int) (x : Int) : al3 (k := tI) (v := .bool) x (aCO l) = if l.contains x then some true else none := aI5 x l []
def aoI (b : acz) (s : Int × Int) : List Int := if s.1 = 3 then (match b.2.2.2.2.1[s.2.toNat]? with | some c => c.2.2.1 ++ c.2.2.2.1 | none => []) else (match b.2.1[s.2.toNat]? with | some g => [g.1] | none => [])
def avs (b : acz) (ss looks : List (Int × Int)) : List Int := ss.flatMap (aoI b) ++ looks.map fun n => n.1
def aqD (ss : List (Int × Int)) : List Int := (ss.filter fun s => s.1 == 3).map fun s => s.2
def alO (w : List Int) : Nat → List Cmp → List Cmp
 | _, [] => []
 | i, c :: t => if w.contains (i : Int) then c :: alO w (i + 1) t else alO w (i + 1) t
def aCb (b : acz) (ss looks : List (Int × Int)) : acz :=
 (b.1, b.2.1.filter fun g => (avs b ss looks).contains g.1, b.2.2.1.filter fun u => (avs b ss looks).contains u.1, b.2.2.2.1.filter fun l => (avs b ss looks).contains l.1, alO (aqD ss) 0 b.2.2.2.2.1, looks)
def aTH (b : acz) (s : Int × Int) : Prop := ((s.1 = 1 ∨ s.1 = 2) ∧ 0 ≤ s.2 ∧ s.2 < b.2.1.length) ∨ (s.1 = 3 ∧ 0 ≤ s.2 ∧ s.2 < b.2.2.2.2.1.length)
theorem aEX (w : List Int) (c : Cmp) : ∀ (l : List Cmp) (i : Nat), alO w i (l ++ [c]) = alO w i l ++ if w.contains ((i + l.length : Nat) : Int) then [c] else []
 | [], i => by simp only [List.nil_append, alO, List.length_nil, Nat.add_zero]
 | a :: l, i => by
   have e : ((i + 1 + l.length : Nat) : Int) = ((i + (l.length + 1) : Nat) : Int) := by congr 1; omega
   simp only [List.cons_append, alO, aEX w c l (i + 1), List.length_cons, e]
   split <;> rfl
theorem aBD (w : List Int) : ∀ (l : List Cmp) (i : Nat), (alO w i l).length ≤ l.length
 | [], i => by simp [alO]
 | a :: l, i => by
   have := aBD w l (i + 1)
   simp only [alO]
   split <;> simp only [List.length_cons] <;> omega
theorem apM {ρ : Type} (x : Int) (l : List Int) (f : Bool → Option ρ) (g : Option ρ) : aH8 (k := tI) (v := .bool) x (aCO l) f g = if l.contains x then f true else g := by
 unfold aH8
 rw [aI3]
 by_cases h : l.contains x = true
 ·rw [if_pos h, if_pos h]
 ·rw [if_neg h, if_neg h]
section
variable {ρ : Type}
theorem cut_L3 (l : List (Int × Int)) (hl : l.length ≤ 1000) (ids : List Int) (K : List (Int × Int) → Option ρ) : acl (fun (v47 : (Val (.pair tI (.slice ab5)))) kk50 => ame l (acv l) (aCO ids) v47.1 v47.2 (fun u48 u49 => kk50 (u48, u49)) K) ((0 : Int), []) = K (l.filter fun u => ids.contains u.1) := by
 refine ac3 l (fun i => (l.take i).filter fun u => ids.contains u.1) _ rfl (fun i a hi ha kn => ?_) (fun kn => ?_)
 ·try dsimp only
  unfold ame
  have h1 := akq (fun u : Int × Int => ids.contains u.1) l i
  rw [aco hi, aci ha, apM, take_succ ha, List.filter_append]
  by_cases h : ids.contains a.1 = true
  ·rw [if_pos h, ad5, adB (acp (by simp only [List.length_singleton]; omega)), ack hi (by omega)]
   simp only [List.filter_cons, List.filter_nil, h, if_pos]
  ·rw [if_neg h, ack hi (by omega)]
   simp only [List.filter_cons, List.filter_nil, h, if_neg, Bool.false_eq_true, not_false_eq_true, List.append_nil]
 ·try dsimp only
  unfold ame
  rw [acK, List.take_length]
theorem cut_L4 (l : List ayi) (hl : l.length ≤ 1000) (ids : List Int) (K : List ayi → Option ρ) : acl (fun (v47 : (Val (.pair tI (.slice adJ)))) kk50 => amd l (acv l) (aCO ids) v47.1 v47.2 (fun u48 u49 => kk50 (u48, u49)) K) ((0 : Int), []) = K (l.filter fun u => ids.contains u.1) := by
 refine ac3 l (fun i => (l.take i).filter fun u => ids.contains u.1) _ rfl (fun i a hi ha kn => ?_) (fun kn => ?_)
 ·try dsimp only
  unfold amd
  have h1 := akq (fun u : ayi => ids.contains u.1) l i
  rw [aco hi, aci ha, apM, take_succ ha, List.filter_append]
  by_cases h : ids.contains a.1 = true
  ·rw [if_pos h, ad5, adB (acp (by simp only [List.length_singleton]; omega)), ack hi (by omega)]
   simp only [List.filter_cons, List.filter_nil, h, if_pos]
  ·rw [if_neg h, ack hi (by omega)]
   simp only [List.filter_cons, List.filter_nil, h, if_neg, Bool.false_eq_true, not_false_eq_true, List.append_nil]
 ·try dsimp only
  unfold amd
  rw [acK, List.take_length]
theorem cut_L5 (l : List Cmp) (hl : l.length ≤ 1000) (hp : ∀ c ∈ l, c.2.2.1.length ≤ 1000 ∧ c.2.2.2.1.length ≤ 1000) (w : List Int) (K : List Cmp → Option ρ) : acl (fun (v47 : (Val (.pair tI (.slice ace)))) kk50 => amc l (acv l) (aCO w) v47.1 v47.2 (fun u48 u49 => kk50 (u48, u49)) K) ((0 : Int), []) = K (alO w 0 l) := by
 refine ac3 l (fun i => alO w 0 (l.take i)) _ rfl (fun i a hi ha kn => ?_) (fun kn => ?_)
 ·try dsimp only
  unfold amc
  have h1 := aBD w (l.take i) 0
  have h2 := hp a (List.mem_of_getElem? ha)
  have e : (l.take i).length = i := by rw [List.length_take]; omega
  rw [aco hi, aci ha, apM, take_succ ha, aEX, e, Nat.zero_add]
  by_cases h : w.contains (i : Int) = true
  ·rw [if_pos h, if_pos h, ad5, adB (acp (by omega)), adB (acp (by omega)), adB (acp (by simp only [List.length_singleton]; omega)), ack hi (by omega)]
  ·rw [if_neg h, if_neg h, ack hi (by omega)]
   simp only [List.append_nil]
 ·try dsimp only
  unfold amc
  rw [acK, List.take_length]
theorem cut_L2 (looks : List (Int × Int)) (hl : looks.length ≤ 1000) (ids : List Int) (K : List (Int × Bool) → Option ρ) : acl (fun (v51 : (Val (.pair tI (.map tI .bool)))) kk54 => amf looks (acv looks) v51.1 v51.2 (fun u52 u53 => kk54 (u52, u53)) K) ((0 : Int), aCO ids) = K (aCO (ids ++ looks.map fun n => n.1)) := by
 refine ac3 looks (fun i => aCO (ids ++ (looks.take i).map fun n => n.1)) _ (by simp) (fun i a hi ha kn => ?_) (fun kn => ?_)
 ·try dsimp only
  unfold amf
  rw [aco hi, aci ha, ack hi (by omega), take_succ ha, List.map_append, ← List.append_assoc, List.map_singleton, aoJ]
 ·try dsimp only
  unfold amf
  rw [acK, List.take_length]
theorem cut_L1 (xs : List Int) (hl : xs.length ≤ 10000) (ids : List Int) (K : List (Int × Bool) → Option ρ) : acl (fun (v13 : (Val (.pair tI (.map tI .bool)))) kk16 => amg xs (acv xs) v13.1 v13.2 (fun u14 u15 => kk16 (u14, u15)) K) ((0 : Int), aCO ids) = K (aCO (ids ++ xs)) := by
 refine ac3 xs (fun i => aCO (ids ++ xs.take i)) _ (by simp) (fun i a hi ha kn => ?_) (fun kn => ?_)
 ·try dsimp only
  unfold amg
  rw [aco hi, aci ha, ack hi (by omega), take_succ ha, ← List.append_assoc, aoJ]
 ·try dsimp only
  unfold amg
  rw [acK, List.take_length]
end
theorem ais {ρ α : Type} {l : List α} {i : Int} (h0 : 0 ≤ i) {a : α} (h : l[i.toNat]? = some a) (f : α → Option ρ) : adG l i f = f a := by
 obtain ⟨n, rfl⟩ := Int.eq_ofNat_of_zero_le h0
 exact aci (by simpa using h) f
theorem aT2 {b : acz} (hs : ahl b) {ss looks : List (Int × Int)} (h1 : ss.length ≤ 1000) (h2 : looks.length ≤ 1000) (hv : ∀ s ∈ ss, aTH b s) : aBZ b ss looks = some (aCb b ss looks) := by
 have g1 := hs.gauges; have g2 := hs.uses; have g3 := hs.loans; have g4 := hs.compares; have g5 := hs.looks
 unfold aBZ aQB atT
 refine ac3 ss (fun i => (aCO ((ss.take i).flatMap (aoI b)), aCO (aqD (ss.take i)))) _ rfl (fun i s hi ha kn => ?_) (fun kn => ?_)
 ·try dsimp only
  unfold aqk
  have hok := hv s (List.mem_of_getElem? ha)
  rw [aco hi, aci ha, take_succ ha, List.flatMap_append]
  have e3 : aqD (ss.take i ++ [s]) = aqD (ss.take i) ++ if s.1 = 3 then [s.2] else [] := by
   unfold aqD
   rw [List.filter_append, List.map_append]
   congr 1
   by_cases h : s.1 = 3 <;> simp [h]
  rw [e3]
  rcases hok with ⟨hk, h0, h3⟩ | ⟨hk, h0, h3⟩
  ·have hg : b.2.1[s.2.toNat]? = some b.2.1[s.2.toNat] := List.getElem?_eq_getElem (by omega)
   generalize b.2.1[s.2.toNat] = g at hg
   have e1 : aoI b s = [g.1] := by
    unfold aoI
    rw [if_neg (by omega), hg]
   have e2 : List.flatMap (aoI b) [s] = [g.1] := by simp [e1]
   rw [acm (decide_eq_false (by omega)), if_neg (by omega), List.append_nil, e2, aoJ]
   rcases hk with hk | hk
   ·rw [acs (decide_eq_true hk), ais h0 hg, ack hi (by omega)]
   ·rw [acm (decide_eq_false (by omega)), acs (decide_eq_true hk), ais h0 hg, ack hi (by omega)]
  ·have hc : b.2.2.2.2.1[s.2.toNat]? = some b.2.2.2.2.1[s.2.toNat] := List.getElem?_eq_getElem (by omega)
   have hp := hs.piles b.2.2.2.2.1[s.2.toNat] (List.getElem_mem _)
   generalize b.2.2.2.2.1[s.2.toNat] = c at hc hp
   have e1 : aoI b s = c.2.2.1 ++ c.2.2.2.1 := by
    unfold aoI
    rw [if_pos hk, hc]
   have e2 : List.flatMap (aoI b) [s] = c.2.2.1 ++ c.2.2.2.1 := by simp [e1]
   rw [acm (decide_eq_false (by omega)), acm (decide_eq_false (by omega)), acm (decide_eq_false (by omega)), adB (decide_eq_true hk), if_pos hk, e2, ais h0 hc, ais h0 hc, ajZ (by simp) (by simp; omega), ab2]
   rw [show ([c.2.2.1, c.2.2.2.1] : List (List Int)).flatten = c.2.2.1 ++ c.2.2.2.1 by simp]
   refine (cut_L1 (c.2.2.1 ++ c.2.2.2.1) (by simp; omega) _ _).trans ?_
   rw [aoJ, ack hi (by omega)]
 ·try dsimp only
  unfold aqk
  rw [acK]
  dsimp only
  rw [List.take_length]
  refine (cut_L2 looks h2 _ _).trans ?_
  rw [show (ss.flatMap (aoI b) ++ looks.map fun n => n.1) = avs b ss looks from rfl]
  unfold aqv
  try dsimp only
  rw [adB (acp (by omega)), ab2]
  have ek : (List.filter (fun g => (al3 (k := tI) (v := .bool) g.1 (aCO (avs b ss looks))).getD false) b.2.1) = b.2.1.filter fun g => (avs b ss looks).contains g.1 := by
   refine List.filter_congr fun g _ => ?_
   rw [aI3]
   cases (avs b ss looks).contains g.1 <;> rfl
  rw [ek]
  unfold aiV
  dsimp only
  refine (cut_L3 b.2.2.1 g2 _ _).trans ?_
  refine (cut_L4 b.2.2.2.1 g3 _ _).trans ?_
  refine (cut_L5 b.2.2.2.2.1 g4 hs.piles _ _).trans ?_
  rfl
end Go.Proofs.ZzM
end
noncomputable section
namespace Go.Proofs.ZzM
open Go Go.Am
theorem aP0 {α : Type} [DecidableEq α] {l m : List α} (hl : l.length = m.length) (h : aeN (fun i a => if m[i]? = some a then none else some false) 0 l = none) : l = m := by
 have := ait.1 h
 refine List.ext_getElem hl fun i h1 h2 => ?_
 have h3 := this i l[i] (List.getElem?_eq_getElem h1)
 rw [Nat.zero_add] at h3
 split at h3
 ·rename_i h4
  rw [List.getElem?_eq_getElem h2] at h4
  exact (Option.some.inj h4).symm
 ·cases h3
theorem aPZ {α : Type} [DecidableEq α] {l m : List α} {b : Bool} (h : aeN (fun i a => if m[i]? = some a then none else some false) 0 l = some b) : b = false ∧ l ≠ m := by
 constructor
 ·have : ∀ (k : Nat) (x : List α) (b : Bool), aeN (fun i a => if m[i]? = some a then none else some false) k x = some b → b = false := by
   intro k x
   induction x generalizing k with
   | nil => intro b h; cases h
   | cons a t ih =>
     intro b h
     unfold aeN at h
     split at h
     ·rename_i c hc
      split at hc
      ·cases hc
      ·cases hc; cases h; rfl
     ·exact ih _ _ h
  exact this _ _ _ h
 ·intro e
  subst e
  rw [ait.2 fun j a ha => by rw [Nat.zero_add, if_pos ha]] at h
  cases h
end Go.Proofs.ZzM
end
noncomputable section
namespace Go.Proofs.ZzM
open Go Go.Am
instance dec1 : DecidableEq ((Int × Int) × Int) := fun a b => instDecidableEqProd a b
instance dec2 : DecidableEq ((Int × Int) × ((Int × Int) × Int)) := fun a b => instDecidableEqProd a b
instance dec3 : DecidableEq (Int × (Int × Int) × ((Int × Int) × Int)) := fun a b => instDecidableEqProd a b
instance dec4 : DecidableEq (Int × Int × (Int × Int) × ((Int × Int) × Int)) := fun a b => instDecidableEqProd a b
instance decG : DecidableEq acT := fun a b => instDecidableEqProd a b
instance decL : DecidableEq ayi := fun a b => instDecidableEqProd a b
instance decI4 : DecidableEq (Int × (Int × (Int × Int))) := fun a b => instDecidableEqProd a b
instance decI5 : DecidableEq (List Int × Int × (Int × (Int × Int))) := fun a b => instDecidableEqProd a b
instance decI6 : DecidableEq (List Int × List Int × Int × (Int × (Int × Int))) := fun a b => instDecidableEqProd a b
instance decI7 : DecidableEq (Int × List Int × List Int × Int × (Int × (Int × Int))) := fun a b => instDecidableEqProd a b
instance decC : DecidableEq Cmp := fun a b => instDecidableEqProd a b
def aFW {α : Type} [DecidableEq α] (x : α) (l : List α) : Bool := l.any fun a => decide (x = a)
theorem aze {α : Type} [DecidableEq α] {x : α} {l : List α} : aFW x l = true ↔ x ∈ l := by
 unfold aFW
 rw [List.any_eq_true]
 exact ⟨fun ⟨a, h1, h2⟩ => by rw [of_decide_eq_true h2]; exact h1, fun h => ⟨x, h, decide_eq_true rfl⟩⟩
theorem aLG {α : Type} [DecidableEq α] (l : List α) (x : α) : ige (match l.findIdx? (fun a => decide (x = a)) with | some j => (j : Int) | none => -1) 0 = aFW x l := by
 cases h : l.findIdx? (fun a => decide (x = a)) with
 | none =>
   have : aFW x l = false := by
    cases hm : aFW x l with
    | false => rfl
    | true => have := List.findIdx?_eq_none_iff.1 h x (aze.1 hm); simp at this
   rw [this]
   rfl
 | some j =>
   obtain ⟨hj, hp, _⟩ := List.findIdx?_eq_some_iff_getElem.1 h
   have : x ∈ l := by rw [of_decide_eq_true hp]; exact List.getElem_mem _
   rw [aze.2 this]
   exact decide_eq_true (by dsimp only; omega)
theorem aQw {ρ : Type} (o : Option Nat) (f : Int → Option ρ) : (match o with | some j => f (j : Int) | none => f (-1)) = f (match o with | some j => (j : Int) | none => -1) := by cases o <;> rfl
theorem aK2 {l : List (Int × Int)} (hl : l.length ≤ 1000000) (x : Int × Int) : adl l x = some (aFW x l) := by
 unfold adl aeq afa ae6
 have e : acl (fun (v5 : Int) kk7 => adi l (acv l) x.1 x.2 v5 (fun u6 => kk7 u6) (fun z3 => some z3) (fun _ => some (-1 : Int))) (0 : Int) = some (match l.findIdx? (fun a => decide (x = a)) with | some j => (j : Int) | none => -1) := by
  refine (afT l (fun a => decide (x = a)) (fun z => some z) (some (-1)) (fun i a hi ha kn => ?_) (fun kn => ?_)).trans (aQw _ some)
  ·try dsimp only
   unfold adi
   have e : ((adW x.1 a.1) && ((adW x.2 a.2) && true)) = decide (x = a) := by
    rw [Bool.eq_iff_iff]; simp [adW, Prod.ext_iff]
   rw [aco hi, aci ha, ack hi (by omega), adM, e]
  ·try dsimp only
   unfold adi
   rw [acK]
 rw [e, ab2]
 exact congrArg some (aLG l x)
theorem aH5 {l : List ayi} (hl : l.length ≤ 1000000) (x : ayi) : ac6 l x = some (aFW x l) := by
 unfold ac6 ad9 aeG aeE
 have e : acl (fun (v5 : Int) kk7 => ac5 l (acv l) x.1 x.2.1.1 x.2.1.2 x.2.2 v5 (fun u6 => kk7 u6) (fun z3 => some z3) (fun _ => some (-1 : Int))) (0 : Int) = some (match l.findIdx? (fun a => decide (x = a)) with | some j => (j : Int) | none => -1) := by
  refine (afT l (fun a => decide (x = a)) (fun z => some z) (some (-1)) (fun i a hi ha kn => ?_) (fun kn => ?_)).trans (aQw _ some)
  ·try dsimp only
   unfold ac5
   have e : ((adW x.1 a.1) && ((adW x.2.1.1 a.2.1.1) && ((adW x.2.1.2 a.2.1.2) && ((adW x.2.2 a.2.2) && true)))) = decide (x = a) := by
    rw [Bool.eq_iff_iff]; simp [adW, Prod.ext_iff, and_assoc]
   rw [aco hi, aci ha, ack hi (by omega), adM, e]
  ·try dsimp only
   unfold ac5
   rw [acK]
 rw [e, ab2]
 exact congrArg some (aLG l x)
theorem aK3 {l : List acT} (hl : l.length ≤ 1000000) (x : acT) : adp l x = some (aFW x l) := by
 unfold adp adU aem ael
 have e : acl (fun (v5 : Int) kk7 => ac1 l (acv l) x.1 x.2.1 x.2.2.1 x.2.2.2.1.1 x.2.2.2.1.2 x.2.2.2.2.1.1 x.2.2.2.2.1.2 x.2.2.2.2.2 v5 (fun u6 => kk7 u6) (fun z3 => some z3) (fun _ => some (-1 : Int))) (0 : Int) = some (match l.findIdx? (fun a => decide (x = a)) with | some j => (j : Int) | none => -1) := by
  refine (afT l (fun a => decide (x = a)) (fun z => some z) (some (-1)) (fun i a hi ha kn => ?_) (fun kn => ?_)).trans (aQw _ some)
  ·try dsimp only
   unfold ac1
   have e : ((adW x.1 a.1) && ((adW x.2.1 a.2.1) && ((adW x.2.2.1 a.2.2.1) && ((adW x.2.2.2.1.1 a.2.2.2.1.1) && ((adW x.2.2.2.1.2 a.2.2.2.1.2) && ((adW x.2.2.2.2.1.1 a.2.2.2.2.1.1) && ((adW x.2.2.2.2.1.2 a.2.2.2.2.1.2) && ((adW x.2.2.2.2.2 a.2.2.2.2.2) && true)))))))) = decide (x = a) := by
    rw [Bool.eq_iff_iff]; simp [adW, Prod.ext_iff, and_assoc]
   rw [aco hi, aci ha, ack hi (by omega), adM, e]
  ·try dsimp only
   unfold ac1
   rw [acK]
 rw [e, ab2]
 exact congrArg some (aLG l x)
def arJ (b : acz) : List Int := b.2.1.map fun g => g.1
def ahk {α : Type} [DecidableEq α] (x y : List α) (w : α → Bool) : Bool := x.all fun a => !w a || aFW a y
def ayp (s b : acz) : Bool :=
 ahk s.2.2.2.2.1 b.2.2.2.2.1 (fun _ => true) && (decide (s.1 = b.1) && (ahk s.2.1 b.2.1 (fun _ => true) && (ahk s.2.2.1 b.2.2.1 (fun u => (arJ s).contains u.1) && (ahk b.2.2.1 s.2.2.1 (fun u => (arJ s).contains u.1) &&
  (ahk s.2.2.2.1 b.2.2.2.1 (fun u => (arJ s).contains u.1) && ahk b.2.2.2.1 s.2.2.2.1 (fun u => (arJ s).contains u.1))))))
section
variable {ρ : Type}
theorem axe {α : Type} [DecidableEq α] (x y : List α) (w : α → Bool) (X Y KF : Option ρ) {f : Int → (Int → Option ρ) → Option ρ}
 (h : ∀ (i : Nat) (a : α), i < x.length → x[i]? = some a → ∀ kn, f i kn = if !(!w a || aFW a y) then (ifb (!(ige (i : Int) 0)) X KF) else kn ((i : Int) + 1))
 (hn : ∀ kn, f x.length kn = Y) : acl f 0 = if ahk x y w then Y else KF := by
 refine (afL x (fun a => !(!w a || aFW a y)) (fun z => ifb (!(ige z 0)) X KF) KF Y (fun j => by rw [show ige (j : Int) 0 = true from decide_eq_true (by omega)]; rfl) h hn).trans ?_
 unfold ahk
 rw [List.all_eq_not_any_not]
 cases x.any fun a => !(!w a || aFW a y) <;> rfl
theorem aUv : @am3 ρ = @aik ρ := rfl
theorem aET {x y : List Int} (hl : x.length = y.length) (hx : x.length ≤ 1000000) (k0 : Bool → Option ρ) (K : Option ρ) :
 acl (fun (v30 : Int) kk32 => aik x y (acv x) v30 (fun u31 => kk32 u31) k0 (fun _ => K)) (0 : Int) = if x = y then K else k0 false := by
 refine (amw x (fun i a => if y[i]? = some a then none else some false) k0 K (fun i a hi ha kn => ?_) (fun kn => ?_)).trans ?_
 ·try dsimp only
  unfold aik
  have hm : y[i]? = some y[i] := List.getElem?_eq_getElem (by omega)
  rw [aco hi, aci ha, aci hm, ack hi (by omega), hm, adM]
  by_cases h : a = y[i]
  ·simp [ine, h]
  ·have h' : ¬ y[i] = a := fun e => h e.symm
   simp [ine, h, h']
 ·try dsimp only
  unfold aik
  rw [acK]
 ·cases h : aeN (fun i a => if y[i]? = some a then none else some false) 0 x with
  | none => rw [if_pos (aP0 hl h)]
  | some b =>
    obtain ⟨h1, h2⟩ := aPZ h
    rw [if_neg h2, h1]
theorem aP1 {l : List Cmp} (hl : l.length ≤ 1000) (c : Cmp) (hA : c.2.2.1.length ≤ 1000) (hB : c.2.2.2.1.length ≤ 1000) (k0 : Int → Option ρ) (K1 KF : Option ρ) (hk : ∀ j : Nat, k0 (j : Int) = K1) :
 acl (fun (v41 : Int) kk43 => ake l (acv l) c.1 c.2.1 c.2.2.1 c.2.2.2.1 c.2.2.2.2.1 c.2.2.2.2.2.1 c.2.2.2.2.2.2.1 c.2.2.2.2.2.2.2 v41 (fun u42 => kk43 u42) k0 (fun _ => KF)) (0 : Int) = if aFW c l then K1 else KF := by
 refine (afL l (fun d => decide (c = d)) k0 K1 KF hk (fun i d hi hd kn => ?_) (fun kn => ?_)).trans rfl
 ·try dsimp only
  unfold ake
  have hsplit : (c = d) ↔ (c.1 = d.1 ∧ c.2.1 = d.2.1 ∧ c.2.2.2.2.1 = d.2.2.2.2.1 ∧ c.2.2.2.2.2.1 = d.2.2.2.2.2.1 ∧ (c.2.2.2.2.2.2.1 = d.2.2.2.2.2.2.1 ∧ c.2.2.2.2.2.2.2 = d.2.2.2.2.2.2.2) ∧ c.2.2.1 = d.2.2.1 ∧ c.2.2.2.1 = d.2.2.2.1) := by
   simp only [Prod.ext_iff]
   constructor
   ·rintro ⟨a1, a2, a3, a4, a5, a6, a7, a8⟩; exact ⟨a1, a2, a5, a6, ⟨a7, a8⟩, a3, a4⟩
   ·rintro ⟨a1, a2, a5, a6, ⟨a7, a8⟩, a3, a4⟩; exact ⟨a1, a2, a3, a4, a5, a6, a7, a8⟩
  have hno : ∀ {P : Prop}, ¬ P → (c = d → P) → (if decide (c = d) = true then k0 (i : Int) else kn ((i : Int) + 1)) = kn ((i : Int) + 1) := fun h1 h2 => by
   rw [if_neg]
   intro h
   exact h1 (h2 (of_decide_eq_true h))
  rw [aco hi, aci hd, ack hi (by omega)]
  by_cases a1 : c.1 = d.1
  case neg => rw [hno a1 (fun e => (hsplit.1 e).1), acm (beq_eq_false_iff_ne.2 a1)]
  rw [acs (beq_iff_eq.2 a1)]
  by_cases a2 : c.2.1 = d.2.1
  case neg => rw [hno a2 (fun e => (hsplit.1 e).2.1), acm (beq_eq_false_iff_ne.2 a2)]
  rw [acs (beq_iff_eq.2 a2)]
  by_cases a3 : c.2.2.2.2.1 = d.2.2.2.2.1
  case neg => rw [hno a3 (fun e => (hsplit.1 e).2.2.1), acm (beq_eq_false_iff_ne.2 a3)]
  rw [acs (beq_iff_eq.2 a3)]
  by_cases a4 : c.2.2.2.2.2.1 = d.2.2.2.2.2.1
  case neg => rw [hno a4 (fun e => (hsplit.1 e).2.2.2.1), acm (beq_eq_false_iff_ne.2 a4)]
  rw [acs (beq_iff_eq.2 a4)]
  by_cases a5 : c.2.2.2.2.2.2.1 = d.2.2.2.2.2.2.1 ∧ c.2.2.2.2.2.2.2 = d.2.2.2.2.2.2.2
  case neg => rw [hno a5 (fun e => (hsplit.1 e).2.2.2.2.1), acm (by simp only [adW, Bool.and_true, Bool.and_eq_false_iff, decide_eq_false_iff_not]; exact Decidable.not_and_iff_or_not.1 a5)]
  rw [acs (by simp [adW, a5.1, a5.2]), acB, acB, acB, acB]
  have rest : ∀ X Y : Option ρ, (c.2.2.1 = d.2.2.1) → (if decide (c = d) = true then k0 (i : Int) else kn ((i : Int) + 1)) = (if c.2.2.2.1 = d.2.2.2.1 then k0 (i : Int) else kn ((i : Int) + 1)) := by
   intro _ _ h
   by_cases g : c.2.2.2.1 = d.2.2.2.1
   ·rw [if_pos (decide_eq_true (hsplit.2 ⟨a1, a2, a3, a4, a5, h, g⟩)), if_pos g]
   ·rw [if_neg g]; exact hno g (fun e => (hsplit.1 e).2.2.2.2.2.2)
  by_cases l1 : c.2.2.1.length = d.2.2.1.length
  case neg =>
   rw [hno l1 (fun e => by rw [e]), acs (bne_iff_ne.2 (by omega))]
  rw [acm (by rw [l1]; exact bne_self_eq_false' _)]
  have e3 := aET (ρ := ρ) l1 (by omega)
  rw [acB] at e3
  rw [e3]
  by_cases g1 : c.2.2.1 = d.2.2.1
  case neg => rw [if_neg g1, acM, hno g1 (fun e => (hsplit.1 e).2.2.2.2.2.1)]
  rw [if_pos g1, rest none none g1]
  by_cases l2 : c.2.2.2.1.length = d.2.2.2.1.length
  case neg =>
   rw [acs (bne_iff_ne.2 (by omega)), if_neg (fun e => l2 (by rw [e]))]
  rw [acm (by rw [l2]; exact bne_self_eq_false' _), aUv]
  have e4 := aET (ρ := ρ) l2 (by omega)
  rw [acB] at e4
  rw [e4, acM]
 ·try dsimp only
  unfold ake
  rw [acK]
theorem aUu : @aij ρ = @ag6 ρ := rfl
theorem aUt : @adf ρ = @adL ρ := rfl
theorem aU7 {x y : List acT} (hx : x.length ≤ 1000) (hy : y.length ≤ 1000) (X Y KF : Option ρ) : acl (fun (v225 : Int) kk227 => akd x (acv x) y v225 (fun u226 => kk227 u226) (fun z => ifb (!(ige z 0)) X KF) (fun _ => Y)) (0 : Int) = if ahk x y (fun _ => true) then Y else KF := by
 refine axe x y (fun _ => true) X Y KF (fun i a hi ha kn => ?_) (fun kn => ?_)
 ·try dsimp only
  unfold akd
  rw [aco hi, aci ha, aK3 (by omega), ab2, ack hi (by omega), adM]
  simp
 ·try dsimp only
  unfold akd
  rw [acK]
theorem aR3 {x y : List (Int × Int)} (hx : x.length ≤ 1000) (hy : y.length ≤ 1000) (ids : List Int) (X Y KF : Option ρ) : acl (fun (v225 : Int) kk227 => ag6 x (acv x) (aCO ids) y v225 (fun u226 => kk227 u226) (fun z => ifb (!(ige z 0)) X KF) (fun _ => Y)) (0 : Int) = if ahk x y (fun u => ids.contains u.1) then Y else KF := by
 refine axe x y (fun u => ids.contains u.1) X Y KF (fun i a hi ha kn => ?_) (fun kn => ?_)
 ·try dsimp only
  unfold ag6
  rw [aco hi, aci ha, apM, aK2 (by omega), ab2]
  by_cases h : ids.contains a.1 = true
  ·rw [if_pos h, ad5, ack hi (by omega), adM, h]
   simp
  ·rw [if_neg h, ack hi (by omega)]
   have h' := Bool.not_eq_true _ ▸ h
   rw [h']
   simp
 ·try dsimp only
  unfold ag6
  rw [acK]
theorem aR2 {x y : List ayi} (hx : x.length ≤ 1000) (hy : y.length ≤ 1000) (ids : List Int) (X Y KF : Option ρ) : acl (fun (v225 : Int) kk227 => adL x (acv x) (aCO ids) y v225 (fun u226 => kk227 u226) (fun z => ifb (!(ige z 0)) X KF) (fun _ => Y)) (0 : Int) = if ahk x y (fun u => ids.contains u.1) then Y else KF := by
 refine axe x y (fun u => ids.contains u.1) X Y KF (fun i a hi ha kn => ?_) (fun kn => ?_)
 ·try dsimp only
  unfold adL
  rw [aco hi, aci ha, apM, aH5 (by omega), ab2]
  by_cases h : ids.contains a.1 = true
  ·rw [if_pos h, ad5, ack hi (by omega), adM, h]
   simp
  ·rw [if_neg h, ack hi (by omega)]
   have h' := Bool.not_eq_true _ ▸ h
   rw [h']
   simp
 ·try dsimp only
  unfold adL
  rw [acK]
theorem aU6 {x y : List ayi} (hx : x.length ≤ 1000) (hy : y.length ≤ 1000) (ids : List Int) (k : Bool → Option ρ) : acl (fun (v225 : Int) kk227 => adL x (acv x) (aCO ids) y v225 (fun u226 => kk227 u226) (fun z => k (!(ige z 0))) (fun _ => k true)) (0 : Int) = k (ahk x y (fun u => ids.contains u.1)) := by
 have h := aR2 (ρ := ρ) hx hy ids (k true) (k true) (k false)
 have e : (fun z : Int => ifb (!(ige z 0)) (k true) (k false)) = fun z => k (!(ige z 0)) := by
  funext z
  cases (!(ige z 0)) <;> rfl
 rw [e] at h
 rw [h]
 cases ahk x y (fun u => ids.contains u.1) <;> rfl
theorem aU8 {x y : List Cmp} (hx : x.length ≤ 1000) (hp : ∀ c ∈ x, c.2.2.1.length ≤ 1000 ∧ c.2.2.2.1.length ≤ 1000) (hy : y.length ≤ 1000) (K : Option Bool) : acl (fun (v228 : Int) kk230 => akf x (acv x) y v228 (fun u229 => kk230 u229) (fun z44 => some z44) (fun _ => K)) (0 : Int) = if (x.all fun c => aFW c y) = true then K else some false := by
 refine (afL x (fun c => !aFW c y) (fun _ => some false) (some false) K (fun _ => rfl) (fun i c hi hc kn => ?_) (fun kn => ?_)).trans ?_
 rotate_left
 ·try dsimp only
  unfold akf
  rw [acK]
 ·rw [List.all_eq_not_any_not]
  cases x.any fun c => !aFW c y <;> rfl
 ·try dsimp only
  unfold akf
  have h := hp c (List.mem_of_getElem? hc)
  rw [aco hi, aci hc]
  refine (aP1 hy c h.1 h.2 _ (kn ((i : Int) + 1)) (some false) (fun j => by rw [show ige (j : Int) 0 = true from decide_eq_true (by omega), ack hi (by omega)]; rfl)).trans ?_
  cases aFW c y <;> rfl
end
theorem part_ok {s b : acz} (hs : ahl s) (hb : ahl b) : avj s b = some (ayp s b) := by
 have g1 := hs.gauges; have g2 := hs.uses; have g3 := hs.loans; have g4 := hs.compares
 have b1 := hb.gauges; have b2 := hb.uses; have b3 := hb.loans; have b4 := hb.compares
 unfold avj aGd ayp
 rw [aUu, aUt]
 refine (ac3 s.2.1 (fun i => aCO (arJ (s.1, s.2.1.take i, s.2.2))) (some _) rfl (fun i g hi hg kn => ?_) (fun kn => ?_))
 ·try dsimp only
  unfold am4
  rw [aco hi, aci hg, ack hi (by omega)]
  unfold arJ
  dsimp only
  rw [take_succ hg, List.map_append, List.map_singleton, aoJ]
 ·try dsimp only
  unfold am4
  rw [acK, List.take_length]
  try dsimp only
  rw [show arJ (s.1, s.2.1, s.2.2) = arJ s from rfl]
  refine (aU8 g4 hs.piles b4 _).trans ?_
  rw [show (ahk s.2.2.2.2.1 b.2.2.2.2.1 fun _ => true) = s.2.2.2.2.1.all fun c => aFW c b.2.2.2.2.1 from rfl]
  by_cases hc : (s.2.2.2.2.1.all fun c => aFW c b.2.2.2.2.1) = true
  case neg => rw [if_neg hc, Bool.eq_false_iff.2 hc]; rfl
  rw [if_pos hc, hc, Bool.true_and]
  by_cases hf : s.1 = b.1
  case neg =>
   have ef : (adW s.1.1 b.1.1 && (adW s.1.2 b.1.2 && true)) = false := by
    rw [Prod.ext_iff] at hf
    simp [adW]
    omega
   rw [ef, acM, decide_eq_false hf]
   rfl
  have ef : (adW s.1.1 b.1.1 && (adW s.1.2 b.1.2 && true)) = true := by simp [adW, hf]
  rw [ef, ad5, decide_eq_true hf, Bool.true_and]
  refine (aU7 g1 b1 _ _ _).trans ?_
  cases ahk s.2.1 b.2.1 fun _ => true
  case false => rfl
  rw [if_pos rfl, Bool.true_and]
  refine (aR3 g2 b2 _ _ _ _).trans ?_
  cases ahk s.2.2.1 b.2.2.1 fun u => (arJ s).contains u.1
  case false => rfl
  rw [if_pos rfl, Bool.true_and]
  refine (aR3 b2 g2 _ _ _ _).trans ?_
  cases ahk b.2.2.1 s.2.2.1 fun u => (arJ s).contains u.1
  case false => rfl
  rw [if_pos rfl, Bool.true_and]
  refine (aR2 g3 b3 _ _ _ _).trans ?_
  cases ahk s.2.2.2.1 b.2.2.2.1 fun u => (arJ s).contains u.1
  case false => rfl
  rw [if_pos rfl, Bool.true_and]
  exact aU6 b3 g3 _ some
end Go.Proofs.ZzM
end
noncomputable section
namespace Go.Proofs.ZzM
open Go Go.Am
def agk (x : List Int) (y : List Int) (l : Lk) : List Int := if gv x l.2.1 = ad0 then y else y.set l.1.toNat (min (gv y l.1) (l.2.2 + gv x l.2.1))
def aFd (L : List Lk) (N : Nat) (x : List Int) : List Int := L.foldl (agk x) (List.replicate N ad0)
def exL (L : List Lk) (N : Nat) (to : Int) : Nat → List Int
 | 0 => (List.replicate N ad0).set to.toNat 0
 | k + 1 => aFd L N (exL L N to k)
def afV (L : List Lk) (N : Nat) (to : Int) (most : Nat) : List (List Int) := (List.range (most + 1)).map (exL L N to)
section
variable {L : List Lk} {N : Nat}
theorem awY (x y : List Int) (l : Lk) : (agk x y l).length = y.length := by unfold agk; split <;> simp
theorem awZ (x : List Int) : ∀ (M : List Lk) (y : List Int), (M.foldl (agk x) y).length = y.length
 | [], y => rfl
 | l :: M, y => by rw [List.foldl_cons, awZ x M, awY]
theorem aO0 (x : List Int) : (aFd L N x).length = N := by unfold aFd; rw [awZ]; simp
theorem aB4 (to : Int) (k : Nat) : (exL L N to k).length = N := by
 cases k with
 | zero => simp [exL]
 | succ k => exact aO0 _
def Lim (B : Int) (x : List Int) : Prop := ∀ v : Int, gv x v ≠ ad0 → -B ≤ gv x v ∧ gv x v ≤ B
theorem gv_out {x : List Int} {v : Int} (h : ¬ v.toNat < x.length) : gv x v = 0 := by
 unfold gv
 rw [List.getElem?_eq_none (by omega)]
 rfl
theorem aBz {B : Int} (hB : 0 ≤ B) : Lim B (List.replicate N ad0) := by
 intro v hv
 by_cases h : v.toNat < N
 ·exfalso; apply hv
  unfold gv
  rw [List.getElem?_replicate, if_pos h]
  rfl
 ·rw [gv_out (by simpa using h)]; omega
theorem aQQ {B : Int} {y : List Int} (hy : Lim B y) {u : Int} (hu : 0 ≤ u) (hl : u.toNat < y.length) {a : Int} (ha : a ≠ ad0 → -B ≤ a ∧ a ≤ B) : Lim B (y.set u.toNat a) := by
 intro v hv
 by_cases h : v.toNat = u.toNat
 ·have : gv (y.set u.toNat a) v = a := by
   unfold gv
   rw [h, List.getElem?_set_self hl]
   rfl
  rw [this] at hv ⊢
  exact ha hv
 ·have : gv (y.set u.toNat a) v = gv y v := by
   unfold gv
   rw [List.getElem?_set_ne (fun e => h e.symm)]
  rw [this] at hv ⊢
  exact hy v hv
theorem aNw (hS : aep L N) {B : Int} (hB : 0 ≤ B) (hB2 : B ≤ 1000000000000000000) {x y : List Int} (hx : Lim B x) (hy : Lim (B + 4503599627370496) y) (hl : y.length = N) {l : Lk} (hm : l ∈ L) : Lim (B + 4503599627370496) (agk x y l) := by
 unfold agk
 split
 ·exact hy
 ·rename_i hf
  have h1 := hS.inr l hm
  have h2 := hS.most l hm
  have h3 := hx _ hf
  refine aQQ hy h1.1.1 (by omega) fun ha => ?_
  by_cases h4 : gv y l.1 = ad0
  ·rw [h4] at ha ⊢
   have : min ad0 (l.2.2 + gv x l.2.1) = l.2.2 + gv x l.2.1 := by unfold ad0; omega
   rw [this]; omega
  ·have := hy _ h4
   omega
theorem aNx (hS : aep L N) {B : Int} (hB : 0 ≤ B) (hB2 : B ≤ 1000000000000000000) {x : List Int} (hx : Lim B x) : ∀ (M : List Lk), (∀ l ∈ M, l ∈ L) → ∀ y : List Int, y.length = N → Lim (B + 4503599627370496) y → Lim (B + 4503599627370496) (M.foldl (agk x) y)
 | [], _, y, _, hy => hy
 | l :: M, hM, y, hl, hy => by
   rw [List.foldl_cons]
   exact aNx hS hB hB2 hx M (fun m hm => hM m (by simp [hm])) _ (by rw [awY, hl]) (aNw hS hB hB2 hx hy hl (hM l (by simp)))
theorem apL (hS : aep L N) {to : Int} (ht : 0 ≤ to ∧ to < N) : ∀ k : Nat, k ≤ 200 → Lim (k * 4503599627370496) (exL L N to k)
 | 0, _ => by
   unfold exL
   exact aQQ (aBz (by omega)) ht.1 (by simp; omega) (fun _ => by omega)
 | k + 1, hk => by
   have := aNx hS (B := k * 4503599627370496) (by omega) (by omega) (apL hS ht k (by omega)) L (fun _ h => h) (List.replicate N ad0) (by simp) (aBz (by omega))
   unfold exL aFd
   have e : (((k + 1 : Nat) : Int) * 4503599627370496) = (k : Int) * 4503599627370496 + 4503599627370496 := by push_cast; omega
   rw [e]
   exact this
theorem aKx {ρ : Type} (hN : N ≤ 1000) (K : List Int → Option ρ) {f : Int × List Int → (Int × List Int → Option ρ) → Option ρ}
 (hf : ∀ (v : Int × List Int) kk, f v kk = aqm (N : Int) v.1 v.2 (fun u34 u35 => kk (u34, u35)) K) : acl f ((0 : Int), List.replicate N (0 : Int)) = K (List.replicate N ad0) := by
 refine ac3 (List.replicate N (0 : Int)) (fun i => List.replicate i ad0 ++ List.replicate (N - i) (0 : Int)) _ (by simp) (fun i a hi ha kn => ?_) (fun kn => ?_)
 ·rw [hf]
  dsimp only
  unfold aqm
  rw [List.length_replicate] at hi
  have hlen : (List.replicate i ad0 ++ List.replicate (N - i) (0 : Int)).length = N := by simp; omega
  have e1 : ilt (i : Int) (N : Int) = true := decide_eq_true (by omega)
  rw [acs e1, show adx (List.replicate i ad0 ++ List.replicate (N - i) (0 : Int)) = (N : Int) by unfold adx; rw [hlen], aeQ (by omega) (by omega), ag1 (by rw [hlen]; omega), acq (by omega) (by omega)]
  congr 2
  rw [Int.toNat_natCast]
  rw [List.set_append_right _ _ (by simp), List.length_replicate, Nat.sub_self]
  rw [show N - i = (N - (i + 1)) + 1 by omega, List.replicate_succ, List.set_cons_zero, List.replicate_succ']
  simp
 ·rw [hf]
  dsimp only
  unfold aqm
  rw [List.length_replicate]
  have e1 : ilt (N : Int) (N : Int) = false := decide_eq_false (by omega)
  rw [acm e1]
  simp
theorem okN (hN : N ≤ 1000) {ρ : Type} (x : Option ρ) : acU ((ile (0 : Int) (N : Int)) && (acO (Int.toNat (N : Int)))) x = x := by
 rw [adB]
 rw [Int.toNat_natCast, acp (by omega), Bool.and_true]
 exact decide_eq_true (by omega)
theorem aQP {ρ : Type} (hS : aep L N) {B : Int} (hB : 0 ≤ B) (hB2 : B ≤ 1000000000000000000) {x : List Int} (hx : Lim B x) (hxl : x.length = N) (K : List Int → Option ρ) :
 acl (fun (v20 : (Val (.pair tI (.slice tI)))) kk23 => auj x L (acv L) v20.1 v20.2 (fun u21 u22 => kk23 (u21, u22)) K) ((0 : Int), List.replicate N ad0) = K (aFd L N x) := by
 have hl3 := hS.len
 refine ac3 L (fun i => (L.take i).foldl (agk x) (List.replicate N ad0)) _ rfl (fun i l hi hl kn => ?_) (fun kn => ?_)
 ·try dsimp only
  unfold auj
  have hm := List.mem_of_getElem? hl
  have h1 := hS.inr l hm
  have h2 := hS.most l hm
  rw [aco hi, aci hl, ahK h1.2.1 (by omega), take_succ hl, List.foldl_append, ack hi (by omega)]
  have hlen : ((L.take i).foldl (agk x) (List.replicate N ad0)).length = N := by rw [awZ]; simp
  generalize (L.take i).foldl (agk x) (List.replicate N ad0) = y at hlen ⊢
  by_cases hf : gv x l.2.1 = ad0
  ·rw [acm (by rw [hf]; rfl)]
   simp only [List.foldl_cons, List.foldl_nil]
   unfold agk
   rw [if_pos hf]
  ·have h3 := hx _ hf
   rw [acs (bne_iff_ne.2 hf), show adx y = (N : Int) by unfold adx; rw [hlen], aeQ h1.1.1 h1.1.2, ag1 (by omega), ahK h1.2.1 (by omega), acq (by omega) (by omega), aeQ h1.1.1 h1.1.2, ag1 (by omega), ack hi (by omega)]
   simp only [List.foldl_cons, List.foldl_nil]
   unfold agk
   rw [if_neg hf, aBJ]
 ·try dsimp only
  unfold auj
  rw [acK, List.take_length]
  rfl
theorem aS8 {ρ : Type} : @aGy ρ = @aqm ρ := rfl
theorem ahi (to : Int) (m : Nat) : (afV L N to m).length = m + 1 := by simp [afV]
theorem amJ {to : Int} {m k : Nat} (hk : k ≤ m) : (afV L N to m)[k]? = some (exL L N to k) := by
 unfold afV
 rw [List.getElem?_map, List.getElem?_range (by omega)]
 rfl
theorem aNL (hS : aep L N) {to : Int} (ht : 0 ≤ to ∧ to < N) {most : Nat} (hm : most ≤ 100) : apT ((N : Int), L) to (most : Int) = some (afV L N to most) := by
 have hN := hS.n60
 unfold apT aAz
 dsimp only
 rw [okN (by omega), Int.toNat_natCast]
 refine (aKx (by omega) _ (fun v kk => by rw [acB, List.length_replicate])).trans ?_
 rw [show adx (List.replicate N ad0) = (N : Int) by simp [adx], aeQ ht.1 ht.2, ag1 (by simp; omega)]
 refine ac3 (List.replicate most ()) (fun i => afV L N to i) _ (by simp [afV, exL]) (fun i a hi ha kn => ?_) (fun kn => ?_)
 ·try dsimp only
  unfold azh
  rw [List.length_replicate] at hi
  have e1 : ilt (i : Int) (most : Int) = true := decide_eq_true (by omega)
  rw [acs e1, acB, ahi]
  have e2 : (((i + 1 : Nat) : Int) - 1) = (i : Int) := by omega
  rw [e2, acq (by omega) (by omega), show adx (afV L N to i) = ((i + 1 : Nat) : Int) by unfold adx; rw [ahi], aeQ (by omega) (by omega), Int.toNat_natCast, agT (amJ (Nat.le_refl i)), okN (by omega), Int.toNat_natCast]
  rw [aS8]
  refine (aKx (by omega) _ (fun v kk => by rw [acB, List.length_replicate])).trans ?_
  refine (aQP hS (B := i * 4503599627370496) (by omega) (by omega) (apL hS ht i (by omega)) (aB4 _ _) _).trans ?_
  rw [adB (acp (by simp only [ahi, List.length_singleton]; omega)), acq (by omega) (by omega)]
  congr 2
  unfold afV
  rw [List.range_succ (n := i + 1), List.map_append]
  rfl
 ·try dsimp only
  unfold azh
  rw [List.length_replicate]
  have e1 : ilt (most : Int) (most : Int) = false := decide_eq_false (by omega)
  rw [acm e1]
def az3 (L : List Lk) (x : List Int) (good : Int → Bool) (u sum : Int) : Option Nat := L.findIdx? fun l => l.1 == u && (decide (gv x l.2.1 ≠ ad0) && good (sum + l.2.2 + gv x l.2.1))
def agh (L : List Lk) (rest : Nat → List Int) (good : Int → Bool) : Nat → Int → Int → List Int → List Int
 | 0, _, _, out => out
 | k + 1, u, sum, out => match az3 L (rest k) good u sum with
   | some i => agh L rest good k (L[i]?.getD (0, 0, 0)).2.1 (sum + (L[i]?.getD (0, 0, 0)).2.2) (out ++ [(i : Int)])
   | none => agh L rest good k u sum out
def folL {ρ : Type} (good : Int → Bool) (c0 : Int) (c1 : List (List Int)) (c2 : List Lk) (c3 : Int) (v0 : Int) (v1 : Int) (v2 : Int) (v3 : List Int) (kn : Int → Int → Int → List Int → Option ρ) (k0 : Int × Int × List Int → Option ρ) : Option ρ :=
 ifb (ilt v2 c3) (adG c2 v2 fun e7 => ifb (ieq e7.1 v0) (ck (c0 - (1 : Int)) fun n8 => adG c1 n8 fun e9 => adG e9 e7.2.1 fun e10 => ifb (ine e10 (1152921504606846976 : Int)) (ck (v1 + e7.2.2) fun n11 => ck (c0 - (1 : Int)) fun n12 => adG c1 n12 fun e13 => adG e13 e7.2.1 fun e14 => ck (n11 + e14) fun n15 => ifb (good n15) (acU (acO ((List.length v3) + (List.length ([v2])))) (ck (v1 + e7.2.2) fun n16 => k0 (e7.2.1, n16, (v3 ++ ([v2]))))) (ck (v2 + (1 : Int)) fun n17 => kn v0 v1 n17 v3)) (ck (v2 + (1 : Int)) fun n18 => kn v0 v1 n18 v3)) (ck (v2 + (1 : Int)) fun n19 => kn v0 v1 n19 v3)) (k0 (v0, v1, v3))
theorem aUK {ρ : Type} (hS : aep L N) (good : Int → Bool) {rest : List (List Int)} {k : Nat} {x : List Int} (hr : rest[k]? = some x) (hk : k ≤ 100) (hx : Lim 1000000000000000000 x) (hxl : x.length = N) {u sum : Int} (hs : -1000000000000000000 ≤ sum ∧ sum ≤ 1000000000000000000) {out : List Int} (ho : out.length ≤ 1000)
 (K : Int × Int × List Int → Option ρ) : acl (fun (v : Int × Int × Int × List Int) kk => folL good ((k + 1 : Nat) : Int) rest L (acv L) v.1 v.2.1 v.2.2.1 v.2.2.2 (fun a b c d => kk (a, b, c, d)) K) (u, sum, (0 : Int), out) =
  match az3 L x good u sum with | some i => K ((L[i]?.getD (0, 0, 0)).2.1, sum + (L[i]?.getD (0, 0, 0)).2.2, out ++ [(i : Int)]) | none => K (u, sum, out) := by
 have hl3 := hS.len
 refine afn (fun v => ∃ i : Nat, i ≤ L.length ∧ v = (u, sum, (i : Int), out) ∧ ∀ j l, j < i → L[j]? = some l → (l.1 == u && (decide (gv x l.2.1 ≠ ad0) && good (sum + l.2.2 + gv x l.2.1))) = false) (fun v => L.length - v.2.2.1.toNat) ?_ ⟨0, by omega, rfl, fun j l h => by omega⟩
 rintro v ⟨i, hi, rfl, hp⟩
 have e0 : (((k + 1 : Nat) : Int) - 1) = (k : Int) := by omega
 rcases Nat.lt_or_ge i L.length with h2 | h2
 ·have hl : L[i]? = some L[i] := List.getElem?_eq_getElem h2
  generalize L[i] = l at hl
  have hm := List.mem_of_getElem? hl
  have h1 := hS.inr l hm
  have h4 := hS.most l hm
  have hstep : (l.1 == u && (decide (gv x l.2.1 ≠ ad0) && good (sum + l.2.2 + gv x l.2.1))) = false → ∃ y, (∃ i : Nat, i ≤ L.length ∧ y = (u, sum, (i : Int), out) ∧ ∀ j l, j < i → L[j]? = some l → (l.1 == u && (decide (gv x l.2.1 ≠ ad0) && good (sum + l.2.2 + gv x l.2.1))) = false) ∧ (L.length - y.2.2.1.toNat < L.length - ((u, sum, (i : Int), out) : Int × Int × Int × List Int).2.2.1.toNat) ∧ y = (u, sum, (i : Int) + 1, out) := fun hf =>
   ⟨_, ⟨i + 1, h2, by rw [show ((i + 1 : Nat) : Int) = (i : Int) + 1 by push_cast; rfl], fun j m hj hm => by
    rcases Nat.lt_succ_iff_lt_or_eq.1 hj with h | rfl
    ·exact hp j m h hm
    ·rw [hl] at hm; cases hm; exact hf⟩, by simp; omega, rfl⟩
  by_cases hf : (l.1 == u && (decide (gv x l.2.1 ≠ ad0) && good (sum + l.2.2 + gv x l.2.1))) = true
  ·refine .inl fun kn => ?_
   have hfi : az3 L x good u sum = some i := by
    unfold az3
    rw [List.findIdx?_eq_some_iff_getElem]
    obtain ⟨hh, rfl⟩ := List.getElem?_eq_some_iff.1 hl
    exact ⟨h2, hf, fun j hj => by have := hp j _ hj (List.getElem?_eq_getElem (by omega)); rw [this]; simp⟩
   rw [hfi]
   simp only [Bool.and_eq_true, beq_iff_eq, decide_eq_true_eq] at hf
   have h5 := hx _ hf.2.1
   dsimp only
   unfold folL
   rw [aco h2, aci hl, acs (by simp [hf.1]), e0, acq (by omega) (by omega), aci hr, ahK h1.2.1 (by omega), acs (bne_iff_ne.2 hf.2.1), acq (by omega) (by omega), acq (by omega) (by omega), aci hr, ahK h1.2.1 (by omega), acq (by omega) (by omega), acs hf.2.2,
    adB (acp (by simp; omega)), acq (by omega) (by omega), hl]
   rfl
  ·have hf' := Bool.not_eq_true _ ▸ hf
   obtain ⟨y, hy1, hy2, rfl⟩ := hstep hf'
   refine .inr ⟨_, hy1, hy2, fun kn => ?_⟩
   dsimp only
   unfold folL
   rw [aco h2, aci hl, ack h2 (by omega)]
   by_cases g1 : l.1 = u
   ·rw [acs (by simp [g1]), e0, acq (by omega) (by omega), aci hr, ahK h1.2.1 (by omega)]
    by_cases g2 : gv x l.2.1 = ad0
    ·rw [acm (by rw [g2]; rfl)]
    ·have h5 := hx _ g2
     have g3 : good (sum + l.2.2 + gv x l.2.1) = false := by simpa [g1, g2] using hf'
     rw [acs (bne_iff_ne.2 g2), acq (by omega) (by omega), acq (by omega) (by omega), aci hr, ahK h1.2.1 (by omega), acq (by omega) (by omega), acm g3]
   ·rw [acm (by simpa using g1)]
 ·refine .inl fun kn => ?_
  obtain rfl : i = L.length := by omega
  have hfi : az3 L x good u sum = none := by
   unfold az3
   rw [List.findIdx?_eq_none_iff]
   intro l hl
   obtain ⟨j, hj, rfl⟩ := List.mem_iff_getElem.1 hl
   exact hp j _ hj (List.getElem?_eq_getElem hj)
  rw [hfi]
  dsimp only
  unfold folL
  rw [acK]
def aTZ {ρ : Type} (good : Int → Bool) (c0 : List (List Int)) (c6 : List Lk) (v0 : Int) (v1 : Int) (v2 : Int) (v3 : List Int) (kn : Int → Int → Int → List Int → Option ρ) (k0 : List Int → Option ρ) : Option ρ :=
 ifb (igt v1 (0 : Int)) (acl (fun (v22 : Int × Int × Int × List Int) kk27 => folL good v1 c0 c6 (acv c6) v22.1 v22.2.1 v22.2.2.1 v22.2.2.2 (fun u23 u24 u25 u26 => kk27 (u23, u24, u25, u26)) (fun z20 => ck (v1 - (1 : Int)) fun n21 => kn z20.1 n21 z20.2.1 z20.2.2)) (v0, v2, (0 : Int), v3)) (k0 v3)
theorem aTq {ρ : Type} (c0 : List (List Int)) (c4 : Int) (c6 : List Lk) : @ak7 ρ c0 c4 c6 = aTZ (fun n => ieq n c4) c0 c6 := rfl
theorem aQ7 {ρ : Type} (hS : aep L N) (good : Int → Bool) {rest : List (List Int)} {R : Nat → List Int} {k0 : Nat} (hk : k0 ≤ 100) (hr : ∀ k, k < k0 → rest[k]? = some (R k)) (hx : ∀ k, k < k0 → Lim 900000000000000000 (R k) ∧ (R k).length = N) (u : Int) (K : List Int → Option ρ) :
 acl (fun (v : Int × Int × Int × List Int) kk => aTZ good rest L v.1 v.2.1 v.2.2.1 v.2.2.2 (fun a b c d => kk (a, b, c, d)) K) (u, (k0 : Int), (0 : Int), []) = K (agh L R good k0 u 0 []) := by
 have key := amx (f := fun (v : Int × Int × Int × List Int) kk => aTZ good rest L v.1 v.2.1 v.2.2.1 v.2.2.2 (fun a b c d => kk (a, b, c, d)) K) (F := fun v => K (agh L R good v.2.1.toNat v.1 v.2.2.1 v.2.2.2))
  (fun v => ∃ k : Nat, v.2.1 = k ∧ k ≤ k0 ∧ (-(((k0 - k : Nat) : Int) * 4503599627370496) ≤ v.2.2.1 ∧ v.2.2.1 ≤ ((k0 - k : Nat) : Int) * 4503599627370496) ∧ v.2.2.2.length ≤ k0 - k) (fun v => v.2.1.toNat) (fun v hv kn hk => ?_) (x := (u, (k0 : Int), 0, [])) ⟨k0, rfl, Nat.le_refl _, by simp, by simp⟩
 ·rw [key]; simp
 ·obtain ⟨u, k', sum, out⟩ := v
  obtain ⟨k, e, h1, h2, h3⟩ := hv
  dsimp only at e h2 h3 hk ⊢
  subst e
  rw [Int.toNat_natCast] at hk ⊢
  unfold aTZ
  cases k with
  | zero =>
    rw [acm (by rfl)]
    rfl
  | succ k =>
    rw [acs (decide_eq_true (by omega))]
    have hh := hx k (by omega)
    have hlim : Lim 1000000000000000000 (R k) := fun v hv => by have := hh.1 v hv; omega
    refine (aUK hS good (hr k (by omega)) (by omega) hlim hh.2 (by omega) (by omega) _).trans ?_
    unfold agh
    have e0 : (((k + 1 : Nat) : Int) - 1) = (k : Int) := by omega
    cases hn : az3 L (R k) good u sum with
    | none =>
      dsimp only
      rw [e0, acq (by omega) (by omega), hk _ ⟨k, rfl, by omega, by dsimp only; omega, by dsimp only; omega⟩ (by simp)]
      simp
    | some i =>
      have hi : i < L.length := by
       unfold az3 at hn
       exact (List.findIdx?_eq_some_iff_getElem.1 hn).1
      have hl : L[i]? = some L[i] := List.getElem?_eq_getElem hi
      have h4 := hS.most L[i] (List.getElem_mem _)
      dsimp only
      rw [hl]
      simp only [Option.getD_some]
      rw [e0, acq (by omega) (by omega), hk _ ⟨k, rfl, by omega, by dsimp only; omega, by simp; omega⟩ (by simp)]
      simp
def aCL (L : List Lk) (N : Nat) (u v : Int) : List Int × Int :=
 if (afw L N u v).2 ≠ 0 then ([], (afw L N u v).2) else
 match (afV L N v N).findIdx? (fun x => gv x u == (afw L N u v).1) with
 | some k => (agh L (exL L N v) (fun n => ieq n (afw L N u v).1) k u 0 [], 0)
 | none => ([], 0)
theorem aOf (hS : aep L N) {u v : Int} (hu : 0 ≤ u ∧ u < N) (hv : 0 ≤ v ∧ v < N) : apV ((N : Int), L) u v = some (aCL L N u v) := by
 have hN := hS.n60
 unfold apV aAU aCL
 rw [azu hS hu hv, ab2]
 by_cases h : (afw L N u v).2 = 0
 ·rw [acm (by rw [h]; rfl), if_neg (by simp [h]), aNL hS hv (by omega), ab2]
  rw [aTq]
  let k0 : Int → Option (List Int × Int) := fun j => acl (fun (v29 : Int × Int × Int × List Int) kk34 => aTZ (fun n => ieq n (afw L N u v).1) (afV L N v N) L v29.1 v29.2.1 v29.2.2.1 v29.2.2.2 (fun u30 u31 u32 u33 => kk34 (u30, u31, u32, u33)) (fun z28 => some ((z28, (0 : Int)) : List Int × Int))) (u, j, (0 : Int), [])
  refine (afT (afV L N v N) (fun x => gv x u == (afw L N u v).1) k0 (k0 (-1)) (fun i x hi hx kn => ?_) (fun kn => ?_)).trans ?_
  rotate_left
  ·try dsimp only
   unfold ak8
   rw [acK]
  ·have hex : ∀ k, k < N + 1 → (afV L N v N)[k]? = some (exL L N v k) := fun k hk => amJ (by omega)
   have hlim : ∀ k, k < N + 1 → Lim 900000000000000000 (exL L N v k) ∧ (exL L N v k).length = N := fun k hk => ⟨fun w hw => by
    have := apL hS hv k (by omega) w hw; omega, aB4 _ _⟩
   cases hf : (afV L N v N).findIdx? (fun x => gv x u == (afw L N u v).1) with
   | none =>
     have := amx (f := fun (v29 : Int × Int × Int × List Int) kk34 => aTZ (fun n => ieq n (afw L N u v).1) (afV L N v N) L v29.1 v29.2.1 v29.2.2.1 v29.2.2.2 (fun u30 u31 u32 u33 => kk34 (u30, u31, u32, u33)) (fun z28 => some ((z28, (0 : Int)) : List Int × Int))) (F := fun _ => some (([], 0) : List Int × Int)) (fun v => v.2.1 = -1 ∧ v.2.2.2 = []) (fun _ => 0) (fun x hx kn hk => by
      unfold aTZ
      rw [hx.1, hx.2]
      rfl) (x := (u, (-1 : Int), (0 : Int), [])) ⟨rfl, rfl⟩
     exact this
   | some k =>
     have hk := (List.findIdx?_eq_some_iff_getElem.1 hf).1
     rw [ahi] at hk
     exact aQ7 hS _ (R := exL L N v) (by omega) (fun j hj => hex j (by omega)) (fun j hj => hlim j (by omega)) u (fun z => some ((z, (0 : Int)) : List Int × Int))
  ·try dsimp only
   unfold ak8
   have hxl : x.length = N := by
    have hi' := hi
    rw [ahi] at hi'
    rw [amJ (by omega)] at hx
    cases hx
    exact aB4 _ _
   rw [ahi] at hi
   rw [acB, ahi, acs (decide_eq_true (by omega)), aci hx, ahK hu.1 (by omega), acq (by omega) (by omega), adM]
 ·rw [acs (bne_iff_ne.2 h), if_pos h]
end
end Go.Proofs.ZzM
end
noncomputable section
namespace Go.Proofs.ZzM
open Go Go.Am
def aPV (f : Int → Int → Int) (z : Int) (l : List Int) (d : Int) : Int := match l with | [] => z | x :: _ => f x d
def avr (f : Int → Int → Int) (z : Int) (c : Cmp) : Int := aPV f z (adb c.2.2.1 c.2.2.2.1) c.2.1 - aPV f z (adb c.2.2.2.1 c.2.2.1) c.2.1
structure aTM (b : acz) (f : Int → Int → Int) (z : Int) (g : acT) : Prop where
 hi : f g.1 g.2.1 ≤ z + (g.2.2.1 + g.2.2.2.1.2)
 lo : z + (g.2.2.1 + g.2.2.2.1.1) ≤ f g.1 g.2.1
 down : ∀ d e, g.2.1 ≤ d → d ≤ e → f g.1 e ≤ f g.1 d
 loss : ∀ d e, g.2.1 ≤ d → d ≤ e → f g.1 d ≤ f g.1 e + agv b g d e
structure aPr (b : acz) (f : Int → Int → Int) (z : Int) : Prop where
 gauge : ∀ g ∈ b.2.1, aTM b f z g
 cmp : ∀ c ∈ b.2.2.2.2.1, (aeO b c).1 ≤ avr f z c ∧ avr f z c ≤ (aeO b c).2
theorem aKy {b : acz} (h : adh b) {p : Int → Int} (hg : ∀ g ∈ b.2.1, akC b p g) : ∃ f : Int → Int → Int, (∀ g ∈ b.2.1, aTM b f (p 0) g) ∧ ∀ g ∈ b.2.1, ∀ d ∈ acC b g, f g.1 d = p (aeP b g.1 d) := by
 let f : Int → Int → Int := fun id d => match afZ b id with | some g => fill b p g d | none => 0
 have hfv : ∀ g ∈ b.2.1, ∀ d, f g.1 d = fill b p g d := fun g hgm d => by
  show (match afZ b g.1 with | some g => fill b p g d | none => 0) = _
  rw [ae8 h.ids hgm]
 refine ⟨f, fun g hgm => ?_, fun g hgm d hd => by rw [hfv g hgm]; exact azm h hgm (hg g hgm) hd⟩
 have gf := hg g hgm
 have e0 : f g.1 g.2.1 = p (aeP b g.1 g.2.1) := by rw [hfv g hgm]; exact azm h hgm gf (aiK g)
 refine ⟨by rw [e0]; exact gf.hi, by rw [e0]; exact gf.lo, fun d e h0 hde => ?_, fun d e h0 hde => ?_⟩
 ·rw [hfv g hgm, hfv g hgm]
  exact (avg h hgm gf h0 hde).1
 ·rw [hfv g hgm, hfv g hgm]
  exact (avg h hgm gf h0 hde).2
theorem aIr {b : acz} {f : Int → Int → Int} {p : Int → Int} (hm : ∀ g ∈ b.2.1, ∀ d ∈ acC b g, f g.1 d = p (aeP b g.1 d)) {l : List Int} {day : Int} (hl : ∀ x ∈ l, ∃ g ∈ b.2.1, g.1 = x ∧ day ∈ acC b g) : p (ayX b l day) = aPV f (p 0) l day := by
 cases l with
 | nil => rfl
 | cons x t =>
   obtain ⟨g, q1, rfl, q3⟩ := hl x (by simp)
   exact (hm g q1 day q3).symm
theorem aB8 {b : acz} {f : Int → Int → Int} {p : Int → Int} (hm : ∀ g ∈ b.2.1, ∀ d ∈ acC b g, f g.1 d = p (aeP b g.1 d)) {c : Cmp}
 (hl : ∀ x, x ∈ adb c.2.2.1 c.2.2.2.1 ∨ x ∈ adb c.2.2.2.1 c.2.2.1 → ∃ g ∈ b.2.1, g.1 = x ∧ c.2.1 ∈ acC b g) : p (cx b c) - p (cy b c) = avr f (p 0) c := by
 unfold avr
 rw [aw4, aw3, aIr hm (fun x hx => hl x (.inl hx)), aIr hm (fun x hx => hl x (.inr hx))]
theorem aEp {b : acz} (h : adh b) (f : Int → Int → Int) (z : Int) {l : List Int} {day : Int} (hl : ∀ x ∈ l, ∃ g ∈ b.2.1, g.1 = x ∧ day ∈ acC b g) : azN b f z (ayX b l day) = aPV f z l day := by
 rw [axc h f z hl]
 unfold aPV
 cases l <;> rfl
theorem as3 {b : acz} (h : adh b) {f : Int → Int → Int} {z : Int} {c : Cmp} (hl : ∀ x, x ∈ adb c.2.2.1 c.2.2.2.1 ∨ x ∈ adb c.2.2.2.1 c.2.2.1 → ∃ g ∈ b.2.1, g.1 = x ∧ c.2.1 ∈ acC b g) : azN b f z (cx b c) - azN b f z (cy b c) = avr f z c := by
 unfold avr
 rw [aw4, aw3, aEp h f z (fun x hx => hl x (.inl hx)), aEp h f z (fun x hx => hl x (.inr hx))]
theorem avL {b : acz} (h : adh b) {f : Int → Int → Int} {z : Int} {g : acT} (hg : g ∈ b.2.1) (hh : aTM b f z g) : akC b (azN b f z) g := by
 have q : ∀ d ∈ acC b g, azN b f z (aeP b g.1 d) = f g.1 d := fun d hd => as4 h f z hg hd
 have e0 := q g.2.1 (aiK g)
 refine ⟨?_, ?_, fun d e hd he hde => ?_, fun d e hd he hde => ?_⟩
 ·rw [e0, aj2]; exact hh.hi
 ·rw [e0, aj2]; exact hh.lo
 ·rw [q d hd, q e he]; exact hh.down d e (h.day hg hd).1 hde
 ·rw [q d hd, q e he]; exact hh.loss d e (h.day hg hd).1 hde
section
variable {b : acz} {c : Cmp}
theorem aSz (h : adh b) {p : Int → Int} (hp : Pot (acn b) p) : ∃ f, aPr b f (p 0) ∧ ∀ g ∈ b.2.1, ∀ d ∈ acC b g, f g.1 d = p (aeP b g.1 d) := by
 obtain ⟨hg, hc⟩ := (aFI h).1 hp
 obtain ⟨f, hf, hm⟩ := aKy h hg
 refine ⟨f, ⟨hf, fun c hcm => ?_⟩, hm⟩
 have := aB8 hm (c := c) (fun x hx => aiH h hcm hx)
 have := hc c hcm
 omega
theorem aSZ (h : adh b) {f : Int → Int → Int} {z : Int} (hh : aPr b f z) : Pot (acn b) (azN b f z) := by
 refine (aFI h).2 ⟨fun g hg => avL h hg (hh.gauge g hg), fun c hc => ?_⟩
 have := as3 (f := f) (z := z) h (c := c) (fun x hx => aiH h hc hx)
 have := hh.cmp c hc
 omega
theorem aNP (h : adh b) {d : Cmp} (hd : d ∈ b.2.2.2.2.1) : ∀ x, x ∈ adb d.2.2.1 d.2.2.2.1 ∨ x ∈ adb d.2.2.2.1 d.2.2.1 → ∃ g ∈ (acE b c).2.1, g.1 = x ∧ d.2.1 ∈ acC (acE b c) g := by
 intro x hx
 obtain ⟨g, q1, q2, q3⟩ := aiH h hd hx
 exact ⟨g, q1, q2, amK q3⟩
theorem aQY (h : adh b) (h' : adh (acE b c)) {p : Int → Int} (hp : Pot (acP (acE b c)) p) : ∃ f, aPr b f (p 0) ∧ p (cx (acE b c) c) - p (cy (acE b c) c) = avr f (p 0) c := by
 obtain ⟨hg, hc⟩ := (azl h').1 hp
 obtain ⟨f, hf, hm⟩ := aKy h' hg
 refine ⟨f, ⟨fun g hgm => ?_, fun d hd => ?_⟩, aB8 hm fun x hx => aiH h' aqh hx⟩
 ·have := hf g hgm
  exact ⟨this.hi, this.lo, this.down, this.loss⟩
 ·have := aB8 hm (c := d) (aNP h hd)
  have := hc d hd
  omega
theorem aQX (h : adh b) (h' : adh (acE b c)) {f : Int → Int → Int} {z : Int} (hh : aPr b f z) : Pot (acP (acE b c)) (azN (acE b c) f z) ∧ azN (acE b c) f z (cx (acE b c) c) - azN (acE b c) f z (cy (acE b c) c) = avr f z c := by
 refine ⟨(azl h').2 ⟨fun g hg => avL h' hg ?_, fun d hd => ?_⟩, as3 h' fun x hx => aiH h' aqh hx⟩
 ·have := hh.gauge g hg
  exact ⟨this.hi, this.lo, this.down, this.loss⟩
 ·have := as3 (f := f) (z := z) h' (c := d) (aNP h hd)
  have := hh.cmp d hd
  omega
theorem aoT (h : adh b) : ady (acn b) ((acd b).length + 1) = true ↔ ∃ f z, aPr b f z := by
 have := h.sys.n60
 rw [aeB h.sys.links (by omega)]
 constructor
 ·rintro ⟨p, hp⟩
  obtain ⟨f, hf, _⟩ := aSz h hp
  exact ⟨f, _, hf⟩
 ·rintro ⟨f, z, hh⟩
  exact ⟨_, aSZ h hh⟩
theorem d_max (h : adh b) (h' : adh (acE b c)) {f : Int → Int → Int} {z : Int} (hh : aPr b f z) : dLo b c ≤ avr f z c ∧ avr f z c ≤ dHi b c := by
 have ho : ady (acP (acE b c)) ((acd (acE b c)).length + 1) = true := by rw [akp h h']; exact (aoT h).2 ⟨f, z, hh⟩
 obtain ⟨hp, hd⟩ := aQX h h' hh
 have a1 := aHI (agw h') (agN h') ho (arN h') (arM h') hp
 have a2 := aHI (agw h') (agN h') ho (arM h') (arN h') hp
 unfold dLo dHi
 omega
theorem d_all (h : adh b) (h' : adh (acE b c)) (ho : ady (acn b) ((acd b).length + 1) = true) {t : Int} (h1 : dLo b c ≤ t) (h2 : t ≤ dHi b c) : ∃ f z, aPr b f z ∧ avr f z c = t := by
 rw [← akp h h'] at ho
 obtain ⟨p, hp, hd⟩ := aUP (agw h') (agN h') ho (arN h') (arM h') h1 h2
 obtain ⟨f, hf, he⟩ := aQY h h' hp
 exact ⟨f, _, hf, by rw [← he]; exact hd⟩
theorem aUQ (h : adh b) (h' : adh (acE b c)) (ho : ady (acn b) ((acd b).length + 1) = true) : dLo b c ≤ dHi b c := by
 rw [← akp h h'] at ho
 exact aKA (agw h') (agN h') ho (arN h') (arM h')
structure Pred (b : acz) (c : Cmp) (s : Int × Int) : Prop where
 good : adh b
 good2 : adh (acE b (ab9 c))
 order : aMh b c ≤ asK b c
 has : ∃ f z, aPr b f z
 ends : s.1 - aMh b c ≤ s.2 - asK b c
 bd : -9007199254740992 ≤ s.1 - aMh b c ∧ s.2 - asK b c ≤ 9007199254740992
 all : ∀ f z, aPr b f z → s.1 - aMh b c ≤ avr f z c ∧ avr f z c ≤ s.2 - asK b c
 each : ∀ t, s.1 - aMh b c ≤ t → t ≤ s.2 - asK b c → ∃ f z, aPr b f z ∧ avr f z c = t
theorem aIC (hp : (adF b c).2 = 0) : Pred b c (adF b c).1 := by
 obtain ⟨h, h'⟩ := ajK hp
 rw [aCG h h'] at hp ⊢
 by_cases ho : ady (acn b) ((acd b).length + 1) = true
 ·rw [if_pos ho] at hp ⊢
  obtain ⟨h1, h2⟩ := aLm hp
  rw [h2]
  have e1 : aMh b (ab9 c) = aMh b c := rfl
  have e2 : asK b (ab9 c) = asK b c := rfl
  rw [e1, e2] at *
  have s1 : dLo b (ab9 c) + aMh b c - aMh b c = dLo b (ab9 c) := by omega
  have s2 : dHi b (ab9 c) + asK b c - asK b c = dHi b (ab9 c) := by omega
  refine ⟨h, h', h1, (aoT h).1 ho, ?_, ?_, fun f z hh => ?_, fun t t1 t2 => ?_⟩
  ·simp only
   rw [s1, s2]
   exact aUQ h h' ho
  ·simp only
   rw [s1, s2]
   rw [← akp h h'] at ho
   have a1 := aKB (agw h') (agN h') ho (arN h') (arM h')
   have a2 := aKB (agw h') (agN h') ho (arM h') (arN h')
   unfold dLo dHi
   omega
  ·simp only
   rw [s1, s2]
   exact d_max (c := ab9 c) h h' hh
  ·simp only at t1 t2
   rw [s1] at t1
   rw [s2] at t2
   exact d_all (c := ab9 c) h h' ho t1 t2
 ·rw [if_neg ho] at hp
  simp at hp
end
end Go.Proofs.ZzM
end
noncomputable section
namespace Go.Proofs.ZzM
open Go Go.Am
theorem avE {b : acz} (h : adh b) : (ads b).length = (acn b).length := by
 have g0 : ∀ i, ((b.2.1.take i).mapIdx (acQ b)).flatten.length = ((b.2.1.take i).flatMap (acR b)).length := by
  intro i
  induction i with
  | zero => simp
  | succ i ih =>
    rcases Nat.lt_or_ge i b.2.1.length with hi | hi
    ·have hg : b.2.1[i]? = some b.2.1[i] := List.getElem?_eq_getElem hi
     rw [aia _ hg, take_succ hg, List.flatMap_append, List.flatten_append, List.length_append, List.length_append, ih]
     congr 1
     unfold acQ acR
     simp only [List.flatMap_cons, List.flatMap_nil, List.append_nil, List.flatten_cons, List.flatten_nil, List.length_append]
     rw [afE _ _ (fun _ => rfl), afE _ _ (fun _ => rfl)]
     rfl
    ·rw [List.take_of_length_le (by omega)] at ih ⊢
     exact ih
 have c0 := aPj (b := b) b.2.2.2.2.1.length (Nat.le_refl _)
 have g1 := g0 b.2.1.length
 rw [List.take_length] at c0 g1
 unfold ads acn
 rw [List.length_append, List.length_append, g1, c0.1, c0.2]
theorem aBL {b : acz} : ∀ s ∈ (b.2.1.mapIdx (acQ b)).flatten, (s.1 = 1 ∨ s.1 = 2) ∧ 0 ≤ s.2 ∧ s.2 < b.2.1.length := by
 intro s hs
 obtain ⟨l, hl, hm⟩ := List.mem_flatten.1 hs
 obtain ⟨i, hi, rfl⟩ := List.mem_iff_getElem.1 hl
 rw [List.length_mapIdx] at hi
 rw [List.getElem_mapIdx] at hm
 unfold acQ at hm
 rcases List.mem_append.1 hm with h | h
 ·simp at h; subst h; exact ⟨.inl rfl, by dsimp only; omega, by dsimp only; omega⟩
 ·obtain ⟨_, _, h⟩ := List.mem_flatMap.1 h
  simp at h; subst h; exact ⟨.inr rfl, by dsimp only; omega, by dsimp only; omega⟩
theorem aCc {l : List Cmp} : ∀ s ∈ (l.mapIdx fun i (_ : Cmp) => [((3 : Int), (i : Int)), ((3 : Int), (i : Int))]).flatten, s.1 = 3 ∧ 0 ≤ s.2 ∧ s.2 < l.length := by
 intro s hs
 obtain ⟨m, hl, hm⟩ := List.mem_flatten.1 hs
 obtain ⟨i, hi, rfl⟩ := List.mem_iff_getElem.1 hl
 rw [List.length_mapIdx] at hi
 rw [List.getElem_mapIdx] at hm
 simp at hm; subst hm
 exact ⟨rfl, by dsimp only; omega, by dsimp only; omega⟩
theorem aSK (b : acz) (c : Cmp) : ∃ S : List (Int × Int), ads (acE b c) = S ++ [(3, (b.2.2.2.2.1.length : Int)), (3, (b.2.2.2.2.1.length : Int))] ∧ ∀ s ∈ S, ¬ (s.1 = 3 ∧ s.2 = (b.2.2.2.2.1.length : Int)) := by
 refine ⟨((acE b c).2.1.mapIdx (acQ (acE b c))).flatten ++ (b.2.2.2.2.1.mapIdx fun i (_ : Cmp) => [((3 : Int), (i : Int)), ((3 : Int), (i : Int))]).flatten, ?_, fun s hs => ?_⟩
 ·unfold ads
  rw [show (acE b c).2.2.2.2.1 = b.2.2.2.2.1 ++ [c] from rfl, List.mapIdx_append, List.flatten_append, List.append_assoc]
  simp
 ·rcases List.mem_append.1 hs with h | h
  ·have := aBL s h; omega
  ·have := aCc s h; omega
theorem aEU (b : acz) (c : Cmp) (h : adh (acE b c)) : acn (acE b c) = acP (acE b c) ++ [(cy (acE b c) c, cx (acE b c) c, (aeO (acE b c) c).2), (cx (acE b c) c, cy (acE b c) c, -(aeO (acE b c) c).1)] := by
 rw [aMm]
 unfold acn
 rw [show (acE b c).2.2.2.2.1 = b.2.2.2.2.1 ++ [c] from rfl, List.flatMap_append, List.append_assoc]
 simp [acX]
def aTW (b : acz) (c : Cmp) (s t : Int) : Int := dst (acP (acE b c)) ((acd (acE b c)).length + 1) s t
abbrev End : Type := Int × Int × Int
abbrev axf : Type := (Int × Int) × End × End
def endP (b : acz) (c : Cmp) (s t : Int) : End :=
 (aTW b c s t, aTW b c s (cy (acE b c) c) + (aeO b c).2 + aTW b c (cx (acE b c) c) t, aTW b c s (cx (acE b c) c) - (aeO b c).1 + aTW b c (cy (acE b c) c) t)
def worth0 : axf := ((0, 0), (0, 0, 0), (0, 0, 0))
def aH9 (b : acz) (n : Int × Int) (c : Cmp) : axf :=
 ((adF b c).1, endP b (ab9 c) 0 (avb (acE b (ab9 c)) n.1 n.2), endP b (ab9 c) (avb (acE b (ab9 c)) n.1 n.2) 0)
def aHv (b : acz) (n : Int × Int) (c : Cmp) : axf × Int := if (adF b c).2 ≠ 0 then (worth0, (adF b c).2) else (aH9 b n c, 0)
theorem axp {b : acz} {c : Cmp} (h : (adF b c).2 = 0) : ady (acn b) ((acd b).length + 1) = true := by
 obtain ⟨g1, g2⟩ := ajK h
 rw [aCG g1 g2] at h
 by_cases ho : ady (acn b) ((acd b).length + 1) = true
 ·exact ho
 ·rw [if_neg ho] at h; cases h
section
variable {b : acz} {c : Cmp} (h : adh b) (h' : adh (acE b c)) (ho : ady (acn b) ((acd b).length + 1) = true)
include h h' ho
theorem alP {s t : Int} (hs : 0 ≤ s ∧ s < ((acd (acE b c)).length + 1 : Nat)) (ht : 0 ≤ t ∧ t < ((acd (acE b c)).length + 1 : Nat)) : -9007199254740992 ≤ aTW b c s t ∧ aTW b c s t ≤ 9007199254740992 :=
 aKB (agw h') (agN h') (by rw [akp h h']; exact ho) hs ht
theorem amA (B : acz) {s t : Int} (hs : 0 ≤ s ∧ s < ((acd (acE b c)).length + 1 : Nat)) (ht : 0 ≤ t ∧ t < ((acd (acE b c)).length + 1 : Nat)) : ac4 (B, (((acd (acE b c)).length : Int) + 1, acP (acE b c))) t s = some (aTW b c s t) := by
 rw [show (((acd (acE b c)).length : Int) + 1) = (((acd (acE b c)).length + 1 : Nat) : Int) by push_cast; rfl, aKT (agw h') ht hs, aqK (agw h') (agN h') hs ht, if_pos (by rw [akp h h']; exact ho)]
 rfl
theorem aPY : (-4503599627370496 ≤ (aeO b c).1 ∧ (aeO b c).1 ≤ 4503599627370496) ∧ (-4503599627370496 ≤ (aeO b c).2 ∧ (aeO b c).2 ≤ 4503599627370496) := by
 have hs := h'.sys
 have e := aEU b c h'
 have m1 := hs.most (cy (acE b c) c, cx (acE b c) c, (aeO (acE b c) c).2) (by rw [e]; simp)
 have m2 := hs.most (cx (acE b c) c, cy (acE b c) c, -(aeO (acE b c) c).1) (by rw [e]; simp)
 have e2 : aeO (acE b c) c = aeO b c := rfl
 rw [e2] at m1 m2
 dsimp only at m1 m2
 omega
theorem aNN (B : acz) {s t : Int} (hs : 0 ≤ s ∧ s < ((acd (acE b c)).length + 1 : Nat)) (ht : 0 ≤ t ∧ t < ((acd (acE b c)).length + 1 : Nat)) :
 ai6 t s (B, (((acd (acE b c)).length : Int) + 1, acP (acE b c))) (cy (acE b c) c) (aeO b c) (cx (acE b c) c) = some (endP b c s t) := by
 have hx := arN h'
 have hy := arM h'
 have b1 := alP h h' ho hs ht
 have b2 := alP h h' ho hs hy
 have b3 := alP h h' ho hx ht
 have b4 := alP h h' ho hs hx
 have b5 := alP h h' ho hy ht
 have b6 := aPY h h' ho
 unfold ai6 ao6
 rw [amA h h' ho B hs ht, ab2, amA h h' ho B hs hy, ab2, acq (by omega) (by omega), amA h h' ho B hx ht, ab2, acq (by omega) (by omega), amA h h' ho B hs hx, ab2, acq (by omega) (by omega), amA h h' ho B hy ht, ab2, acq (by omega) (by omega)]
 rfl
end
theorem aIE {B : acz} (h : adh B) (hn : ∀ g ∈ B.2.1, I64 g.2.2.2.2.1.1) (s : Sys) (l : List Int) (c : Cmp) : ai7 l (B, s) c = some (atP (acd B) l c.2.1) := by
 unfold ai7 ao7
 cases l with
 | nil => rw [acB]; rfl
 | cons x t =>
   rw [acB, acm (beq_eq_false_iff_ne.2 (by simp; omega)), show (0 : Int) = ((0 : Nat) : Int) from rfl, aci (show (x :: t)[0]? = some x from rfl), aCy h hn, ab2]
   rfl
theorem aQ2 {ρ : Type} {b : acz} {c : Cmp} (h : adh (acE b c)) (K : List Lk → Option ρ) :
 acl (fun (v17 : Val acf) kk20 => ahG (b.2.2.2.2.1.length : Int) (ads (acE b c)) (acn (acE b c)) (acv (acn (acE b c))) v17.1 v17.2 (fun u18 u19 => kk20 (u18, u19)) K) ((0 : Int), []) = K (acP (acE b c)) := by
 have hl3 := h.sys.len
 have hsl := avE h
 obtain ⟨S, hS, hSk⟩ := aSK b c
 have hL := aEU b c h
 have hSl : S.length = (acP (acE b c)).length := by
  rw [hS, hL, List.length_append, List.length_append] at hsl
  simpa using hsl
 generalize acP (acE b c) = H at hL hSl ⊢
 rw [hS]
 generalize acn (acE b c) = L at hL hsl hl3 ⊢
 have hLl : L.length = H.length + 2 := by rw [hL]; simp
 refine ac3 L (fun i => (L.take i).take H.length) _ (by simp) (fun i l hi hl kn => ?_) (fun kn => ?_)
 ·try dsimp only
  unfold ahG
  rw [aco hi, aci hl]
  rcases Nat.lt_or_ge i H.length with h1 | h1
  ·have hs : (S ++ [((3 : Int), (b.2.2.2.2.1.length : Int)), (3, (b.2.2.2.2.1.length : Int))])[i]? = some S[i] := by
    rw [List.getElem?_append_left (by omega), List.getElem?_eq_getElem]
   have hk := hSk S[i] (List.getElem_mem _)
   have e : ((adW (S[i]).1 (3 : Int)) && ((adW (S[i]).2 (b.2.2.2.2.1.length : Int)) && true)) = false := by
    simp [adW]; omega
   have e1 : (L.take i).take H.length = L.take i := List.take_of_length_le (by rw [List.length_take]; omega)
   have e2 : (L.take (i + 1)).take H.length = L.take (i + 1) := List.take_of_length_le (by rw [List.length_take]; omega)
   rw [aci hs, e, acs (by rfl), e1, e2, adB (acp (by rw [List.length_take]; simp; omega)), ack hi (by omega), take_succ hl]
  ·have hs : (S ++ [((3 : Int), (b.2.2.2.2.1.length : Int)), (3, (b.2.2.2.2.1.length : Int))])[i]? = some ((3 : Int), (b.2.2.2.2.1.length : Int)) := by
    rw [List.getElem?_append_right (by omega)]
    have : i - S.length = 0 ∨ i - S.length = 1 := by omega
    rcases this with e | e <;> rw [e] <;> rfl
   have e : ((adW (3 : Int) (3 : Int)) && ((adW (b.2.2.2.2.1.length : Int) (b.2.2.2.2.1.length : Int)) && true)) = true := by simp [adW]
   have e1 : (L.take i).take H.length = (L.take (i + 1)).take H.length := by
    rw [List.take_take, List.take_take]
    congr 1
    omega
   rw [aci hs]
   dsimp only
   rw [e, acm (by rfl), ack hi (by omega), e1]
 ·try dsimp only
  unfold ahG
  rw [acK, List.take_length, hL]
  simp
theorem aKd {B : acz} (hr : Room B) (n : Int × Int) {c : Cmp} (hA : c.2.2.1.length ≤ 1000) (hB : c.2.2.2.1.length ≤ 1000) : amD (B, ay4 B) n c = some (aHv B n c) := by
 unfold amD av3 aHv
 have hs := hr.good.size
 rw [show (B, ay4 B).1 = B from rfl, aPo hs hr.num hA hB, ab2]
 by_cases hp : (adF B c).2 = 0
 ·obtain ⟨g1, g2⟩ := ajK hp
  have ho := axp hp
  have e1 : ap8 B (ab9 c) = (acE B (ab9 c), 0) := by
   unfold ap8
   rw [if_neg (by simp [(acx B).2 g1]), if_neg (by simp [(acx _).2 g2])]
  have hn2 : ∀ g ∈ (acE B (ab9 c)).2.1, I64 g.2.2.2.2.1.1 := hr.num
  have hC := g2.nC
  have hw : (((acE B (ab9 c)).2.2.2.2.1.length : Int) - 1) = (B.2.2.2.2.1.length : Int) := by simp [acE]
  have hSays : aTJ (acE B (ab9 c)) (B.2.2.2.2.1.length : Int) = (aeO B (ab9 c), 0) := by
   have e : alV (acE B (ab9 c)) (B.2.2.2.2.1.length : Int) = (ab9 c, 0) := by
    unfold alV
    rw [if_neg (by simp [(acx _).2 g2]), if_neg (by simp [acE]; omega)]
    simp [acE]
   unfold aTJ
   rw [e, if_neg (by simp)]
   rfl
  have hCancel : aCM c.2.2.1 c.2.2.2.1 = (adb c.2.2.1 c.2.2.2.1, adb c.2.2.2.1 c.2.2.1, 0) := by
   have hnu := (ahx _).1 (g2.nums (aqh (c := ab9 c)))
   have h6 : ajx c.2.2.1 = true ∧ ajx c.2.2.2.1 = true := ⟨hnu.2.2.2.2.2.1, hnu.2.2.2.2.2.2⟩
   unfold aCM
   rw [h6.1, h6.2]
   rfl
  rw [acm (by rw [hp]; rfl), if_neg (by simp [hp]), show ajG B (c.1, c.2.1, c.2.2.1, c.2.2.2.1, (0 : Int), c.2.2.2.2.2) = ajG B (ab9 c) from rfl, aRY hs hr.num (c := ab9 c) hA hB, ab2, e1]
  dsimp only
  rw [acm (by rfl), acB, hw, acq (by omega) (by omega), aU2 (g2.inn hn2), ab2, hSays, aK5 (by omega) (by omega), ab2, hCancel, agn (g2.inn hn2), ab2, aeu g2]
  dsimp only
  refine (aQ2 g2 _).trans ?_
  have ex : cx (acE B (ab9 c)) (ab9 c) = atP (acd (acE B (ab9 c))) (adb c.2.2.1 c.2.2.2.1) c.2.1 := rfl
  have ey : cy (acE B (ab9 c)) (ab9 c) = atP (acd (acE B (ab9 c))) (adb c.2.2.2.1 c.2.2.1) c.2.1 := rfl
  rw [aIE g2 hn2, ab2, aIE g2 hn2, ab2, aCy g2 hn2, ab2, ← ex, ← ey, aNN g1 g2 ho _ (af0 _) (afu _ n), ab2, aNN g1 g2 ho _ (afu _ n) (af0 _), ab2]
  rfl
 ·rw [acs (bne_iff_ne.2 hp), if_pos hp]
  rfl
end Go.Proofs.ZzM
end
noncomputable section
namespace Go.Proofs.ZzM
open Go Go.Am
abbrev aOg : Type := acz × (Int × Int) × Bool × Int × List Int
def aPf : aOg := (ajJ, (0, 0), false, 0, [])
def aho (L : List Lk) : Int → Int → List Int → Int × Int × Bool
 | u, s, [] => (u, s, true)
 | u, s, i :: t => if (L[i.toNat]?.getD (0, 0, 0)).1 = u then aho L (L[i.toNat]?.getD (0, 0, 0)).2.1 (s + (L[i.toNat]?.getD (0, 0, 0)).2.2) t else (0, 0, false)
def akB (L : List Lk) (i : Int) : Bool := decide (i < 0) || decide ((L.length : Int) ≤ i)
def af8 (L : List Lk) (l : List Int) : Int := if 80 < l.length then 2 else if l.any (akB L) then 1 else 0
def aeI (L : List Lk) (u v : Int) (l : List Int) : Int × Int :=
 if af8 L l ≠ 0 then (0, af8 L l) else if (aho L u 0 l).2.2 = true ∧ (aho L u 0 l).1 = v then ((aho L u 0 l).2.1, 0) else (0, 8)
def aNU (u : Int) (w : Int × Int × Bool) : Int := if w.2.2 = true ∧ w.1 = u ∧ w.2.1 < 0 then 0 else 8
def ahc (L : List Lk) (l : List Int) : Int :=
 if af8 L l ≠ 0 then af8 L l else match l with
 | [] => 8
 | i :: _ => aNU (L[i.toNat]?.getD (0, 0, 0)).1 (aho L (L[i.toNat]?.getD (0, 0, 0)).1 0 l)
section
variable {L : List Lk} {N : Nat}
theorem aE0 (N : Int) (hL : L.length ≤ 1000) (l : List Int) : aku (N, L) l = some (af8 L l) := by
 unfold aku ast af8
 dsimp only
 rw [acB]
 by_cases h : 80 < l.length
 ·rw [acs (decide_eq_true (by omega)), if_pos h]
 ·rw [acm (decide_eq_false (by omega)), if_neg h, ← acB l]
  refine (afL l (akB L) (fun z => ifb (ige z 0) (some 1) (some 0)) (some 1) (some 0) (fun j => by rw [show ige (j : Int) 0 = true from decide_eq_true (by omega)]; rfl) (fun i a hi ha kn => ?_) (fun kn => ?_)).trans ?_
  ·try dsimp only
   unfold aiF akB
   rw [aco hi, aci ha, ack hi (by omega), acB, adM, adM]
   by_cases h1 : a < 0
   ·simp [ilt, h1]
   ·by_cases h2 : (L.length : Int) ≤ a
    ·simp [ilt, ige, h1, h2]
    ·simp [ilt, ige, h1, h2]
  ·try dsimp only
   unfold aiF
   rw [acK]
  ·cases l.any (akB L) <;> rfl
theorem aHy {l : List Int} (h : af8 L l = 0) : l.length ≤ 80 ∧ ∀ i ∈ l, 0 ≤ i ∧ i.toNat < L.length := by
 unfold af8 at h
 split at h
 ·omega
 ·rename_i h1
  split at h
  ·omega
  ·rename_i h2
   refine ⟨by omega, fun i hi => ?_⟩
   have := List.any_eq_false.1 (Bool.eq_false_iff.2 h2) i hi
   simp [akB] at this
   omega
theorem aPE (hS : aep L N) (u : Int) {l : List Int} (h : af8 L l = 0) : avn ((N : Int), L) u l = some (aho L u 0 l) := by
 obtain ⟨hl, hi⟩ := aHy h
 unfold avn aGw
 dsimp only
 have := amx (f := fun (v7 : Int × Int × Int) kk11 => anh l (acv l) L v7.1 v7.2.1 v7.2.2 (fun u8 u9 u10 => kk11 (u8, u9, u10)) (fun z5 => some (z5.1, z5.2.1, z5.2.2)) (fun z6 => some (z6.1, z6.2, true)))
  (F := fun v => some (aho L v.1 v.2.1 (l.drop v.2.2.toNat))) (fun v => ∃ i : Nat, v.2.2 = i ∧ i ≤ l.length ∧ (-(i * 4503599627370496) ≤ v.2.1 ∧ v.2.1 ≤ i * 4503599627370496)) (fun v => l.length - v.2.2.toNat) (fun v hv kn hk => ?_) (x := (u, (0 : Int), (0 : Int))) ⟨0, rfl, by omega, by simp⟩
 ·exact this
 ·obtain ⟨w, s, n⟩ := v
  obtain ⟨i, e, h1, h2⟩ := hv
  dsimp only at e h2 hk ⊢
  subst e
  rw [Int.toNat_natCast] at hk ⊢
  unfold anh
  rcases Nat.lt_or_ge i l.length with h3 | h3
  ·have ha : l[i]? = some l[i] := List.getElem?_eq_getElem h3
   have hd : l.drop i = l[i] :: l.drop (i + 1) := List.drop_eq_getElem_cons h3
   rw [hd]
   have hx := hi l[i] (List.getElem_mem _)
   generalize l[i] = a at ha hx
   have hg : L[a.toNat]? = some L[a.toNat] := List.getElem?_eq_getElem hx.2
   have hm := hS.most _ (List.mem_of_getElem? hg)
   generalize L[a.toNat] = x at hg hm
   rw [aco h3, aci ha, ais hx.1 hg]
   unfold aho
   rw [hg]
   simp only [Option.getD_some]
   by_cases hc : x.1 = w
   ·rw [acm (by rw [hc]; exact bne_self_eq_false' _), if_pos hc, acq (by omega) (by omega), ack h3 (by omega), hk _ ⟨i + 1, by push_cast; rfl, h3, by dsimp only; push_cast; omega⟩ (by simp; omega)]
    simp
   ·rw [acs (bne_iff_ne.2 hc), if_neg hc]
  ·obtain rfl : i = l.length := by omega
   rw [acK, List.drop_length]
   rfl
theorem aPF (hS : aep L N) : ∀ (l : List Int) (u s B : Int), -B ≤ s ∧ s ≤ B → -(B + l.length * 4503599627370496) ≤ (aho L u s l).2.1 ∧ (aho L u s l).2.1 ≤ B + l.length * 4503599627370496
 | [], u, s, B, h => by simp [aho]; omega
 | i :: t, u, s, B, h => by
   unfold aho
   have hm : -4503599627370496 ≤ (L[i.toNat]?.getD (0, 0, 0)).2.2 ∧ (L[i.toNat]?.getD (0, 0, 0)).2.2 ≤ 4503599627370496 := by
    cases hg : L[i.toNat]? with
    | none => simp
    | some x => exact hS.most x (List.mem_of_getElem? hg)
   split
   ·have := aPF hS t (L[i.toNat]?.getD (0, 0, 0)).2.1 (s + (L[i.toNat]?.getD (0, 0, 0)).2.2) (B + 4503599627370496) (by omega)
    rw [List.length_cons]
    push_cast
    omega
   ·dsimp only
    omega
theorem avB (hS : aep L N) {u v : Int} (hu : 0 ≤ u ∧ u < N) (hv : 0 ≤ v ∧ v < N) (l : List Int) : agP ((N : Int), L) u v l = some (aeI L u v l) := by
 have hl3 := hS.len
 unfold agP alI aeI
 have e1 : (decide (0 ≤ u) && decide (u < (N : Int))) = true := by simp [hu.1, hu.2]
 have e2 : (decide (0 ≤ v) && decide (v < (N : Int))) = true := by simp [hv.1, hv.2]
 rw [afP hS, ab2, acm (by rfl), az2, ab2, e1, acm (by rfl), az2, ab2, e2, acm (by rfl), aE0 _ (by omega), ab2]
 by_cases h : af8 L l = 0
 ·rw [acm (by rw [h]; rfl), if_neg (by simp [h]), aPE hS u h, ab2]
  cases h1 : (aho L u 0 l).2.2 with
  | false => rw [acs (by rfl), if_neg (by simp)]
  | true =>
    rw [acm (by rfl)]
    by_cases h2 : (aho L u 0 l).1 = v
    ·rw [acm (by rw [h2]; exact bne_self_eq_false' _), if_pos ⟨rfl, h2⟩]
    ·rw [acs (bne_iff_ne.2 h2), if_neg (fun h => h2 h.2)]
 ·rw [acs (bne_iff_ne.2 h), if_pos h]
theorem aQW {ρ α : Type} (x : α) (t : List α) (f : α → Option ρ) : adG (x :: t) (0 : Int) f = f x := rfl
theorem aEc (hS : aep L N) (l : List Int) : aiI ((N : Int), L) l = some (ahc L l) := by
 have hl3 := hS.len
 unfold aiI alH ahc
 rw [afP hS, ab2, acm (by rfl), aE0 _ (by omega), ab2]
 by_cases h : af8 L l = 0
 ·rw [acm (by rw [h]; rfl), if_neg (by simp [h])]
  cases l with
  | nil => rw [acB]; rfl
  | cons i t =>
    have hx := (aHy h).2 i (by simp)
    have hg : L[i.toNat]? = some L[i.toNat] := List.getElem?_eq_getElem hx.2
    generalize L[i.toNat] = x at hg
    rw [acB, acm (beq_eq_false_iff_ne.2 (by simp; omega)), aQW, ais hx.1 hg, aPE hS x.1 h, ab2]
    dsimp only
    rw [hg]
    dsimp only [Option.getD_some]
    generalize aho L x.1 0 (i :: t) = w
    obtain ⟨e, sum, ok⟩ := w
    unfold aNU
    dsimp only
    cases ok with
    | false => rw [acs (by rfl), if_neg (by simp)]
    | true =>
      rw [acm (by rfl)]
      by_cases h2 : e = x.1
      ·rw [acm (by rw [h2]; exact bne_self_eq_false' _)]
       by_cases h3 : sum < 0
       ·rw [acm (decide_eq_false (by omega)), if_pos ⟨rfl, h2, h3⟩]
       ·rw [acs (decide_eq_true (by omega)), if_neg (fun h => h3 h.2.2)]
      ·rw [acs (bne_iff_ne.2 h2), if_neg (fun h => h2 h.2.1)]
 ·rw [acs (bne_iff_ne.2 h), if_pos h]
end
def aiA (c : aOg) : Int :=
 if acu c.1 ≠ 0 then acu c.1 else if avb c.1 c.2.1.1 c.2.1.2 = 0 then 5 else
 if c.2.2.1 then (if aeI (acn c.1) 0 (avb c.1 c.2.1.1 c.2.1.2) c.2.2.2.2 = (c.2.2.2.1, 0) then 0 else 8)
 else (if aeI (acn c.1) (avb c.1 c.2.1.1 c.2.1.2) 0 c.2.2.2.2 = (-c.2.2.2.1, 0) then 0 else 8)
def aen (c : aOg) : Int :=
 if acu c.1 ≠ 0 then acu c.1 else if c.2.1 ≠ (0, 0) ∨ c.2.2.1 = true ∨ c.2.2.2.1 ≠ 0 then 1 else if ahc (acn c.1) c.2.2.2.2 = 0 then 0 else 8
def an0 (b : acz) (c : aOg) : Bool × Int :=
 if acu b ≠ 0 then (false, acu b) else
 if c.2.1 = (0, 0) then (if aen c ≠ 0 then (false, aen c) else (ayp c.1 b, 0)) else (if aiA c ≠ 0 then (false, aiA c) else (ayp c.1 b, 0))
theorem wr_neg {n : Int} (h : I64 n) : aUd (0 - n) = if n = -9223372036854775808 then n else -n := by
 have e : aUd (0 - n) = if (0 - n) % 18446744073709551616 ≥ 9223372036854775808 then (0 - n) % 18446744073709551616 - 18446744073709551616 else (0 - n) % 18446744073709551616 := by
  simp [aUd, IntKind.wrap, IntKind.bits, IntKind.signed]
 rw [e]
 unfold I64 at h
 split <;> split <;> omega
theorem ayj {c : aOg} (hI : In c.1) (hv : I64 c.2.2.2.1) : ahQ c = some (aiA c) := by
 unfold ahQ ane aiA
 rw [ae3 hI.size hI.num, ab2]
 by_cases hc : acu c.1 = 0
 ·have hg := (acx c.1).1 hc
  rw [acm (by simp [ine, hc]), if_neg (show ¬ (acu c.1 ≠ 0) from fun h => h hc), aCJ hI, ab2, asU hg, agn hI, ab2, aeu hg]
  dsimp only
  by_cases h0 : avb c.1 c.2.1.1 c.2.1.2 = 0
  ·rw [if_pos h0, if_pos h0]; rfl
  ·have hN := hg.sys
   have hr := afu c.1 c.2.1
   have hz := af0 c.1
   rw [if_neg h0, if_neg h0, acm (by rfl), show (((acd c.1).length : Int) + 1) = (((acd c.1).length + 1 : Nat) : Int) by push_cast; rfl]
   dsimp only
   rw [show (∀ f : Int → Option Int, ck (0 - c.2.2.2.1) f = f (aUd (0 - c.2.2.2.1))) from fun f => rfl, wr_neg hv]
   have key : ∀ (u v : Int) (t t' : Int), (t' = t ∨ (t' = -9223372036854775808 ∧ t = 9223372036854775808)) → (ifb (ine (aeI (acn c.1) u v c.2.2.2.2).2 0) (some (8 : Int)) (ifb (ine (aeI (acn c.1) u v c.2.2.2.2).1 t') (some 8) (some 0))) = some (if aeI (acn c.1) u v c.2.2.2.2 = (t, 0) then 0 else 8) := by
    intro u v t t' ht
    have hb : -9000000000000000000 ≤ (aeI (acn c.1) u v c.2.2.2.2).1 ∧ (aeI (acn c.1) u v c.2.2.2.2).1 ≤ 9000000000000000000 := by
     unfold aeI
     split
     ·simp
     ·rename_i hi
      split
      ·have := aPF hN c.2.2.2.2 u 0 0 (by simp)
       have := (aHy (by simpa using hi)).1
       dsimp only
       omega
      ·simp
    generalize aeI (acn c.1) u v c.2.2.2.2 = p at hb ⊢
    by_cases h2 : p.2 = 0
    ·rw [acm (by rw [h2]; rfl)]
     by_cases h1 : p.1 = t'
     ·have : p = (t, 0) := Prod.ext (by rcases ht with h | h <;> omega) h2
      rw [acm (by rw [h1]; exact bne_self_eq_false' _), if_pos this]
     ·have : ¬ p = (t, 0) := fun e => by
       have e1 : p.1 = t := by rw [e]
       rcases ht with h | h <;> omega
      rw [acs (bne_iff_ne.2 h1), if_neg this]
    ·have : ¬ p = (t, 0) := fun e => h2 (by rw [e])
     rw [acs (bne_iff_ne.2 h2), if_neg this]
   unfold I64 at hv
   cases c.2.2.1 with
   | true =>
     rw [ad5, avB hN hz hr, ab2, key _ _ _ _ (.inl rfl)]
     rfl
   | false =>
     rw [acM, avB hN hr hz, ab2, key _ _ (-c.2.2.2.1) _ (by split <;> omega)]
     rfl
 ·rw [acs (by simp [ine, hc]), if_pos hc]
theorem an2 {c : aOg} (hI : In c.1) : acg c = some (aen c) := by
 unfold acg alC aen
 rw [ae3 hI.size hI.num, ab2]
 by_cases hc : acu c.1 = 0
 ·have hg := (acx c.1).1 hc
  rw [acm (by simp [ine, hc]), if_neg (show ¬ (acu c.1 ≠ 0) from fun h => h hc)]
  by_cases h1 : c.2.1 = (0, 0)
  ·have e1 : (!((adW c.2.1.1 0) && ((adW c.2.1.2 0) && true))) = false := by rw [h1]; rfl
   rw [e1, acM]
   cases h2 : c.2.2.1 with
   | true => rw [ad5, if_pos (.inr (.inl rfl))]
   | false =>
     rw [acM]
     by_cases h3 : c.2.2.2.1 = 0
     ·rw [acm (by rw [h3]; rfl), if_neg (by simp [h1, h3]), agn hI, ab2, aeu hg, show (((acd c.1).length : Int) + 1) = (((acd c.1).length + 1 : Nat) : Int) by push_cast; rfl]
      dsimp only
      rw [aEc hg.sys, ab2]
      by_cases h4 : ahc (acn c.1) c.2.2.2.2 = 0
      ·rw [acm (by rw [h4]; rfl), if_pos h4]
      ·rw [acs (bne_iff_ne.2 h4), if_neg h4]
     ·rw [acs (bne_iff_ne.2 h3), if_pos (.inr (.inr h3))]
  ·have e1 : (!((adW c.2.1.1 0) && ((adW c.2.1.2 0) && true))) = true := by
    rw [Prod.ext_iff] at h1
    simp [adW]
    dsimp only at h1
    omega
   rw [e1, ad5, if_pos (.inl h1)]
 ·rw [acs (by simp [ine, hc]), if_pos hc]
theorem aCF {b : acz} {c : aOg} (hb : In b) (hI : In c.1) (hv : I64 c.2.2.2.1) : adQ b c = some (an0 b c) := by
 unfold adQ av8 an0
 rw [ae3 hb.size hb.num, ab2]
 by_cases hc : acu b = 0
 ·rw [acm (by simp [ine, hc]), if_neg (show ¬ (acu b ≠ 0) from fun h => h hc)]
  by_cases h1 : c.2.1 = (0, 0)
  ·have e1 : ((adW c.2.1.1 0) && ((adW c.2.1.2 0) && true)) = true := by rw [h1]; rfl
   rw [e1, ad5, if_pos h1, an2 hI, ab2]
   by_cases h2 : aen c = 0
   ·rw [acm (by rw [h2]; rfl), if_neg (by simp [h2]), part_ok hI.size hb.size, ab2]
   ·rw [acs (bne_iff_ne.2 h2), if_pos h2]
  ·have e1 : ((adW c.2.1.1 0) && ((adW c.2.1.2 0) && true)) = false := by
    rw [Prod.ext_iff] at h1
    simp [adW]
    dsimp only at h1
    omega
   rw [e1, acM, if_neg h1, ayj hI hv, ab2]
   by_cases h2 : aiA c = 0
   ·rw [acm (by rw [h2]; rfl), if_neg (by simp [h2]), part_ok hI.size hb.size, ab2]
   ·rw [acs (bne_iff_ne.2 h2), if_pos h2]
 ·rw [acs (by simp [ine, hc]), if_pos hc]
end Go.Proofs.ZzM
end
noncomputable section
namespace Go.Proofs.ZzM
open Go Go.Am
def aht (b : acz) (l : List Int) : List (Int × Int) := l.map fun i => (ads b)[i.toNat]?.getD (0, 0)
theorem aEj {b : acz} (hg : adh b) (hn : ∀ g ∈ b.2.1, I64 g.2.2.2.2.1.1) {l : List Int} (hl : l.length ≤ 1000) (hi : ∀ i ∈ l, 0 ≤ i ∧ i.toNat < (acn b).length) : aks b l = some (aht b l) := by
 unfold aks ash
 rw [agn (hg.inn hn), ab2, aeu hg]
 refine ac3 l (fun i => aht b (l.take i)) _ rfl (fun i a hlt ha kn => ?_) (fun kn => ?_)
 ·try dsimp only
  unfold aiD
  have hx := hi a (List.mem_of_getElem? ha)
  have hs : (ads b)[a.toNat]? = some ((ads b)[a.toNat]'(by rw [avE hg]; exact hx.2)) := List.getElem?_eq_getElem _
  generalize (ads b)[a.toNat]'(by rw [avE hg]; exact hx.2) = x at hs
  have hlen : (aht b (l.take i)).length ≤ 1000 := by unfold aht; rw [List.length_map, List.length_take]; omega
  rw [aco hlt, aci ha, ais hx.1 hs, adB (show acO ((aht b (l.take i)).length + [x].length) = true from acp (show (aht b (l.take i)).length + 1 ≤ 4294967296 by omega)), ack hlt (by omega), take_succ ha]
  unfold aht
  rw [List.map_append, List.map_singleton, hs]
  rfl
 ·try dsimp only
  unfold aiD
  rw [acK, List.take_length]
theorem src_ok {b : acz} : ∀ s ∈ ads b, aTH b s := by
 intro s hs
 unfold ads at hs
 rcases List.mem_append.1 hs with h | h
 ·have := aBL s h; exact .inl this
 ·have := aCc s h; exact .inr this
theorem aM6 {b : acz} (hg : adh b) {l : List Int} (hi : ∀ i ∈ l, 0 ≤ i ∧ i.toNat < (acn b).length) : ∀ s ∈ aht b l, aTH b s := by
 intro s hs
 obtain ⟨i, h1, rfl⟩ := List.mem_map.1 hs
 have hx := hi i h1
 have hsx : (ads b)[i.toNat]? = some ((ads b)[i.toNat]'(by rw [avE hg]; exact hx.2)) := List.getElem?_eq_getElem _
 rw [hsx]
 exact src_ok _ (List.getElem_mem _)
section
variable {L : List Lk} {N : Nat}
theorem awV (R : Nat → List Int) (good : Int → Bool) : ∀ (k : Nat) (u sum : Int) (out : List Int), (∀ i ∈ out, 0 ≤ i ∧ i.toNat < L.length) → (∀ i ∈ agh L R good k u sum out, 0 ≤ i ∧ i.toNat < L.length) ∧ (agh L R good k u sum out).length ≤ out.length + k
 | 0, u, sum, out, h => ⟨h, by simp [agh]⟩
 | k + 1, u, sum, out, h => by
   unfold agh
   cases hn : az3 L (R k) good u sum with
   | none =>
     have := awV R good k u sum out h
     exact ⟨this.1, by have := this.2; dsimp only; omega⟩
   | some i =>
     have hi : i < L.length := by
      unfold az3 at hn
      exact (List.findIdx?_eq_some_iff_getElem.1 hn).1
     have := awV R good k (L[i]?.getD (0, 0, 0)).2.1 (sum + (L[i]?.getD (0, 0, 0)).2.2) (out ++ [(i : Int)]) (fun j hj => by
      rcases List.mem_append.1 hj with h1 | h1
      ·exact h j h1
      ·simp at h1; subst h1; simp; exact hi)
     exact ⟨this.1, by have := this.2; simp at this; dsimp only; omega⟩
theorem aKH (N : Nat) (u v : Int) : (∀ i ∈ (aCL L N u v).1, 0 ≤ i ∧ i.toNat < L.length) ∧ (aCL L N u v).1.length ≤ N := by
 unfold aCL
 split
 ·simp
 ·cases h : (afV L N v N).findIdx? (fun x => gv x u == (afw L N u v).1) with
  | none => simp
  | some k =>
    have hk := (List.findIdx?_eq_some_iff_getElem.1 h).1
    rw [ahi] at hk
    have := awV (L := L) (exL L N v) (fun n => ieq n (afw L N u v).1) k u 0 [] (by simp)
    exact ⟨this.1, by have := this.2; simp at this; dsimp only; omega⟩
end
def aye (B : acz) (n : Int × Int) (upper : Bool) : List Int :=
 if upper then (aCL (acn B) ((acd B).length + 1) 0 (avb B n.1 n.2)).1 else (aCL (acn B) ((acd B).length + 1) (avb B n.1 n.2) 0).1
def aoO (B : acz) (n : Int × Int) (upper : Bool) : acz := aCb B (aht B (aye B n upper)) [n]
def certR (B : acz) (n : Int × Int) (upper : Bool) : aOg := (aoO B n upper, n, upper, (if upper then (ivR B n).2 else (ivR B n).1), aye (aoO B n upper) n upper)
def ajL (b : acz) (n : Int × Int) (upper : Bool) : aOg × Int :=
 if (adv b [n]).2 ≠ 0 then (aPf, (adv b [n]).2) else
 if acu (aoO (adv b [n]).1 n upper) ≠ 0 then (aPf, acu (aoO (adv b [n]).1 n upper)) else
 if ady (acn (aoO (adv b [n]).1 n upper)) ((acd (aoO (adv b [n]).1 n upper)).length + 1) then (certR (adv b [n]).1 n upper, 0) else (aPf, 9)
theorem aPe {ρ : Type} : @alE ρ = @ac9 ρ := rfl
theorem aQk {ρ : Type} (K : Option ρ) : acl (fun (v23 : Int) kk25 => alD (0 : Int) v23 (fun u24 => kk25 u24) (fun _ => K)) (0 : Int) = K := by
 refine afn (fun x => x = 0) (fun _ => 0) (fun x hx => .inl fun kn => ?_) rfl
 rw [hx]
 rfl
theorem aMV {B : acz} (h : adh B) (hn : ∀ g ∈ B.2.1, I64 g.2.2.2.2.1.1) (n : Int × Int) (upper : Bool) : ahR (B, ay4 B) n upper = some (aye B n upper) := by
 unfold ahR anf aye
 rw [aCy h hn, ab2, show (B, ay4 B).2 = ay4 B from rfl, amP]
 cases upper with
 | true => rw [ad5, aOf h.sys (af0 B) (afu B n), ab2]; rfl
 | false => rw [acM, aOf h.sys (afu B n) (af0 B), ab2]; rfl
theorem aPc {B : acz} (h : adh B) (n : Int × Int) (upper : Bool) : (∀ i ∈ aye B n upper, 0 ≤ i ∧ i.toNat < (acn B).length) ∧ (aye B n upper).length ≤ 60 := by
 have hN := h.sys.n60
 unfold aye
 split
 ·have := aKH (L := acn B) ((acd B).length + 1) 0 (avb B n.1 n.2)
  exact ⟨this.1, by have := this.2; omega⟩
 ·have := aKH (L := acn B) ((acd B).length + 1) (avb B n.1 n.2) 0
  exact ⟨this.1, by have := this.2; omega⟩
theorem aBB (w : List Int) : ∀ (l : List Cmp) (i : Nat), ∀ c ∈ alO w i l, c ∈ l
 | [], i, c, h => by simp [alO] at h
 | a :: l, i, c, h => by
   simp only [alO] at h
   split at h
   ·rcases List.mem_cons.1 h with h | h
    ·rw [h]; simp
    ·exact List.mem_cons_of_mem _ (aBB w l (i + 1) c h)
   ·exact List.mem_cons_of_mem _ (aBB w l (i + 1) c h)
theorem aT3 {b : acz} (h : In b) (ss : List (Int × Int)) {looks : List (Int × Int)} (hl : looks.length ≤ 1000) : In (aCb b ss looks) := by
 obtain ⟨hs, hn⟩ := h
 have g1 := hs.gauges; have g2 := hs.uses; have g3 := hs.loans; have g4 := hs.compares
 unfold aCb
 refine ⟨⟨?_, ?_, ?_, ?_, hl, fun c hc => hs.piles c (aBB _ _ _ c hc)⟩, fun g hg => hn g (List.mem_filter.1 hg).1⟩
 ·exact Nat.le_trans (List.length_filter_le _ _) g1
 ·exact Nat.le_trans (List.length_filter_le _ _) g2
 ·exact Nat.le_trans (List.length_filter_le _ _) g3
 ·exact Nat.le_trans (aBD _ _ _) g4
theorem aPs {b : acz} (hI : In b) (n : Int × Int) (upper : Bool) : anP b n upper = some (ajL b n upper) := by
 unfold anP asr ajL
 rw [aPe]
 refine (amU hI (ns := [n]) (by simp) (fun e => some (aPf, e)) (fun e he => by rw [adB (by simp [ine, he])]; rfl) (fun z he => by rw [adB (by simp [ine, he])]; rfl) (fun _ _ _ => rfl)).trans ?_
 split
 ·rfl
 ·rename_i e
  have hr := (aiM hI (by simpa using e)).1
  dsimp only
  generalize (adv b [n]).1 = B at hr ⊢
  have hci := aPc hr.good n upper
  have hpi : In (aoO B n upper) := aT3 (hr.good.inn hr.num) _ (by simp)
  rw [apQ, show ((((acd B).length : Int) + 1, acn B) : Sys) = ay4 B from rfl, aMV hr.good hr.num, ab2, aEj hr.good hr.num (by omega) hci.1, ab2,
   aT2 hr.good.size (by unfold aht; rw [List.length_map]; omega) (by simp) (aM6 hr.good hci.1), ab2, show aCb B (aht B (aye B n upper)) [n] = aoO B n upper from rfl, ae3 hpi.size hpi.num, ab2]
  by_cases hc : acu (aoO B n upper) = 0
  ·have hg := (acx _).1 hc
   rw [acm (by simp [ine, hc]), if_neg (show ¬ (acu (aoO B n upper) ≠ 0) from fun h => h hc)]
   refine (aQk _).trans ?_
   rw [agn hpi, ab2, aeu hg, acm (by rfl)]
   dsimp only
   rw [show ((((acd (aoO B n upper)).length : Int) + 1, acn (aoO B n upper)) : Sys) = ay4 (aoO B n upper) from rfl, amP (aoO B n upper), an1 hg.sys, ab2]
   cases ho : ady (acn (aoO B n upper)) ((acd (aoO B n upper)).length + 1) with
   | false => rw [if_neg (by simp)]; rfl
   | true =>
     rw [if_pos rfl, ← amP (aoO B n upper), acm (by rfl), aEW hr, ab2, aMV hg hpi.num, ab2]
     cases upper with
     | true => rw [ad5, avd hr, ab2]; rfl
     | false => rfl
  ·rw [acs (by simp [ine, hc]), if_pos hc, acs (by simp [ine, hc])]
   rfl
theorem aO9 {L : List Lk} {N : Nat} (h : aep L N) (ho : ady L N = true) : ai9 ((N : Int), L) = some ([], 5) := by
 have hN := h.n60
 unfold ai9 aur
 rw [afP h, ab2, acm (by rfl), amR h.links h.n1 (by omega), ab2, if_pos ho]
 rfl
theorem aOp {b : acz} (hI : In b) (hc : acu b ≠ 0) : ahP b = some (aPf, acu b) := by
 unfold ahP ape
 rw [agn hI, ab2]
 unfold aCE
 rw [if_pos hc, acs (bne_iff_ne.2 hc)]
 rfl
theorem azG {b : acz} (hg : adh b) (hn : ∀ g ∈ b.2.1, I64 g.2.2.2.2.1.1) (ho : ady (acn b) ((acd b).length + 1) = true) : ahP b = some (aPf, 5) := by
 unfold ahP ape
 rw [agn (hg.inn hn), ab2, aeu hg, acm (by rfl), show ((((acd b).length : Int) + 1, acn b), ads b, (0 : Int)).1 = ay4 b from rfl, amP, aO9 hg.sys ho, ab2]
 rfl
end Go.Proofs.ZzM
end
noncomputable section
namespace Go.Proofs.ZzM
open Go Go.Am
section
variable {b x : acz}
theorem aOW (h : adh b) {g g' : acT} (hg : g ∈ b.2.1) (hg' : g' ∈ b.2.1) (e : g.1 = g'.1) : g = g' := by
 have h1 := ae8 h.ids hg
 have h2 := ae8 h.ids hg'
 rw [e, h2] at h1
 exact (Option.some.inj h1).symm
end
section
variable {b : acz} {c d : Cmp}
end
section
variable {b x : acz}
end
end Go.Proofs.ZzM
end
noncomputable section
namespace Go.Proofs.ZzM
open Go Go.Am
section
variable {b : acz} {c d : Cmp} {s : Int × Int}
theorem aUq (h : Pred b c s) : -10000000000000000 ≤ s.1 ∧ s.1 ≤ s.2 ∧ s.2 ≤ 10000000000000000 := by
 have q := h.good2.cmp (aqh (c := ab9 c))
 obtain ⟨_, _, b1, b2, b3⟩ := axn (b := b) h.good.film (c := ab9 c) ⟨q.nums, q.r1, q.r2⟩
 have e1 : aMh b c = aCk (adC b (ab9 c)).1 + (agi b (ab9 c)).1 - (ab9 c).2.2.2.2.2.1 := rfl
 have e2 : asK b c = (adC b (ab9 c)).2.1 / (adC b (ab9 c)).2.2 + (agi b (ab9 c)).2 + (ab9 c).2.2.2.2.2.1 := rfl
 have o := h.order
 have n := h.ends
 have bd := h.bd
 omega
end
end Go.Proofs.ZzM
end
noncomputable section
namespace Go.Proofs.ZzM
open Go Go.Am
def afe (e : End) : List Int := [e.1 - e.2.1, e.2.2 - e.1, Int.tdiv (e.2.2 - e.2.1) 2, Int.tdiv (e.2.2 - e.2.1) 2 - 1, Int.tdiv (e.2.2 - e.2.1) 2 + 1]
def al4 (e : End) (n : Int) : List Int := [n - e.2.1, e.2.2 - n]
def atE (e : End) (d : Int) : Int := min e.1 (min (e.2.1 + d) (e.2.2 - d))
def azA (w : axf) (d : Int) : Int × Int := (-(atE w.2.2 d), atE w.2.1 d)
def aOX (r : Int × Int) (n : Int) : List Int := [n - 2, n - 1, n, n + 1, n + 2].filter fun d => decide (r.1 < d) && decide (d < r.2)
def aCT (r : Int × Int) (l : List Int) : List Int := [r.1, r.2] ++ l.flatMap (aOX r)
def aMU (w : axf) (l : List Int) : Int := l.foldl (fun m d => max m ((azA w d).2 - (azA w d).1)) (-1)
def aPD (w : axf) : Int := aMU w (aCT w.1 (afe w.2.1 ++ afe w.2.2))
def Sm (n : Int) : Prop := -100000000000000000 ≤ n ∧ n ≤ 100000000000000000
structure aH4 (e : End) : Prop where
 s : Sm e.1
 u : Sm e.2.1
 d : Sm e.2.2
structure aH2 (w : axf) : Prop where
 lo : Sm w.1.1
 hi : Sm w.1.2
 high : aH4 w.2.1
 low : aH4 w.2.2
theorem aIk (n : Int) : -1 ≤ n - 2 * Int.tdiv n 2 ∧ n - 2 * Int.tdiv n 2 ≤ 1 := by
 have h1 := Int.tmod_add_mul_tdiv n 2
 have h2 := Int.tmod_two_eq n
 omega
theorem ay2 {e : End} (h : aH4 e) : afM e = some (afe e) := by
 obtain ⟨⟨a1, a2⟩, ⟨b1, b2⟩, c1, c2⟩ := h
 have h2 := aIk (e.2.2 - e.2.1)
 unfold afM am5
 rw [acq (by omega) (by omega), acq (by omega) (by omega), acq (by omega) (by omega), acq (by omega) (by omega), acq (by omega) (by omega), acq (by omega) (by omega)]
 rfl
theorem azf {e : End} (h : aH4 e) {n : Int} (hn : -1000000000000000000 ≤ n ∧ n ≤ 1000000000000000000) : afN e n = some (al4 e n) := by
 obtain ⟨⟨a1, a2⟩, ⟨b1, b2⟩, c1, c2⟩ := h
 unfold afN am6
 rw [acq (by omega) (by omega), acq (by omega) (by omega)]
 rfl
theorem aUb {e : End} (h : aH4 e) {d : Int} (hd : Sm d) : amE e d = some (atE e d) := by
 obtain ⟨⟨a1, a2⟩, ⟨b1, b2⟩, c1, c2⟩ := h
 obtain ⟨d1, d2⟩ := hd
 unfold amE av6
 rw [acq (by omega) (by omega), acq (by omega) (by omega), aBJ, aBJ]
 unfold atE
 congr 1
 omega
theorem aRU {e : End} (h : aH4 e) {d : Int} (hd : Sm d) : -200000000000000000 ≤ atE e d ∧ atE e d ≤ 100000000000000000 := by
 obtain ⟨⟨a1, a2⟩, ⟨b1, b2⟩, c1, c2⟩ := h
 obtain ⟨d1, d2⟩ := hd
 unfold atE
 omega
theorem aPT {w : axf} (h : aH2 w) {d : Int} (hd : Sm d) : ad6 w d = some (azA w d) := by
 unfold ad6 alv
 have b1 := aRU h.low hd
 rw [aUb h.low hd, ab2, acq (by omega) (by omega), aUb h.high hd, ab2]
 unfold azA
 rw [Int.zero_sub]
theorem aS3 (r : Int × Int) (n : Int) : (aOX r n).length ≤ 5 := List.length_filter_le _ _
theorem aBU (r : Int × Int) : ∀ l : List Int, (l.flatMap (aOX r)).length ≤ l.length * 5
 | [] => by simp
 | n :: l => by
   have h1 := aS3 r n
   have h2 := aBU r l
   rw [List.flatMap_cons, List.length_append, List.length_cons]
   omega
theorem aUC {ρ : Type} (r : Int × Int) {n : Int} (hn : -4000000000000000000 ≤ n ∧ n ≤ 4000000000000000000) {out : List Int} (ho : out.length ≤ 1000) (K : List Int → Option ρ) :
 acl (fun (v9 : (Val (.pair tI (.slice tI)))) kk12 => afr n r.1 r.2 v9.1 v9.2 (fun u10 u11 => kk12 (u10, u11)) K) (n - 2, out) = K (out ++ aOX r n) := by
 let five : List Int := [n - 2, n - 1, n, n + 1, n + 2]
 have hg : ∀ (i : Nat), i < 5 → five[i]? = some (n - 2 + i) := by
  intro i hi
  have : i = 0 ∨ i = 1 ∨ i = 2 ∨ i = 3 ∨ i = 4 := by omega
  rcases this with rfl | rfl | rfl | rfl | rfl <;> simp only [five, List.getElem?_cons_zero, List.getElem?_cons_succ] <;> congr 1 <;> omega
 refine afn (fun v => ∃ i : Nat, i ≤ 5 ∧ v = (n - 2 + (i : Int), out ++ (five.take i).filter fun d => decide (r.1 < d) && decide (d < r.2))) (fun v => (n + 3 - v.1).toNat) ?_ ⟨0, by omega, by simp⟩
 rintro v ⟨i, hi, rfl⟩
 rcases Nat.lt_or_ge i 5 with h5 | h5
 ·refine .inr ⟨(n - 2 + ((i + 1 : Nat) : Int), out ++ (five.take (i + 1)).filter fun d => decide (r.1 < d) && decide (d < r.2)), ⟨i + 1, h5, rfl⟩, by dsimp only; omega, fun kn => ?_⟩
  have hl : ((five.take i).filter fun d => decide (r.1 < d) && decide (d < r.2)).length ≤ 5 := akq _ five i
  dsimp only
  unfold afr
  rw [acq (by omega) (by omega), acs (decide_eq_true (by omega)), take_succ (hg i h5), List.filter_append]
  have e0 : n - 2 + (i : Int) + 1 = n - 2 + ((i + 1 : Nat) : Int) := by push_cast; omega
  by_cases h1 : r.1 < n - 2 + (i : Int)
  ·rw [acs (show igt (n - 2 + (i : Int)) r.1 = true from decide_eq_true h1)]
   by_cases h2 : n - 2 + (i : Int) < r.2
   ·rw [acs (show ilt (n - 2 + (i : Int)) r.2 = true from decide_eq_true h2), adB (acp (by rw [List.length_append]; simp only [List.length_singleton]; omega)), acq (by omega) (by omega), e0]
    simp [h1, h2]
   ·rw [acm (show ilt (n - 2 + (i : Int)) r.2 = false from decide_eq_false h2), acq (by omega) (by omega), e0]
    simp [h1, h2]
  ·rw [acm (show igt (n - 2 + (i : Int)) r.1 = false from decide_eq_false h1), acq (by omega) (by omega), e0]
   simp [h1]
 ·refine .inl fun kn => ?_
  obtain rfl : i = 5 := by omega
  dsimp only
  unfold afr
  rw [acq (by omega) (by omega), acm (decide_eq_false (by omega))]
  rfl
theorem aQu (w : axf) {l : List Int} (hl : l.length ≤ 100) (hn : ∀ n ∈ l, -2000000000000000000 ≤ n ∧ n ≤ 2000000000000000000) : agO w l = some (aCT w.1 l) := by
 unfold agO alw
 refine ac3 l (fun i => [w.1.1, w.1.2] ++ (l.take i).flatMap (aOX w.1)) _ rfl (fun i n hi ha kn => ?_) (fun kn => ?_)
 ·try dsimp only
  unfold agt
  have hb := hn n (List.mem_of_getElem? ha)
  have h5 := aBU w.1 (l.take i)
  have ht : (l.take i).length ≤ 100 := by rw [List.length_take]; omega
  rw [aco hi, aci ha, acq (by omega) (by omega)]
  refine (aUC w.1 (by omega) (by rw [List.length_append]; simp only [List.length_cons, List.length_nil]; omega) _).trans ?_
  rw [ack hi (by omega), take_succ ha, List.flatMap_append, List.append_assoc]
  simp
 ·try dsimp only
  unfold agt
  rw [acK, List.take_length]
  rfl
theorem aSJ {r : Int × Int} {l : List Int} {d : Int} : d ∈ aCT r l ↔ d = r.1 ∨ d = r.2 ∨ (r.1 < d ∧ d < r.2 ∧ ∃ n ∈ l, n - 2 ≤ d ∧ d ≤ n + 2) := by
 unfold aCT aOX
 simp only [List.mem_append, List.mem_cons, List.not_mem_nil, or_false, List.mem_flatMap, List.mem_filter, Bool.and_eq_true, decide_eq_true_eq]
 constructor
 ·rintro ((h | h) | ⟨n, hn, h, h1, h2⟩)
  ·exact .inl h
  ·exact .inr (.inl h)
  ·exact .inr (.inr ⟨h1, h2, n, hn, by omega, by omega⟩)
 ·rintro (h | h | ⟨h1, h2, n, hn, h3, h4⟩)
  ·exact .inl (.inl h)
  ·exact .inl (.inr h)
  ·exact .inr ⟨n, hn, by omega, h1, h2⟩
theorem aNs (r : Int × Int) {l : List Int} (hl : l.length ≤ 100) : (aCT r l).length ≤ 600 := by
 have := aBU r l
 unfold aCT
 rw [List.length_append]
 simp only [List.length_cons, List.length_nil]
 omega
theorem aQt {w : axf} (h : aH2 w) {l : List Int} : ∀ d ∈ aCT w.1 l, Sm d := by
 intro d hd
 obtain ⟨a1, a2⟩ := h.lo
 obtain ⟨b1, b2⟩ := h.hi
 rcases aSJ.1 hd with h | h | ⟨h1, h2, _⟩
 ·rw [h]; exact ⟨a1, a2⟩
 ·rw [h]; exact ⟨b1, b2⟩
 ·exact ⟨by omega, by omega⟩
theorem ay3 {e : End} (h : aH4 e) : ∀ n ∈ afe e, -1000000000000000000 ≤ n ∧ n ≤ 1000000000000000000 := by
 obtain ⟨⟨a1, a2⟩, ⟨b1, b2⟩, c1, c2⟩ := h
 have h2 := aIk (e.2.2 - e.2.1)
 intro n hn
 unfold afe at hn
 simp only [List.mem_cons, List.not_mem_nil, or_false] at hn
 omega
theorem aSf {w : axf} (h : aH2 w) : ahN w = some (aPD w) := by
 unfold ahN aj9
 have hl : ([afe w.2.1, afe w.2.2] : List (List Int)).flatten = afe w.2.1 ++ afe w.2.2 := by simp
 have hll : (afe w.2.1 ++ afe w.2.2).length = 10 := rfl
 rw [ay2 h.high, ab2, ay2 h.low, ab2, ajZ (by simp) (by rw [hl, hll]; omega), ab2, hl, aQu w (by rw [hll]; omega) (fun n hn => by
  rcases List.mem_append.1 hn with hn | hn
  ·have := ay3 h.high n hn; omega
  ·have := ay3 h.low n hn; omega), ab2]
 have hnl := aNs w.1 (l := afe w.2.1 ++ afe w.2.2) (by rw [hll]; omega)
 have hsm := aQt h (l := afe w.2.1 ++ afe w.2.2)
 unfold aPD
 generalize aCT w.1 (afe w.2.1 ++ afe w.2.2) = l at hnl hsm ⊢
 refine afn (fun v => ∃ i : Nat, i ≤ l.length ∧ v = (aMU w (l.take i), (i : Int))) (fun v => l.length - v.2.toNat) ?_ ⟨0, by omega, rfl⟩
 rintro v ⟨i, hi, rfl⟩
 rcases Nat.lt_or_ge i l.length with h2 | h2
 ·have ha : l[i]? = some l[i] := List.getElem?_eq_getElem h2
  have hs := hsm l[i] (List.getElem_mem _)
  generalize l[i] = d at ha hs
  refine .inr ⟨(aMU w (l.take (i + 1)), ((i + 1 : Nat) : Int)), ⟨i + 1, h2, rfl⟩, by dsimp only; omega, fun kn => ?_⟩
  dsimp only
  unfold af6
  have b1 := aRU h.low hs
  have b2 := aRU h.high hs
  rw [aco h2, aci ha, show ad6 ((w.1.1, w.1.2), (w.2.1.1, w.2.1.2.1, w.2.1.2.2), w.2.2.1, w.2.2.2.1, w.2.2.2.2) d = ad6 w d from rfl, aPT h hs, ab2, acq (by unfold azA; dsimp only; omega) (by unfold azA; dsimp only; omega), ack h2 (by omega), aMl, take_succ ha]
  unfold aMU
  rw [List.foldl_append]
  rfl
 ·refine .inl fun kn => ?_
  obtain rfl : i = l.length := by omega
  dsimp only
  unfold af6
  rw [acK, List.take_length]
theorem aMT {b : acz} {n : Int × Int} {c : Cmp} (hp : (adF b c).2 = 0) : aH2 (aH9 b n c) := by
 obtain ⟨g1, g2⟩ := ajK hp
 have ho := axp hp
 have hb := aUq (aIC hp)
 have hx := arN g2
 have hy := arM g2
 have b6 := aPY g1 g2 ho
 have key : ∀ {s t : Int}, 0 ≤ s ∧ s < ((acd (acE b (ab9 c))).length + 1 : Nat) → 0 ≤ t ∧ t < ((acd (acE b (ab9 c))).length + 1 : Nat) → aH4 (endP b (ab9 c) s t) := by
  intro s t hs ht
  have b1 := alP g1 g2 ho hs ht
  have b2 := alP g1 g2 ho hs hy
  have b3 := alP g1 g2 ho hx ht
  have b4 := alP g1 g2 ho hs hx
  have b5 := alP g1 g2 ho hy ht
  unfold endP
  exact ⟨⟨by dsimp only; omega, by dsimp only; omega⟩, ⟨by dsimp only; omega, by dsimp only; omega⟩, by dsimp only; omega, by dsimp only; omega⟩
 exact ⟨⟨by show _ ≤ (adF b c).1.1; omega, by show (adF b c).1.1 ≤ _; omega⟩, ⟨by show _ ≤ (adF b c).1.2; omega, by show (adF b c).1.2 ≤ _; omega⟩, key (af0 _) (afu _ n), key (afu _ n) (af0 _)⟩
def aN9 (b : acz) (n : Int × Int) (c : Cmp) : Int × Int :=
 if (adv b [n]).2 ≠ 0 then (0, (adv b [n]).2) else if (adF (adv b [n]).1 c).2 ≠ 0 then (0, (adF (adv b [n]).1 c).2) else (aPD (aH9 (adv b [n]).1 n c), 0)
theorem aSg {ρ : Type} : @apa ρ = @ac9 ρ := rfl
theorem aTG {b : acz} (hI : In b) (n : Int × Int) {c : Cmp} (hA : c.2.2.1.length ≤ 1000) (hB : c.2.2.2.1.length ≤ 1000) : apS b n c = some (aN9 b n c) := by
 unfold apS aAp aN9
 rw [aSg]
 refine (amU hI (ns := [n]) (by simp) (fun e => some ((0 : Int), e)) (fun e he => by rw [adB (by simp [ine, he])]) (fun z he => by rw [adB (by simp [ine, he])]) (fun _ _ _ => rfl)).trans ?_
 split
 ·rfl
 ·rename_i e
  have hr := (aiM hI (by simpa using e)).1
  dsimp only
  rw [apQ, show ((((acd (adv b [n]).1).length : Int) + 1, acn (adv b [n]).1) : Sys) = ay4 (adv b [n]).1 from rfl, aKd hr n hA hB, ab2]
  unfold aHv
  by_cases hp : (adF (adv b [n]).1 c).2 = 0
  ·rw [if_neg (by simp [hp]), if_neg (by simp [hp]), acm (by rfl), aSf (aMT hp), ab2]
  ·rw [if_pos hp, if_pos hp, acs (bne_iff_ne.2 hp)]
def aPw (x : Int) : Int := max (-288230376151711744) (min x 288230376151711744)
def arW (w : axf) (l : Int × Int) : List Int := (afe w.2.1 ++ afe w.2.2) ++ (al4 w.2.1 l.1 ++ al4 w.2.2 (-l.1)) ++ (al4 w.2.1 l.2 ++ al4 w.2.2 (-l.2))
def aM9 (w : axf) (l : Int × Int) : Bool := (aCT w.1 (arW w l)).all fun d => akE (azA w d) l != 3
def azs (b : acz) (n l : Int × Int) (c : Cmp) : Bool × Int :=
 if (adv b [n]).2 ≠ 0 then (false, (adv b [n]).2) else if l.2 < l.1 then (false, 1) else if (adF (adv b [n]).1 c).2 ≠ 0 then (false, (adF (adv b [n]).1 c).2) else (aM9 (aH9 (adv b [n]).1 n c) (aPw l.1, aPw l.2), 0)
theorem aOn {ρ : Type} : @alA ρ = @ac9 ρ := rfl
theorem aT1 (x : Int) : ahO x = some (aPw x) := by
 unfold ahO am9 aPw
 rw [aBJ, aMl]
theorem azg {e : End} (h : aH4 e) {n : Int} (hn : -300000000000000000 ≤ n ∧ n ≤ 300000000000000000) : ∀ m ∈ al4 e n, -1000000000000000000 ≤ m ∧ m ≤ 1000000000000000000 := by
 obtain ⟨⟨a1, a2⟩, ⟨b1, b2⟩, c1, c2⟩ := h
 intro m hm
 unfold al4 at hm
 simp only [List.mem_cons, List.not_mem_nil, or_false] at hm
 omega
theorem aPn {b : acz} (hI : In b) (n l : Int × Int) {c : Cmp} (hA : c.2.2.1.length ≤ 1000) (hB : c.2.2.2.1.length ≤ 1000) : akt b n l c = some (azs b n l c) := by
 unfold akt aso azs
 rw [aOn]
 refine (amU hI (ns := [n]) (by simp) (fun e => some (false, e)) (fun e he => by rw [acs (by simp [ine, he])]) (fun z he => by rw [acs (by simp [ine, he])]) (fun _ _ _ => rfl)).trans ?_
 split
 ·rfl
 ·rename_i e
  have hr := (aiM hI (by simpa using e)).1
  dsimp only
  by_cases hl : l.2 < l.1
  ·rw [acs (by simp [igt, hl]), if_pos hl]
  ·rw [acm (by simp [igt]; omega), if_neg hl, apQ, show ((((acd (adv b [n]).1).length : Int) + 1, acn (adv b [n]).1) : Sys) = ay4 (adv b [n]).1 from rfl, aKd hr n hA hB, ab2]
   unfold aHv
   by_cases hp : (adF (adv b [n]).1 c).2 = 0
   ·rw [if_neg (by simp [hp]), if_neg (by simp [hp]), acm (by rfl)]
    have hw := aMT (n := n) hp
    dsimp only
    generalize aH9 (adv b [n]).1 n c = w at hw ⊢
    have f1 : -300000000000000000 ≤ aPw l.1 ∧ aPw l.1 ≤ 300000000000000000 := by unfold aPw; omega
    have f2 : -300000000000000000 ≤ aPw l.2 ∧ aPw l.2 ≤ 300000000000000000 := by unfold aPw; omega
    have q1 : ([afe w.2.1, afe w.2.2] : List (List Int)).flatten = afe w.2.1 ++ afe w.2.2 := by simp
    have q2 : ∀ x y z : List Int, ([x, y, z] : List (List Int)).flatten = x ++ (y ++ z) := by intro x y z; simp
    rw [ay2 hw.high, ab2, ay2 hw.low, ab2, ajZ (by simp) (by rw [q1]; simp [afe]), ab2, q1, aT1, ab2, aT1, ab2]
    generalize aPw l.1 = l1 at f1 ⊢
    generalize aPw l.2 = l2 at f2 ⊢
    rw [azf hw.high (by omega), ab2, acq (by omega) (by omega), Int.zero_sub, azf hw.low (by omega), ab2, ajZ (by simp) (by rw [q2]; simp [afe, al4]), ab2, q2,
     azf hw.high (by omega), ab2, acq (by omega) (by omega), Int.zero_sub, azf hw.low (by omega), ab2, ajZ (by simp) (by rw [q2]; simp [afe, al4]), ab2, q2]
    have hll : (arW w (l1, l2)).length = 18 := rfl
    have qs : afe w.2.1 ++ afe w.2.2 ++ (al4 w.2.1 l1 ++ al4 w.2.2 (-l1)) ++ (al4 w.2.1 l2 ++ al4 w.2.2 (-l2)) = arW w (l1, l2) := rfl
    rw [qs, aQu w (by rw [hll]; omega) (fun m hm => by
     unfold arW at hm
     simp only [List.mem_append] at hm
     rcases hm with ((hm | hm) | (hm | hm)) | (hm | hm)
     ·have := ay3 hw.high m hm; omega
     ·have := ay3 hw.low m hm; omega
     ·have := azg hw.high f1 m hm; omega
     ·have := azg hw.low (n := -l1) (by omega) m hm; omega
     ·have := azg hw.high f2 m hm; omega
     ·have := azg hw.low (n := -l2) (by omega) m hm; omega), ab2]
    have hnl := aNs w.1 (l := arW w (l1, l2)) (by rw [hll]; omega)
    have hsm := aQt hw (l := arW w (l1, l2))
    unfold aM9
    generalize aCT w.1 (arW w (l1, l2)) = ds at hnl hsm ⊢
    refine (afL ds (fun d => akE (azA w d) (l1, l2) == 3) (fun z30 => some ((!(ige z30 (0 : Int))), (0 : Int))) (some (false, 0)) (some (true, 0)) (fun j => by rw [show ige (j : Int) 0 = true from decide_eq_true (by omega)]; rfl) (fun i d hi hd kn => ?_) (fun kn => ?_)).trans ?_
    ·try dsimp only
     unfold aiE
     rw [aco hi, aci hd, show ad6 ((w.1.1, w.1.2), (w.2.1.1, w.2.1.2.1, w.2.1.2.2), w.2.2.1, w.2.2.2.1, w.2.2.2.2) d = ad6 w d from rfl, aPT hw (hsm d (List.mem_of_getElem? hd)), ab2, aEd, ab2, ack hi (by omega), adM]
    ·try dsimp only
     unfold aiE
     rw [acK]
    ·rw [show (fun d => akE (azA w d) (l1, l2) != 3) = (fun d => !(akE (azA w d) (l1, l2) == 3)) from rfl, ← List.not_any_eq_all_not]
     cases ds.any fun d => akE (azA w d) (l1, l2) == 3 <;> rfl
   ·rw [if_pos hp, if_pos hp, acs (bne_iff_ne.2 hp)]
end Go.Proofs.ZzM
end
noncomputable section
namespace Go.Proofs.ZzM
open Go Go.Am
def aKZ (b : acz) (n : Int × Int) : Prop := ∃ g ∈ b.2.1, g.1 = n.1 ∧ n.2 ∈ acC b g
section
variable {B : acz} (h : Room B)
include h
end
def aFm (c : Cmp) : Bool := decide (c.2.2.1.length ≤ 10) && decide (c.2.2.2.1.length ≤ 10)
theorem aRM (c : Cmp) : aqy c = some (aFm c) := by
 unfold aqy avX aFm
 rw [acB, acB, adM]
 by_cases h : c.2.2.1.length ≤ 10
 ·rw [if_pos (by simp [ile]; omega)]
  simp [ile, h]
  omega
 ·rw [if_neg (by simp [ile]; omega)]
  simp [h]
def fewP (b : acz) : Bool :=
 !((b.2.2.2.2.1.take 50).any fun c => !aFm c) && (decide (b.2.1.length ≤ 14) && (decide (b.2.2.1.length ≤ 45) && (decide (b.2.2.2.1.length ≤ 14) && (decide (b.2.2.2.2.1.length ≤ 42) && decide (b.2.2.2.2.2.length ≤ 12)))))
theorem aT0 (b : acz) : avi b = some (fewP b) := by
 unfold avi aF0
 have last : (ifb (ile (acv b.2.1) (14 : Int)) (ifb (ile (acv b.2.2.1) (45 : Int)) (ifb (ile (acv b.2.2.2.1) (14 : Int)) (ifb (ile (acv b.2.2.2.2.1) (42 : Int)) (some (ile (acv b.2.2.2.2.2) (12 : Int))) (some false)) (some false)) (some false)) (some false)) =
  some (decide (b.2.1.length ≤ 14) && (decide (b.2.2.1.length ≤ 45) && (decide (b.2.2.2.1.length ≤ 14) && (decide (b.2.2.2.2.1.length ≤ 42) && decide (b.2.2.2.2.2.length ≤ 12))))) := by
  have e : ∀ (n m : Nat), ile (n : Int) (m : Int) = decide (n ≤ m) := fun n m => by simp [ile]
  rw [acB, acB, acB, acB, acB, show (14 : Int) = ((14 : Nat) : Int) from rfl, show (45 : Int) = ((45 : Nat) : Int) from rfl, show (42 : Int) = ((42 : Nat) : Int) from rfl, show (12 : Int) = ((12 : Nat) : Int) from rfl, e, e, e, e, e]
  generalize decide (b.2.1.length ≤ 14) = x1
  generalize decide (b.2.2.1.length ≤ 45) = x2
  generalize decide (b.2.2.2.1.length ≤ 14) = x3
  generalize decide (b.2.2.2.2.1.length ≤ 42) = x4
  cases x1 <;> cases x2 <;> cases x3 <;> cases x4 <;> rfl
 rw [last]
 refine Eq.trans (afL (b.2.2.2.2.1.take 50) (fun c => !aFm c) (fun _ => some false) (some false) (some (decide (b.2.1.length ≤ 14) && (decide (b.2.2.1.length ≤ 45) && (decide (b.2.2.2.1.length ≤ 14) && (decide (b.2.2.2.2.1.length ≤ 42) && decide (b.2.2.2.2.2.length ≤ 12)))))) (fun _ => rfl) (fun i c hi hc kn => ?_) (fun kn => ?_)) ?_
 ·try dsimp only
  unfold amX
  rw [List.length_take] at hi
  have hc' : b.2.2.2.2.1[i]? = some c := by rw [List.getElem?_take] at hc; split at hc <;> simp_all
  rw [aco (show i < b.2.2.2.2.1.length by omega), acs (decide_eq_true (by omega)), aci hc', aRM, ab2, acq (by omega) (by omega), adM]
 ·try dsimp only
  unfold amX
  rw [List.length_take, adM]
  split
  ·rename_i h
   have h' : 50 < b.2.2.2.2.1.length := by rw [acB] at h; simp [ilt] at h; omega
   rw [acm (decide_eq_false (by omega))]
  ·rfl
 ·unfold fewP
  cases List.any (List.take 50 b.2.2.2.2.1) (fun c => !aFm c) <;> rfl
theorem aNK {b : acz} (h : fewP b = true) : ahl b := by
 simp only [fewP, Bool.and_eq_true, Bool.not_eq_true', decide_eq_true_eq] at h
 obtain ⟨h0, h1, h2, h3, h4, h5⟩ := h
 refine ⟨by omega, by omega, by omega, by omega, by omega, fun c hc => ?_⟩
 rw [List.take_of_length_le (by omega)] at h0
 have := List.any_eq_false.1 h0 c hc
 simp [aFm] at this
 omega
end Go.Proofs.ZzM
end
noncomputable section
namespace Go.Proofs.ZzM
open Go Go.Am
inductive Wk (L : List Lk) (to : Int) : Nat → Int → Int → Prop
 | nil : Wk L to 0 to 0
 | step {k : Nat} {v w m d : Int} : (v, w, m) ∈ L → Wk L to k w d → Wk L to (k + 1) v (m + d)
section
variable {L : List Lk} {N : Nat}
theorem Wk.snoc {u v m : Int} (hl : (u, v, m) ∈ L) : ∀ {k : Nat} {s d : Int}, Wk L u k s d → Wk L v (k + 1) s (d + m) := by
 intro k s d h
 induction h with
 | nil =>
   have := Wk.step hl (Wk.nil (L := L) (to := v))
   have e : m + 0 = 0 + m := by omega
   rw [e] at this
   exact this
 | @step k a w m' d h1 h2 ih =>
   have := Wk.step h1 ih
   have e : m' + (d + m) = m' + d + m := by omega
   rw [e] at this
   exact this
theorem Wk.bd (hS : aep L N) {t : Int} {k : Nat} {s d : Int} (h : Wk L t k s d) : -(k * 4503599627370496) ≤ d ∧ d ≤ k * 4503599627370496 := by
 induction h with
 | nil => omega
 | @step k v w m d h1 h2 ih =>
   have := hS.most _ h1
   dsimp only at this
   push_cast
   omega
theorem aMn {v : Int} (h0 : 0 ≤ v) (h1 : v < N) : gv (List.replicate N ad0) v = ad0 := by
 unfold gv
 rw [List.getElem?_replicate, if_pos (by omega)]
 rfl
theorem aSQ {B : Int} (hB : B ≤ 1100000000000000000) {x : List Int} (hx : Lim B x) (v : Int) : gv x v ≤ ad0 := by
 by_cases h : gv x v = ad0
 ·omega
 ·have := hx v h; unfold ad0; omega
theorem avf (hS : aep L N) {B : Int} (hB : 0 ≤ B) (hB2 : B ≤ 1000000000000000000) {x : List Int} (hx : Lim B x) {v : Int} (h0 : 0 ≤ v) (h1 : v < N) :
 ∀ (M : List Lk), (∀ l ∈ M, l ∈ L) → ∀ y : List Int, y.length = N → Lim (B + 4503599627370496) y →
  gv (M.foldl (agk x) y) v ≤ gv y v ∧ (∀ w m, (v, w, m) ∈ M → gv x w ≠ ad0 → gv (M.foldl (agk x) y) v ≤ m + gv x w) ∧
  (gv (M.foldl (agk x) y) v = gv y v ∨ ∃ w m, (v, w, m) ∈ M ∧ gv x w ≠ ad0 ∧ gv (M.foldl (agk x) y) v = m + gv x w)
 | [], _, y, _, _ => ⟨Int.le_refl _, fun _ _ h => by simp at h, .inl rfl⟩
 | l :: M, hM, y, hl, hy => by
   rw [List.foldl_cons]
   have hlm := hM l (by simp)
   obtain ⟨i1, i2, i3⟩ := avf hS hB hB2 hx h0 h1 M (fun m hm => hM m (by simp [hm])) (agk x y l) (by rw [awY, hl]) (aNw hS hB hB2 hx hy hl hlm)
   have hr := hS.inr l hlm
   have hyF := aSQ (by omega) hy
   -- the element behind one link
   have key : gv (agk x y l) v ≤ gv y v ∧ (l.1 = v → gv x l.2.1 ≠ ad0 → gv (agk x y l) v ≤ l.2.2 + gv x l.2.1) ∧ (gv (agk x y l) v = gv y v ∨ (l.1 = v ∧ gv x l.2.1 ≠ ad0 ∧ gv (agk x y l) v = l.2.2 + gv x l.2.1)) := by
    unfold agk
    by_cases hf : gv x l.2.1 = ad0
    ·rw [if_pos hf]
     exact ⟨Int.le_refl _, fun _ h => absurd hf h, .inl rfl⟩
    ·rw [if_neg hf, ali hr.1.1 h0 (by omega)]
     by_cases hv : v = l.1
     ·rw [if_pos hv, hv]
      refine ⟨by omega, fun _ _ => by omega, ?_⟩
      by_cases hc : gv y l.1 ≤ l.2.2 + gv x l.2.1
      ·exact .inl (by omega)
      ·exact .inr ⟨rfl, hf, by omega⟩
     ·rw [if_neg hv]
      exact ⟨Int.le_refl _, fun h => absurd h.symm hv, .inl rfl⟩
   obtain ⟨k1, k2, k3⟩ := key
   refine ⟨by omega, fun w m hm hw => ?_, ?_⟩
   ·rcases List.mem_cons.1 hm with h | h
    ·subst h
     have := k2 rfl hw
     dsimp only at this
     omega
    ·exact i2 w m h hw
   ·rcases i3 with h | ⟨w, m, h, hw, e⟩
    ·rcases k3 with h' | ⟨h', hw, e⟩
     ·exact .inl (h.trans h')
     ·refine .inr ⟨l.2.1, l.2.2, ?_, hw, h.trans e⟩
      rw [← h']; simp
    ·exact .inr ⟨w, m, by simp [h], hw, e⟩
theorem aHH (hS : aep L N) {to : Int} (ht : 0 ≤ to ∧ to < N) : ∀ k : Nat, k ≤ 200 → ∀ v : Int, 0 ≤ v → v < N →
 (gv (exL L N to k) v ≠ ad0 → Wk L to k v (gv (exL L N to k) v)) ∧ ∀ d, Wk L to k v d → gv (exL L N to k) v ≤ d ∧ gv (exL L N to k) v ≠ ad0
 | 0, _, v, h0, h1 => by
   unfold exL
   rw [ali ht.1 h0 (by simp; omega)]
   by_cases hv : v = to
   ·subst hv
    rw [if_pos rfl]
    refine ⟨fun _ => .nil, fun d hd => ?_⟩
    cases hd
    exact ⟨Int.le_refl _, by decide⟩
   ·rw [if_neg hv, aMn h0 h1]
    refine ⟨fun h => absurd rfl h, fun d hd => ?_⟩
    cases hd
    exact absurd rfl hv
 | k + 1, hk, v, h0, h1 => by
   have hlim := apL hS ht k (by omega)
   obtain ⟨i1, i2, i3⟩ := avf hS (B := k * 4503599627370496) (by omega) (by omega) hlim h0 h1 L (fun _ h => h) (List.replicate N ad0) (by simp) (aBz (by omega))
   have ih := aHH hS ht k (by omega)
   unfold exL aFd
   refine ⟨fun hf => ?_, fun d hd => ?_⟩
   ·rcases i3 with h | ⟨w, m, h, hw, e⟩
    ·rw [aMn h0 h1] at h; exact absurd h hf
    ·rw [e]
     have hwr := (hS.inr _ h).2
     exact .step h ((ih w hwr.1 hwr.2).1 hw)
   ·have hb := Wk.bd hS hd
    cases hd with
    | @step k' v' w m d h h2 =>
      have hwr := (hS.inr _ h).2
      obtain ⟨j1, j2⟩ := (ih w hwr.1 hwr.2).2 d h2
      have := i2 w m h j2
      refine ⟨by omega, ?_⟩
      have hq : (m + d) ≤ 1000000000000000000 := by push_cast at hb; omega
      intro hF
      rw [hF] at this
      unfold ad0 at this
      omega
theorem aS9 (hS : aep L N) {to : Int} (ht : 0 ≤ to ∧ to < N) {k : Nat} (hk : k + 1 ≤ 200) {u : Int} (hu : 0 ≤ u ∧ u < N) (hf : gv (exL L N to (k + 1)) u ≠ ad0) :
 ∃ w m, (u, w, m) ∈ L ∧ gv (exL L N to k) w ≠ ad0 ∧ gv (exL L N to (k + 1)) u = m + gv (exL L N to k) w := by
 have hlim := apL hS ht k (by omega)
 obtain ⟨_, _, i3⟩ := avf hS (B := k * 4503599627370496) (by omega) (by omega) hlim hu.1 hu.2 L (fun _ h => h) (List.replicate N ad0) (by simp) (aBz (by omega))
 have e : exL L N to (k + 1) = L.foldl (agk (exL L N to k)) (List.replicate N ad0) := rfl
 rw [e] at hf ⊢
 rcases i3 with h | h
 ·rw [aMn hu.1 hu.2] at h; exact absurd h hf
 ·exact h
theorem aBS (hS : aep L N) {to : Int} (ht : 0 ≤ to ∧ to < N) (good : Int → Bool) : ∀ (k : Nat), k ≤ 200 → ∀ (u sum : Int) (out : List Int), 0 ≤ u → u < N → gv (exL L N to k) u ≠ ad0 → good (sum + gv (exL L N to k) u) = true →
 ∃ q, agh L (exL L N to) good k u sum out = out ++ q ∧ q.length = k ∧ (∀ i ∈ q, akB L i = false) ∧ ∃ s, aho L u sum q = (to, s, true) ∧ good s = true
 | 0, _, u, sum, out, h0, h1, hf, hg => by
   have hu : u = to := by
    have hw := ((aHH hS ht 0 (by omega) u h0 h1).1 hf)
    generalize gv (exL L N to 0) u = y at hw
    cases hw
    rfl
   subst hu
   have e : gv (exL L N u 0) u = 0 := by
    unfold exL
    rw [ali ht.1 h0 (by simp; omega), if_pos rfl]
   rw [e, Int.add_zero] at hg
   exact ⟨[], by simp [agh], rfl, by simp, sum, rfl, hg⟩
 | k + 1, hk, u, sum, out, h0, h1, hf, hg => by
   obtain ⟨w, m, hl, hw, e⟩ := aS9 hS ht hk ⟨h0, h1⟩ hf
   unfold agh az3
   cases hn : L.findIdx? (fun l => l.1 == u && (decide (gv (exL L N to k) l.2.1 ≠ ad0) && good (sum + l.2.2 + gv (exL L N to k) l.2.1))) with
   | none =>
     have := List.findIdx?_eq_none_iff.1 hn (u, w, m) hl
     rw [e, ← Int.add_assoc] at hg
     simp [hw, hg] at this
   | some i =>
     obtain ⟨hi, hp, _⟩ := List.findIdx?_eq_some_iff_getElem.1 hn
     have hg2 : L[i]? = some L[i] := List.getElem?_eq_getElem hi
     have hm := List.mem_of_getElem? hg2
     generalize L[i] = x at hp hg2 hm
     simp only [Bool.and_eq_true, beq_iff_eq, decide_eq_true_eq] at hp
     obtain ⟨p1, p2, p3⟩ := hp
     have hr := (hS.inr x hm).2
     obtain ⟨q, q1, q2, q3, s, q4, q5⟩ := aBS hS ht good k (by omega) x.2.1 (sum + x.2.2) (out ++ [(i : Int)]) hr.1 hr.2 p2 p3
     dsimp only
     rw [hg2]
     simp only [Option.getD_some]
     refine ⟨(i : Int) :: q, by rw [q1]; simp, by simp [q2], fun j hj => ?_, s, ?_, q5⟩
     ·rcases List.mem_cons.1 hj with rfl | hj
      ·simp [akB]; omega
      ·exact q3 j hj
     ·unfold aho
      rw [Int.toNat_natCast, hg2]
      simp only [Option.getD_some]
      rw [if_pos p1]
      exact q4
theorem aSS {P : Int → Prop} {B : Int} (h : ∃ d, P d) (hB : ∀ d, P d → B ≤ d) : ∃ d, P d ∧ ∀ e, P e → d ≤ e := by
 obtain ⟨d0, h0⟩ := h
 have : ∀ (n : Nat) (d : Int), P d → (d - B).toNat ≤ n → ∃ d, P d ∧ ∀ e, P e → d ≤ e := by
  intro n
  induction n with
  | zero => intro d hd hn; exact ⟨d, hd, fun e he => by have := hB e he; have := hB d hd; omega⟩
  | succ n ih =>
    intro d hd hn
    by_cases hx : ∃ e, P e ∧ e < d
    ·obtain ⟨e, he, hl⟩ := hx
     exact ih e he (by have := hB e he; omega)
    ·exact ⟨d, hd, fun e he => by
      rcases Int.lt_or_le e d with q | q
      ·exact absurd ⟨e, he, q⟩ hx
      ·exact q⟩
 exact this _ d0 h0 (Nat.le_refl _)
theorem Wl.cutK {S : Int → Prop} {vs : List Int} {u d : Int} (h : Wl L S vs u d) : ∀ x ∈ u :: vs, ∃ vs1 d1 k d2, Wl L S vs1 x d1 ∧ (x :: vs1) <:+ (u :: vs) ∧ Wk L u k x d2 ∧ d = d1 + d2 ∧ k ≤ vs.length := by
 induction h with
 | @nil v hv =>
   intro x hx
   simp at hx
   subst hx
   exact ⟨[], 0, 0, 0, .nil hv, List.suffix_refl _, .nil, by omega, by simp⟩
 | @step vs u v m d hw hl ih =>
   intro x hx
   rcases List.mem_cons.1 hx with rfl | hx
   ·exact ⟨u :: vs, d + m, 0, 0, .step hw hl, List.suffix_refl _, .nil, by omega, by simp⟩
   ·obtain ⟨vs1, d1, k, d2, g1, g2, g3, g4, g5⟩ := ih x hx
    exact ⟨vs1, d1, k + 1, d2 + m, g1, g2.trans (List.suffix_cons _ _), g3.snoc hl, by omega, by simp; omega⟩
theorem aOC (hS : aep L N) (hno : ady L N = false) : ∃ (k : Nat) (v d : Int), 1 ≤ k ∧ k ≤ N ∧ (0 ≤ v ∧ v < N) ∧ Wk L v k v d ∧ d < 0 := by
 have hn := hS.n60
 apply Classical.byContradiction
 intro hc
 have hcl : ∀ {k : Nat} {v d : Int}, 1 ≤ k → k ≤ N → (0 ≤ v ∧ v < N) → Wk L v k v d → 0 ≤ d := fun {k v d} h1 h2 h3 h4 => by
  rcases Int.lt_or_le d 0 with q | q
  ·exact absurd ⟨k, v, d, h1, h2, h3, h4, q⟩ hc
  ·exact q
 have hinr : ∀ l ∈ L, -4503599627370496 ≤ l.2.2 := fun l hl => (hS.most l hl).1
 let P : Int → Int → Prop := fun v d => ∃ vs, Wl L (fun u => 0 ≤ u ∧ u < N) vs v d ∧ (v :: vs).Nodup
 have hP : ∀ v : Int, 0 ≤ v ∧ v < N → ∃ d, P v d ∧ ∀ e, P v e → d ≤ e := fun v hv => aSS (B := -(60 * 4503599627370496)) ⟨0, [], .nil hv, by simp⟩ (by
  rintro d ⟨vs, h1, h2⟩
  have q1 := h1.lowM hinr
  have q2 := h1.short hS.inr (fun w hw => hw) h2
  have : ((vs.length : Nat) : Int) * 4503599627370496 ≤ 60 * 4503599627370496 := by omega
  omega)
 have ho : ady L N = true := by
  refine (aeB hS.links (by omega)).2 ⟨fun v => if hv : 0 ≤ v ∧ v < (N : Int) then Classical.choose (hP v hv) else 0, fun u v m hl => ?_⟩
  have hr := hS.inr _ hl
  dsimp only at hr
  obtain ⟨⟨vs, hw, hnd⟩, hu2⟩ := Classical.choose_spec (hP u hr.1)
  obtain ⟨_, hv2⟩ := Classical.choose_spec (hP v hr.2)
  have e1 : (if hv : 0 ≤ u ∧ u < (N : Int) then Classical.choose (hP u hv) else 0) = Classical.choose (hP u hr.1) := dif_pos hr.1
  have e2 : (if hv : 0 ≤ v ∧ v < (N : Int) then Classical.choose (hP v hv) else 0) = Classical.choose (hP v hr.2) := dif_pos hr.2
  dsimp only
  rw [e1, e2]
  generalize Classical.choose (hP u hr.1) = a at *
  generalize Classical.choose (hP v hr.2) = b at *
  by_cases hv : v ∈ u :: vs
  ·obtain ⟨vs1, d1, k, d2, g1, g2, g3, g4, g5⟩ := hw.cutK v hv
   have hlen := hw.short hS.inr (fun w hw => hw) hnd
   have := hcl (by omega) (by omega) hr.2 (g3.snoc hl)
   have := hv2 d1 ⟨vs1, g1, hnd.sublist g2.sublist⟩
   omega
  ·have := hv2 (a + m) ⟨u :: vs, hw.step hl, List.nodup_cons.2 ⟨hv, hnd⟩⟩
   omega
 rw [hno] at ho
 cases ho
def ahU (L : List Lk) (N : Nat) (k : Nat) (l : Lk) : Bool := decide (gv (exL L N l.1 k) l.2.1 ≠ ad0) && decide (l.2.2 + gv (exL L N l.1 k) l.2.1 < 0)
theorem aPl (hS : aep L N) (hno : ady L N = false) : ∃ k, k < N ∧ ∃ l ∈ L, ahU L N k l = true := by
 have hn := hS.n60
 obtain ⟨k, v, d, h1, h2, h3, h4, h5⟩ := aOC hS hno
 cases h4 with
 | nil => omega
 | @step k v w m d hl hk =>
   have hr := hS.inr _ hl
   obtain ⟨e1, e2⟩ := (aHH hS h3 k (by omega) w hr.2.1 hr.2.2).2 d hk
   refine ⟨k, by omega, (v, w, m), hl, ?_⟩
   simp only [ahU, Bool.and_eq_true, decide_eq_true_eq]
   exact ⟨e2, by omega⟩
theorem ayd (hS : aep L N) {k : Nat} (hk : k < N) {l : Lk} (hl : l ∈ L) (hb : ahU L N k l = true) :
 ∃ q, agh L (exL L N l.1) (fun n => ilt n 0) (k + 1) l.1 0 [] = q ∧ q.length = k + 1 ∧ (∀ i ∈ q, akB L i = false) ∧ ahc L q = 0 ∧ ∃ u s, aho L u 0 q = (u, s, true) ∧ s < 0 := by
 have hn := hS.n60
 have hr := hS.inr _ hl
 simp only [ahU, Bool.and_eq_true, decide_eq_true_eq] at hb
 have hlim := apL hS hr.1 k (by omega)
 obtain ⟨_, i2, _⟩ := avf hS (B := k * 4503599627370496) (by omega) (by omega) hlim hr.1.1 hr.1.2 L (fun _ h => h) (List.replicate N ad0) (by simp) (aBz (by omega))
 have h2 : gv (exL L N l.1 (k + 1)) l.1 ≤ l.2.2 + gv (exL L N l.1 k) l.2.1 := i2 l.2.1 l.2.2 hl hb.1
 have hne : gv (exL L N l.1 (k + 1)) l.1 ≠ ad0 := fun h => by rw [h] at h2; unfold ad0 at h2; omega
 obtain ⟨q, q1, q2, q3, s, q4, q5⟩ := aBS hS hr.1 (fun n => ilt n 0) (k + 1) (by omega) l.1 0 [] hr.1.1 hr.1.2 hne (by rw [Int.zero_add]; exact decide_eq_true (by omega))
 rw [List.nil_append] at q1
 have hs : s < 0 := of_decide_eq_true q5
 refine ⟨q, q1, q2, q3, ?_, l.1, s, q4, hs⟩
 have hany : q.any (akB L) = false := by
  rw [List.any_eq_false]
  exact fun i hi => by rw [q3 i hi]; simp
 cases q with
 | nil => simp at q2
 | cons i t =>
   have hi := q3 i (by simp)
   simp only [akB, Bool.or_eq_false_iff, decide_eq_false_iff_not] at hi
   have hg : L[i.toNat]? = some L[i.toNat] := List.getElem?_eq_getElem (by omega)
   have hfst : (L[i.toNat]?.getD (0, 0, 0)).1 = l.1 := by
    unfold aho at q4
    by_cases h : (L[i.toNat]?.getD (0, 0, 0)).1 = l.1
    ·exact h
    ·rw [if_neg h] at q4; simp at q4
   have hix : af8 L (i :: t) = 0 := by
    unfold af8
    rw [if_neg (by omega), hany]
    rfl
   unfold ahc
   rw [hix, if_neg (by simp)]
   dsimp only
   rw [hfst, q4]
   unfold aNU
   dsimp only
   rw [if_pos ⟨rfl, rfl, hs⟩]
end
end Go.Proofs.ZzM
end
noncomputable section
namespace Go.Proofs.ZzM
open Go Go.Am
theorem aPd {b : acz} (h : In b) (n : Int × Int) (upper : Bool) : In (ajL b n upper).1.1 := by
 have h0 : In ajJ := ⟨⟨by simp [ajJ], by simp [ajJ], by simp [ajJ], by simp [ajJ], by simp [ajJ], by simp [ajJ]⟩, by simp [ajJ]⟩
 unfold ajL
 by_cases e : (adv b [n]).2 = 0
 ·rw [if_neg (by simp [e])]
  have hr := (aiM h e).1
  split
  ·exact h0
  ·split
   ·exact aT3 (hr.good.inn hr.num) _ (by simp)
   ·exact h0
 ·rw [if_pos e]; exact h0
theorem y1 : avA exB (2, 10) = ((984, 1011), 0) := by decide +kernel
theorem y2 : avA exB (1, 30) = ((964, 1005), 0) := by decide +kernel
theorem y3 : aH6 exB (1, 10) (2, 10) = ((-6, 11), 0) := by decide +kernel
theorem y4 : aU4 exB 10 [1, 2] = ((1979, 2018), 0) := by decide +kernel
theorem y5 : aR4 exB (2, 0) (990, 1010) = (3, 0) := by decide +kernel
theorem y6 : (ajL exB (2, 10) true).2 = 0 ∧ (ajL exB (2, 10) true).1.2.2.2.1 = 1011 := by decide +kernel
theorem y7 : aN9 exB (2, 10) exC = (10, 0) := by decide +kernel
theorem y8 : azs exB (2, 10) (900, 1100) exC = (true, 0) := by decide +kernel
theorem y9 : an0 exB (ajL exB (2, 10) true).1 = (true, 0) := by decide +kernel
theorem y10 : acu exB = 0 ∧ ady (acn exB) ((acd exB).length + 1) = true := by decide +kernel
theorem y11 : aiA (ajL exB (2, 10) true).1 = 0 := by decide +kernel
theorem aOq : acr = some true := by
 unfold acr asc apR aoW
 have hc := aPd apY (2, 10) true
 have hv : I64 (ajL exB (2, 10) true).1.2.2.2.1 := by rw [y6.2]; unfold I64; omega
 rw [ab2]
 rw [show ((((0 : Int), (2 : Int)), [((1 : Int), (0 : Int), (1000 : Int), ((-5 : Int), (5 : Int)), ((1 : Int), (10 : Int)), (1 : Int)), ((2 : Int), (0 : Int), (1000 : Int), ((-50 : Int), (50 : Int)), ((1 : Int), (4 : Int)), (0 : Int))], [((1 : Int), (10 : Int))], [((1 : Int), ((20 : Int), (29 : Int)), (3 : Int))], [((7 : Int), (10 : Int), [(1 : Int)], [(2 : Int)], (-20 : Int), (1 : Int), (100 : Int), (200 : Int))], ([] : List (Int × Int))) : acz) = exB from rfl]
 rw [aCI apY, ab2, aCI apY, ab2, aPt apY, ab2, aU3 apY _ (by decide), ab2, aTL apY, ab2, aPs apY, ab2, y1, y2, y3, y4, y5, y6.1, y6.2]
 rw [show apS exB ((2 : Int), (10 : Int)) ((8 : Int), (10 : Int), [(1 : Int)], [(2 : Int)], (0 : Int), (0 : Int), (0 : Int), (0 : Int)) = some (aN9 exB (2, 10) exC) from aTG apY _ (c := exC) (by decide) (by decide),
  show akt exB ((2 : Int), (10 : Int)) ((900 : Int), (1100 : Int)) ((8 : Int), (10 : Int), [(1 : Int)], [(2 : Int)], (0 : Int), (0 : Int), (0 : Int), (0 : Int)) = some (azs exB (2, 10) (900, 1100) exC) from aPn apY _ _ (c := exC) (by decide) (by decide),
  aCF apY hc hv, azG ((acx _).1 y10.1) apY.num y10.2, ayj hc hv, y7, y8, y9, y11]
 rfl
end Go.Proofs.ZzM
end
noncomputable section
namespace Go.Proofs.ZzM
open Go Go.Am
theorem akm (id f t : Int) : ∀ l : List ayi, ac0 id f t l = ac0 id f t (l.filter fun x => x.1 == id)
 | [] => rfl
 | x :: l => by
   have ih := akm id f t l
   by_cases h : x.1 = id
   ·rw [List.filter_cons_of_pos (by simp [h])]
    simp only [ac0, ih]
   ·rw [List.filter_cons_of_neg (by simp [h]), ← ih]
    simp only [ac0, h, false_and, if_false, Int.zero_add]
theorem aHq {id f t : Int} {x y : List ayi} (h : x.Perm y) : ac0 id f t x = ac0 id f t y := by
 induction h with
 | nil => rfl
 | cons a _ ih => simp only [ac0, ih]
 | swap a b l => simp only [ac0]; omega
 | trans _ _ h1 h2 => rw [h1, h2]
theorem aBw {b : acz} (h : adh b) (id : Int) : (b.2.2.2.1.filter fun x => x.1 == id).Nodup := by
 have hp : b.2.2.2.1.Pairwise fun x y => x ≠ y := by
  rw [List.pairwise_iff_getElem]
  intro i j hi hj hij e
  have hl := h.loans j _ (List.getElem?_eq_getElem hj)
  have hz := (aqs h (List.getElem_mem hj)).1
  unfold aBx at hl
  split at hl
  ·omega
  split at hl
  ·omega
  split at hl
  ·rename_i h3
   simp only [bne_iff_ne, ne_eq] at h3
   exact h3 hl
  split at hl
  ·omega
  rename_i h4
  have := List.any_eq_false.1 (Bool.eq_false_iff.2 h4) b.2.2.2.1[i] (by
   rw [List.mem_iff_getElem]
   exact ⟨i, by rw [List.length_take]; omega, by rw [List.getElem_take]⟩)
  rw [e] at this
  simp at this
  omega
 exact (hp.filter _)
section
variable {s b : acz} (hs : adh s) (hb : adh b) (hp : ayp s b = true)
include hs hb hp
theorem aqf : (∀ c ∈ s.2.2.2.2.1, c ∈ b.2.2.2.2.1) ∧ s.1 = b.1 ∧ (∀ g ∈ s.2.1, g ∈ b.2.1) ∧ (∀ u ∈ s.2.2.1, u.1 ∈ arJ s → u ∈ b.2.2.1) ∧ (∀ u ∈ b.2.2.1, u.1 ∈ arJ s → u ∈ s.2.2.1) ∧ (∀ u ∈ s.2.2.2.1, u.1 ∈ arJ s → u ∈ b.2.2.2.1) ∧ (∀ u ∈ b.2.2.2.1, u.1 ∈ arJ s → u ∈ s.2.2.2.1) := by
 unfold ayp ahk at hp
 simp only [Bool.and_eq_true, List.all_eq_true, Bool.or_eq_true, Bool.not_eq_true', decide_eq_true_eq, aze, Bool.not_true, Bool.false_eq_true, false_or] at hp
 obtain ⟨h1, h2, h3, h4, h5, h6, h7⟩ := hp
 have q : ∀ {x : Int}, x ∈ arJ s → ¬ (arJ s).contains x = false := fun hx e => by simp [hx] at e
 exact ⟨h1, h2, h3, fun u hu hm => (h4 u hu).resolve_left (q hm), fun u hu hm => (h5 u hu).resolve_left (q hm), fun u hu hm => (h6 u hu).resolve_left (q hm), fun u hu hm => (h7 u hu).resolve_left (q hm)⟩
theorem aIM {g : acT} (hg : g ∈ s.2.1) (f t : Int) : agv s g f t = agv b g f t := by
 obtain ⟨_, _, h3, h4, h5, h6, h7⟩ := aqf hs hb hp
 have hid : g.1 ∈ arJ s := List.mem_map.2 ⟨g, hg, rfl⟩
 unfold agv
 have e1 : ac0 g.1 f t s.2.2.2.1 = ac0 g.1 f t b.2.2.2.1 := by
  rw [akm, akm g.1 f t b.2.2.2.1]
  refine aHq ((List.perm_ext_iff_of_nodup (aBw hs g.1) (aBw hb g.1)).2 fun l => ?_)
  simp only [List.mem_filter, beq_iff_eq]
  exact ⟨fun ⟨a, e⟩ => ⟨h6 l a (by rw [e]; exact hid), e⟩, fun ⟨a, e⟩ => ⟨h7 l a (by rw [e]; exact hid), e⟩⟩
 have e2 : aH7 (ae5 s g.1 f t) = aH7 (ae5 b g.1 f t) := by
  refine aRV (azE _) (azE _) fun d => ?_
  rw [aqe, aqe]
  unfold ae5
  simp only [List.mem_map, List.mem_filter, Bool.and_eq_true, beq_iff_eq]
  exact ⟨fun ⟨u, ⟨a, e, q⟩, r⟩ => ⟨u, ⟨h4 u a (by rw [e]; exact hid), e, q⟩, r⟩, fun ⟨u, ⟨a, e, q⟩, r⟩ => ⟨u, ⟨h5 u a (by rw [e]; exact hid), e, q⟩, r⟩⟩
 rw [e1, e2]
theorem aOv {g : acT} (hg : g ∈ s.2.1) : afZ b g.1 = afZ s g.1 := by
 obtain ⟨_, _, h3, _⟩ := aqf hs hb hp
 rw [ae8 hb.ids (h3 g hg), ae8 hs.ids hg]
theorem aIL {c : Cmp} (hc : c ∈ s.2.2.2.2.1) {p : List Int} (hpl : ∀ x ∈ p, x ∈ c.2.2.1 ++ c.2.2.2.1) : ar0 (agF s) p = ar0 (agF b) p := by
 unfold ar0
 cases p with
 | nil => rfl
 | cons x t =>
   obtain ⟨⟨g, hg, _⟩, _⟩ := hs.pile hc (hpl x (by simp))
   obtain ⟨hm, e⟩ := agf hg
   dsimp only
   rw [ags hs.ids, ags hb.ids, ← e, aOv hs hb hp hm]
theorem aIK {c : Cmp} (hc : c ∈ s.2.2.2.2.1) : aeO s c = aeO b c := by
 obtain ⟨_, hf, _⟩ := aqf hs hb hp
 have e1 : adC s c = adC b c := by
  unfold adC rateK
  rw [aIL hs hb hp hc (fun x hx => List.mem_append.2 (.inl (agM.1 hx).1)), aIL hs hb hp hc (fun x hx => List.mem_append.2 (.inr (agM.1 hx).1))]
 have e2 : agi s c = agi b c := by
  unfold agi
  rw [hf]
 unfold aeO
 rw [e1, e2]
theorem aP7 {f : Int → Int → Int} {z : Int} (hh : aPr b f z) : aPr s f z := by
 obtain ⟨h1, hf, h3, _⟩ := aqf hs hb hp
 refine ⟨fun g hg => ?_, fun c hc => ?_⟩
 ·have := hh.gauge g (h3 g hg)
  exact ⟨this.hi, this.lo, this.down, fun d e q1 q2 => by rw [aIM hs hb hp hg]; exact this.loss d e q1 q2⟩
 ·rw [aIK hs hb hp hc]
  exact hh.cmp c (h1 c hc)
end
theorem aMW {L : List Lk} {p : Int → Int} (hp : Pot L p) : ∀ (l : List Int) (u s : Int), (∀ i ∈ l, 0 ≤ i ∧ i.toNat < L.length) → (aho L u s l).2.2 = true → p (aho L u s l).1 - p u ≤ (aho L u s l).2.1 - s
 | [], u, s, _, _ => by simp [aho]
 | i :: t, u, s, hi, hw => by
   have hx := hi i (by simp)
   have hg : L[i.toNat]? = some L[i.toNat] := List.getElem?_eq_getElem hx.2
   have hm := List.mem_of_getElem? hg
   generalize L[i.toNat] = x at hg hm
   unfold aho at hw ⊢
   rw [hg] at hw ⊢
   simp only [Option.getD_some] at hw ⊢
   split at hw
   ·rename_i hc
    rw [if_pos hc]
    have h1 := hp x.1 x.2.1 x.2.2 hm
    have h2 := aMW hp t x.2.1 (s + x.2.2) (fun j hj => hi j (by simp [hj])) hw
    rw [hc] at h1
    omega
   ·cases hw
end Go.Proofs.ZzM
end
noncomputable section
namespace Go.Proofs.ZzM
open Go Go.Am
section
variable {b : acz} {ids : List Int}
theorem adh.distinct (h : adh b) : b.2.2.2.2.1.Pairwise fun a c => a.1 ≠ c.1 := by
 rw [List.pairwise_iff_getElem]
 intro i j hi hj hij he
 have hz := h.compares j _ (List.getElem?_eq_getElem hj)
 unfold aln at hz
 have hany : (b.2.2.2.2.1.take j).any (fun x => x.1 == b.2.2.2.2.1[j].1) = true := by
  rw [List.any_eq_true]
  exact ⟨b.2.2.2.2.1[i], List.mem_iff_getElem.2 ⟨i, by rw [List.length_take]; omega, by rw [List.getElem_take]⟩, by simp [he]⟩
 rw [hany] at hz
 (repeat' split at hz) <;> first | omega | simp_all
theorem aQ8 {α β : Type} (f g : α → List β) : ∀ l : List α, (∀ a ∈ l, (f a).length ≤ (g a).length) → (l.flatMap f).length ≤ (l.flatMap g).length
 | [], _ => Nat.le_refl _
 | a :: l, h => by
   rw [List.flatMap_cons, List.flatMap_cons, List.length_append, List.length_append]
   have := h a (by simp)
   have := aQ8 f g l fun c hc => h c (by simp [hc])
   omega
theorem lt_len : ∀ {x y : List Int}, x.Pairwise (· < ·) → (∀ a ∈ x, a ∈ y) → x.length ≤ y.length := by
 intro x y hx h
 exact (List.Nodup.length_le_of_subset (hx.imp fun h => by omega) h)
end
end Go.Proofs.ZzM
end
noncomputable section
namespace Go.Proofs.ZzM
open Go Go.Am
structure SubB (s b : acz) : Prop where
 film : s.1 = b.1
 gauges : s.2.1.Sublist b.2.1
 uses : s.2.2.1.Sublist b.2.2.1
 usesId : ∀ u ∈ s.2.2.1, u.1 ∈ arJ s
 usesAll : ∀ u ∈ b.2.2.1, u.1 ∈ arJ s → u ∈ s.2.2.1
 loans : s.2.2.2.1.Sublist b.2.2.2.1
 loansId : ∀ l ∈ s.2.2.2.1, l.1 ∈ arJ s
 loansAll : ∀ l ∈ b.2.2.2.1, l.1 ∈ arJ s → l ∈ s.2.2.2.1
 cmps : s.2.2.2.2.1.Sublist b.2.2.2.2.1
 cmpsId : ∀ c ∈ s.2.2.2.2.1, ∀ x ∈ c.2.2.1 ++ c.2.2.2.1, x ∈ arJ s
 looks : ∀ n ∈ s.2.2.2.2.2, aKZ b n ∧ n.1 ∈ arJ s
 nK : s.2.2.2.2.2.length ≤ 10
theorem aS2 {α β : Type} (f : α → List β) {l m : List α} (h : l.Sublist m) : (l.flatMap f).length ≤ (m.flatMap f).length := by
 induction h with
 | slnil => exact Nat.le_refl _
 | cons a _ ih => rw [List.flatMap_cons, List.length_append]; omega
 | cons_cons a _ ih => rw [List.flatMap_cons, List.flatMap_cons, List.length_append, List.length_append]; omega
def MeetL (x l : ayi) : Prop := x.1 = l.1 ∧ x.2.1.1 ≤ l.2.1.2 ∧ l.2.1.1 ≤ x.2.1.2
theorem adh.apartL {b : acz} (h : adh b) : b.2.2.2.1.Pairwise fun x l => ¬ MeetL x l := by
 rw [List.pairwise_iff_getElem]
 rintro i j hi hj hij ⟨e1, e2, e3⟩
 have hz := h.loans j _ (List.getElem?_eq_getElem hj)
 have hany : (b.2.2.2.1.take j).any (fun x => x.1 == b.2.2.2.1[j].1 && (decide (x.2.1.1 ≤ b.2.2.2.1[j].2.1.2) && decide (b.2.2.2.1[j].2.1.1 ≤ x.2.1.2))) = true := by
  rw [List.any_eq_true]
  exact ⟨b.2.2.2.1[i], List.mem_iff_getElem.2 ⟨i, by rw [List.length_take]; omega, by rw [List.getElem_take]⟩, by simp [e1, e2, e3]⟩
 unfold aBx at hz
 rw [hany] at hz
 (repeat' split at hz) <;> first | omega | simp_all
section
variable {s b : acz} (h : SubB s b) (hb : adh b)
include h hb
theorem aLj : s.2.1.Pairwise fun a b => a.1 < b.1 := hb.ids.sublist h.gauges
theorem aPP {id : Int} (hid : id ∈ arJ s) : afZ s id = afZ b id := by
 obtain ⟨g, hg, rfl⟩ := List.mem_map.1 hid
 rw [ae8 (aLj h hb) hg, ae8 hb.ids (h.gauges.subset hg)]
theorem ay5 {id : Int} (hid : id ∈ arJ s) (d : Int) : ahp (agF s) id d = ahp (agF b) id d := by
 unfold ahp
 rw [ags (aLj h hb), ags hb.ids, aPP h hb hid]
theorem aPN {id d : Int} (hid : id ∈ arJ s) : aPu (agF s) id d = aPu (agF b) id d := by
 unfold aPu
 rw [ay5 h hb hid]
theorem aSn {g : acT} (hg : g ∈ s.2.1) : ∀ d ∈ acC s g, d ∈ acC b g := by
 intro d hd
 rcases agl.1 hd with e | ⟨c, hc, h1, h2⟩ | ⟨n, hn, e, e2⟩
 ·exact agl.2 (.inl e)
 ·exact agl.2 (.inr (.inl ⟨c, h.cmps.subset hc, h1, h2⟩))
 ·obtain ⟨⟨g', hg', e', hd'⟩, _⟩ := h.looks n hn
  rw [aOW hb (h.gauges.subset hg) hg' (by omega), ← e2]
  exact hd'
theorem aPO : (acd s).length ≤ (acd b).length := by
 have h1 : (acd s).length ≤ (s.2.1.flatMap fun g => (acC b g).map fun d => ((g.1, d) : Int × Int)).length := aQ8 _ _ _ fun g hg => by
  rw [List.length_map, List.length_map]
  exact lt_len (ap1 _ g) (aSn h hb hg)
 exact Nat.le_trans h1 (aS2 _ h.gauges)
theorem aSo {id d : Int} (ha : aqX b id d = none) : aqX s id d = none := by
 unfold aqX at ha ⊢
 rw [List.find?_eq_none] at ha ⊢
 exact fun l hl => ha l (h.loans.subset hl)
theorem aSm : adh s := by
 have n1 := h.gauges.length_le; have n2 := h.uses.length_le; have n3 := h.loans.length_le; have n4 := h.cmps.length_le
 have m1 := hb.nG; have m2 := hb.nU; have m3 := hb.nL; have m4 := hb.nC
 have hn := aPO h hb
 have hN := hb.nodes; have hL := hb.links
 refine ⟨by rw [h.film]; exact hb.film, by omega, by omega, by omega, by omega, h.nK, fun g hg => hb.gauge g (h.gauges.subset hg), aLj h hb, fun u hu => ?_, fun i l hl => ?_, fun i c hc => ?_, fun n hn' => ?_, by omega, by omega⟩
 ·rw [aPN h hb (h.usesId u hu)]
  exact hb.uses u (h.uses.subset hu)
 ·have hlm := List.mem_of_getElem? hl
  obtain ⟨j, hj, hjl⟩ := List.mem_iff_getElem.1 (h.loans.subset hlm)
  have hz := hb.loans j l (by rw [List.getElem?_eq_getElem hj, hjl])
  unfold aBx at hz ⊢
  rw [ay5 h hb (h.loansId l hlm)]
  split at hz
  ·omega
  rename_i q1
  split at hz
  ·omega
  rename_i q2
  split at hz
  ·rename_i q3; simp only [bne_iff_ne, ne_eq] at q3; exact absurd hz q3
  rename_i q3
  split at hz
  ·omega
  split at hz
  ·omega
  rename_i q5
  rw [if_neg q1, if_neg q2, if_neg q3, if_neg ?_, if_neg ?_]
  ·intro hany
   obtain ⟨u, hu, he⟩ := List.any_eq_true.1 hany
   exact q5 (List.any_eq_true.2 ⟨u, h.uses.subset hu, he⟩)
  ·intro hany
   obtain ⟨x, hx, he⟩ := List.any_eq_true.1 hany
   obtain ⟨k, hk, hkx⟩ := List.mem_iff_getElem.1 hx
   rw [List.length_take] at hk
   rw [List.getElem_take] at hkx
   obtain ⟨hi, hil⟩ := List.getElem?_eq_some_iff.1 hl
   have hp := List.pairwise_iff_getElem.1 (hb.apartL.sublist h.loans) k i (by omega) hi (by omega)
   rw [hkx, hil] at hp
   simp only [Bool.and_eq_true, beq_iff_eq, decide_eq_true_eq] at he
   exact hp ⟨he.1, he.2.1, he.2.2⟩
 ·have hcm := List.mem_of_getElem? hc
  have hcb := h.cmps.subset hcm
  have hid := h.cmpsId c hcm
  obtain ⟨j, hj, hjc⟩ := List.mem_iff_getElem.1 hcb
  have hz := hb.compares j c (by rw [List.getElem?_eq_getElem hj, hjc])
  have hpz := hb.pilesOf hcb
  unfold aln at hz ⊢
  split at hz
  ·omega
  rename_i q1
  rw [if_neg q1, if_neg ?_]
  ·unfold as5 at hpz ⊢
   have r5 : (c.2.2.1 ++ c.2.2.2.1).any (fun id => ahp (agF s) id c.2.1 == 5) = false := by
    rw [List.any_eq_false]
    intro x hx
    rw [ay5 h hb (hid x hx)]
    obtain ⟨⟨g, hg, hd⟩, _⟩ := hb.pile hcb hx
    unfold ahp
    rw [ags hb.ids, hg]
    dsimp only
    rw [if_neg (by omega)]
    simp
   have r4 : (c.2.2.1 ++ c.2.2.2.1).any (fun id => ahp (agF s) id c.2.1 == 4) = false := by
    rw [List.any_eq_false]
    intro x hx
    rw [ay5 h hb (hid x hx)]
    obtain ⟨⟨g, hg, hd⟩, _⟩ := hb.pile hcb hx
    unfold ahp
    rw [ags hb.ids, hg]
    dsimp only
    rw [if_neg (by omega)]
    simp
   have r9 : (c.2.2.1 ++ c.2.2.2.1).any (fun id => (aqX s id c.2.1).isSome) = false := by
    rw [List.any_eq_false]
    intro x hx
    rw [aSo h hb (hb.pile hcb hx).2]
    simp
   rw [r5, r4, r9]
   simp only [Bool.false_eq_true, if_false]
   (repeat' split at hpz) <;> first | omega | (rename_i w1 w2 w3; rw [if_neg w1, if_neg w2, if_neg w3]) | skip
  ·intro hany
   obtain ⟨x, hx, he⟩ := List.any_eq_true.1 hany
   obtain ⟨k, hk, hkx⟩ := List.mem_iff_getElem.1 hx
   rw [List.length_take] at hk
   rw [List.getElem_take] at hkx
   obtain ⟨hi, hic⟩ := List.getElem?_eq_some_iff.1 hc
   have hp := List.pairwise_iff_getElem.1 (hb.distinct.sublist h.cmps) k i (by omega) hi (by omega)
   rw [hkx, hic] at hp
   exact hp (eq_of_beq he)
 ·obtain ⟨⟨g, hg, e, hd⟩, hid⟩ := h.looks n hn'
  rw [aPN h hb hid]
  have hday := hb.day hg hd
  unfold aPu ahp
  rw [ags hb.ids, ← e, ae8 hb.ids hg]
  dsimp only
  rw [if_neg (by simp [aLc, inP]; omega), if_neg (by omega)]
theorem aSl : ayp s b = true := by
 unfold ayp ahk
 simp only [Bool.and_eq_true, List.all_eq_true, Bool.or_eq_true, Bool.not_eq_true', decide_eq_true_eq, aze, Bool.not_true, Bool.false_eq_true, false_or]
 have q : ∀ {x : Int}, x ∈ arJ s ∨ (arJ s).contains x = false := fun {x} => by
  by_cases hx : x ∈ arJ s
  ·exact .inl hx
  ·exact .inr (by simpa using hx)
 exact ⟨fun c hc => h.cmps.subset hc, h.film, fun g hg => h.gauges.subset hg, fun u hu => .inr (h.uses.subset hu), fun u hu => (q (x := u.1)).elim (fun hx => .inr (h.usesAll u hu hx)) .inl,
  fun u hu => .inr (h.loans.subset hu), fun u hu => (q (x := u.1)).elim (fun hx => .inr (h.loansAll u hu hx)) .inl⟩
end
theorem anJ (w : List Int) : ∀ (l : List Cmp) (i : Nat), (alO w i l).Sublist l
 | [], _ => List.Sublist.slnil
 | c :: t, i => by
   unfold alO
   split
   ·exact (anJ w t (i + 1)).cons_cons c
   ·exact (anJ w t (i + 1)).cons c
theorem aBC {w : List Int} {c : Cmp} : ∀ {l : List Cmp} {i : Nat}, c ∈ alO w i l ↔ ∃ j : Nat, l[j]? = some c ∧ ((i + j : Nat) : Int) ∈ w
 | [], i => by simp [alO]
 | a :: t, i => by
   unfold alO
   have ih := @aBC w c t (i + 1)
   have e : (∃ j : Nat, (a :: t)[j]? = some c ∧ ((i + j : Nat) : Int) ∈ w) ↔ (a = c ∧ ((i : Nat) : Int) ∈ w) ∨ ∃ j : Nat, t[j]? = some c ∧ ((i + 1 + j : Nat) : Int) ∈ w := by
    constructor
    ·rintro ⟨j, h1, h2⟩
     cases j with
     | zero => exact .inl ⟨by simpa using h1, by simpa using h2⟩
     | succ j => exact .inr ⟨j, by simpa using h1, by rw [show i + 1 + j = i + (j + 1) by omega]; exact h2⟩
    ·rintro (⟨h1, h2⟩ | ⟨j, h1, h2⟩)
     ·exact ⟨0, by simp [h1], by simpa using h2⟩
     ·exact ⟨j + 1, by simpa using h1, by rw [show i + (j + 1) = i + 1 + j by omega]; exact h2⟩
   rw [e]
   split
   ·rename_i hc
    rw [List.mem_cons, ih]
    have hc' : ((i : Nat) : Int) ∈ w := by simpa using hc
    constructor
    ·rintro (h1 | h1)
     ·exact .inl ⟨h1.symm, hc'⟩
     ·exact .inr h1
    ·rintro (h1 | h1)
     ·exact .inl h1.1.symm
     ·exact .inr h1
   ·rename_i hc
    rw [ih]
    have hc' : ¬ ((i : Nat) : Int) ∈ w := by simpa using hc
    exact ⟨.inr, fun h1 => h1.elim (fun h2 => absurd h2.2 hc') id⟩
section
variable {b : acz} (hb : adh b) {ss looks : List (Int × Int)} (hss : ∀ s ∈ ss, aTH b s) (hlk : ∀ n ∈ looks, aKZ b n) (hk : looks.length ≤ 10)
include hb
theorem aNS {x : Int} (hx : x ∈ avs b ss looks) (hg : ∃ g ∈ b.2.1, g.1 = x) : x ∈ arJ (aCb b ss looks) := by
 obtain ⟨g, hg, rfl⟩ := hg
 exact List.mem_map.2 ⟨g, List.mem_filter.2 ⟨hg, by simpa using hx⟩, rfl⟩
theorem aRs {x : Int} (hx : x ∈ arJ (aCb b ss looks)) : x ∈ avs b ss looks := by
 obtain ⟨g, hg, rfl⟩ := List.mem_map.1 hx
 simpa using (List.mem_filter.1 hg).2
include hlk hk
theorem aRp : SubB (aCb b ss looks) b := by
 refine ⟨rfl, List.filter_sublist, List.filter_sublist, fun u hu => ?_, fun u hu hid => ?_, List.filter_sublist, fun l hl => ?_, fun l hl hid => ?_, anJ _ _ _, fun c hc x hx => ?_, fun n hn => ?_, hk⟩
 ·obtain ⟨h1, h2⟩ := List.mem_filter.1 hu
  obtain ⟨_, g, hg, _⟩ := aIc hb (hb.uses u h1)
  exact aNS hb (by simpa using h2) ⟨g, agf hg⟩
 ·exact List.mem_filter.2 ⟨hu, by simpa using aRs hb hid⟩
 ·obtain ⟨h1, h2⟩ := List.mem_filter.1 hl
  obtain ⟨i, hi, e⟩ := List.mem_iff_getElem.1 h1
  have hz := hb.loans i l (by rw [List.getElem?_eq_getElem hi, e])
  have hm : ahp (agF b) l.1 l.2.1.1 = 0 := by
   unfold aBx at hz
   split at hz
   ·omega
   split at hz
   ·omega
   split at hz
   ·rename_i q; simp only [bne_iff_ne, ne_eq] at q; exact absurd hz q
   ·rename_i q; simpa using q
  obtain ⟨g, hg, _⟩ := avV hb hm
  exact aNS hb (by simpa using h2) ⟨g, agf hg⟩
 ·exact List.mem_filter.2 ⟨hl, by simpa using aRs hb hid⟩
 ·obtain ⟨j, hj, hw⟩ := aBC.1 (show c ∈ alO (aqD ss) 0 b.2.2.2.2.1 from hc)
  rw [Nat.zero_add] at hw
  obtain ⟨q, hq, e⟩ := List.mem_map.1 hw
  obtain ⟨h1, h2⟩ := List.mem_filter.1 hq
  obtain ⟨⟨g, hg, _⟩, _⟩ := hb.pile (List.mem_of_getElem? hj) hx
  refine aNS hb (List.mem_append.2 (.inl (List.mem_flatMap.2 ⟨q, h1, ?_⟩))) ⟨g, agf hg⟩
  unfold aoI
  rw [if_pos (by simpa using h2), e, Int.toNat_natCast, hj]
  exact hx
 ·obtain ⟨g, hg, e, hd⟩ := hlk n hn
  exact ⟨⟨g, hg, e, hd⟩, aNS hb (List.mem_append.2 (.inr (List.mem_map.2 ⟨n, hn, rfl⟩))) ⟨g, hg, e⟩⟩
theorem aNT : adh (aCb b ss looks) := aSm (aRp hb hlk hk) hb
theorem aNR : ayp (aCb b ss looks) b = true := aSl (aRp hb hlk hk) hb
end
theorem aHD {α β γ : Type} (F : α → List β) (G : Nat → α → List γ) : ∀ (l : List α) (k : Nat), (∀ i a, l[i]? = some a → (F a).length = (G (k + i) a).length) →
 ∀ (n : Nat) (x : β) (y : γ), (l.flatMap F)[n]? = some x → ((l.mapIdx fun i a => G (k + i) a).flatten)[n]? = some y → ∃ i a, l[i]? = some a ∧ x ∈ F a ∧ y ∈ G (k + i) a
 | [], k, _, n, x, y, h, _ => by simp at h
 | a :: t, k, hl, n, x, y, h1, h2 => by
   rw [List.flatMap_cons] at h1
   rw [List.mapIdx_cons, List.flatten_cons] at h2
   have e0 := hl 0 a (by simp)
   rcases Nat.lt_or_ge n (F a).length with hn | hn
   ·rw [List.getElem?_append_left hn] at h1
    rw [List.getElem?_append_left (by rw [← e0]; exact hn)] at h2
    exact ⟨0, a, by simp, List.mem_of_getElem? h1, List.mem_of_getElem? h2⟩
   ·rw [List.getElem?_append_right hn] at h1
    rw [List.getElem?_append_right (by rw [← e0]; exact hn), ← e0] at h2
    have h2' : ((t.mapIdx fun i a => G (k + 1 + i) a).flatten)[n - (F a).length]? = some y := by
     have e : (fun (i : Nat) (a : α) => G (k + 1 + i) a) = fun i a => G (k + (i + 1)) a := by
      funext i a; rw [show k + 1 + i = k + (i + 1) by omega]
     rw [e]
     exact h2
    obtain ⟨i, c, q1, q2, q3⟩ := aHD F G t (k + 1) (fun i c hc => by
     have := hl (i + 1) c (by simpa using hc)
     rw [show k + 1 + i = k + (i + 1) by omega]
     exact this) _ x y h1 h2'
    exact ⟨i + 1, c, by simpa using q1, q2, by rw [show k + (i + 1) = k + 1 + i by omega]; exact q3⟩
theorem aKo (b : acz) (i : Nat) (g : acT) : (acR b g).length = (acQ b i g).length := by
 unfold acQ acR
 rw [List.length_append, List.length_append, afE _ _ (fun _ => rfl), afE _ _ (fun _ => rfl)]
 rfl
theorem aSP {b : acz} {n : Nat} {x : Lk} {y : Int × Int} (h1 : (acn b)[n]? = some x) (h2 : (ads b)[n]? = some y) :
 ((y.1 = 1 ∨ y.1 = 2) ∧ ∃ g, b.2.1[y.2.toNat]? = some g ∧ x ∈ acR b g) ∨ (y.1 = 3 ∧ ∃ c, b.2.2.2.2.1[y.2.toNat]? = some c ∧ x ∈ acX b c ∧ y.2 = ((y.2.toNat : Nat) : Int)) := by
 have hlen : ((b.2.1.mapIdx (acQ b)).flatten).length = (b.2.1.flatMap (acR b)).length := by
  rw [List.length_flatten, List.length_flatMap]
  congr 1
  refine List.ext_getElem (by simp) fun i q1 q2 => ?_
  simp only [List.getElem_map, List.getElem_mapIdx]
  exact (aKo b i _).symm
 unfold acn at h1
 unfold ads at h2
 rcases Nat.lt_or_ge n (b.2.1.flatMap (acR b)).length with hn | hn
 ·rw [List.getElem?_append_left hn] at h1
  rw [List.getElem?_append_left (by rw [hlen]; exact hn)] at h2
  have hm := aBL y (List.mem_of_getElem? h2)
  have h2' : ((b.2.1.mapIdx fun i a => acQ b (0 + i) a).flatten)[n]? = some y := by
   have e : (fun (i : Nat) (a : acT) => acQ b (0 + i) a) = acQ b := by funext i a; rw [Nat.zero_add]
   rw [e]; exact h2
  obtain ⟨i, g, q1, q2, q3⟩ := aHD (acR b) (acQ b) b.2.1 0 (fun i g _ => aKo b _ g) n x y h1 h2'
  rw [Nat.zero_add] at q3
  have hy : y.2 = (i : Int) := by
   unfold acQ at q3
   rcases List.mem_append.1 q3 with h | h
   ·simp at h; rw [h]
   ·obtain ⟨_, _, h⟩ := List.mem_flatMap.1 h
    simp at h; rw [h]
  exact .inl ⟨hm.1, g, by rw [hy, Int.toNat_natCast]; exact q1, q2⟩
 ·rw [List.getElem?_append_right hn] at h1
  rw [List.getElem?_append_right (by rw [hlen]; exact hn), hlen] at h2
  have hm := aCc y (List.mem_of_getElem? h2)
  have h2' : ((b.2.2.2.2.1.mapIdx fun i (a : Cmp) => (fun (i : Nat) (_ : Cmp) => [((3 : Int), (i : Int)), ((3 : Int), (i : Int))]) (0 + i) a).flatten)[n - (b.2.1.flatMap (acR b)).length]? = some y := by
   have e : (fun (i : Nat) (_ : Cmp) => [((3 : Int), ((0 + i : Nat) : Int)), ((3 : Int), ((0 + i : Nat) : Int))]) = fun (i : Nat) (_ : Cmp) => [((3 : Int), (i : Int)), ((3 : Int), (i : Int))] := by funext i _; rw [Nat.zero_add]
   exact (congrArg (fun f => ((b.2.2.2.2.1.mapIdx f).flatten)[n - (b.2.1.flatMap (acR b)).length]?) e).trans h2
  obtain ⟨i, c, q1, q2, q3⟩ := aHD (acX b) (fun (i : Nat) (_ : Cmp) => [((3 : Int), (i : Int)), ((3 : Int), (i : Int))]) b.2.2.2.2.1 0 (fun i c _ => rfl) _ x y h1 h2'
  have hy : y.2 = (i : Int) := by simp at q3; rw [q3]
  exact .inr ⟨hm.1, c, by rw [hy, Int.toNat_natCast]; exact q1, q2, by rw [hy, Int.toNat_natCast]⟩
section
variable {b : acz} (hb : adh b) {l : List Int} (hl : ∀ i ∈ l, 0 ≤ i ∧ i.toNat < (acn b).length) {looks : List (Int × Int)} (hlk : ∀ n ∈ looks, aKZ b n) (hk : looks.length ≤ 10)
include hb hl hlk hk
theorem aRr {f : Int → Int → Int} {z : Int} (hh : aPr (aCb b (aht b l) looks) f z) : ∀ i ∈ l, ∀ x, (acn b)[i.toNat]? = some x → azN b f z x.2.1 ≤ azN b f z x.1 + x.2.2 := by
 intro i hi x hx
 have hs := aNT hb hlk hk (ss := aht b l)
 have hp := aNR hb hlk hk (ss := aht b l)
 have hr := hl i hi
 have hsx : (ads b)[i.toNat]? = some ((ads b)[i.toNat]'(by rw [avE hb]; exact hr.2)) := List.getElem?_eq_getElem _
 generalize (ads b)[i.toNat]'(by rw [avE hb]; exact hr.2) = y at hsx
 have hys : y ∈ aht b l := List.mem_map.2 ⟨i, hi, by rw [hsx]; rfl⟩
 rcases aSP hx hsx with ⟨hk1, g, hg, hm⟩ | ⟨hk1, c, hc, hm, e⟩
 ·have hgb := List.mem_of_getElem? hg
  have hgs : g ∈ (aCb b (aht b l) looks).2.1 := by
   refine List.mem_filter.2 ⟨hgb, ?_⟩
   simp only [List.contains_iff_mem]
   refine List.mem_append.2 (.inl (List.mem_flatMap.2 ⟨y, hys, ?_⟩))
   unfold aoI
   rw [if_neg (by omega), hg]
   simp
  have hG : aTM b f z g := by
   have := hh.gauge g hgs
   exact ⟨this.hi, this.lo, this.down, fun d e q1 q2 => by rw [← aIM hs hb hp hgs]; exact this.loss d e q1 q2⟩
  exact (ahM hb hg).2 (avL hb hgb hG) x hm
 ·have hcb := List.mem_of_getElem? hc
  have hcs : c ∈ (aCb b (aht b l) looks).2.2.2.2.1 := aBC.2 ⟨y.2.toNat, hc, by
   rw [Nat.zero_add, ← e]
   exact List.mem_map.2 ⟨y, List.mem_filter.2 ⟨hys, by simp [hk1]⟩, rfl⟩⟩
  have h1 := hh.cmp c hcs
  rw [aIK hs hb hp hcs] at h1
  have h2 := as3 (f := f) (z := z) hb (c := c) (fun x hx => aiH hb hcb hx)
  unfold acX at hm
  simp only [List.mem_cons, List.not_mem_nil, or_false] at hm
  rcases hm with rfl | rfl
  ·dsimp only; omega
  ·dsimp only; omega
end
theorem aIa {L : List Lk} {p : Int → Int} : ∀ (l : List Int) (u s : Int), (∀ i ∈ l, akB L i = false) → (∀ i ∈ l, ∀ x, L[i.toNat]? = some x → p x.2.1 ≤ p x.1 + x.2.2) → (aho L u s l).2.2 = true → p (aho L u s l).1 - p u ≤ (aho L u s l).2.1 - s
 | [], u, s, _, _, _ => by unfold aho; dsimp only; omega
 | i :: t, u, s, hi, hp, h => by
   unfold aho at h ⊢
   have h0 := hi i (by simp)
   simp only [akB, Bool.or_eq_false_iff, decide_eq_false_iff_not] at h0
   have hg : L[i.toNat]? = some L[i.toNat] := List.getElem?_eq_getElem (by omega)
   have hx := hp i (by simp) _ hg
   rw [hg] at h ⊢
   simp only [Option.getD_some] at h ⊢
   by_cases hu : L[i.toNat].1 = u
   ·rw [if_pos hu] at h ⊢
    have := aIa t _ _ (fun j hj => hi j (by simp [hj])) (fun j hj => hp j (by simp [hj])) h
    rw [hu] at hx
    omega
   ·rw [if_neg hu] at h
    cases h
theorem ayh {L : List Lk} {i : Int} : akB L i = false ↔ 0 ≤ i ∧ i.toNat < L.length := by
 simp only [akB, Bool.or_eq_false_iff, decide_eq_false_iff_not]
 omega
section
variable {B : acz} (hR : Room B) {n : Int × Int} (hn : aKZ B n) (upper : Bool)
include hR hn
end
section
variable {b : acz} (hb : adh b) {q : List Int} (hq : ∀ i ∈ q, akB (acn b) i = false) {u s : Int} (hw : aho (acn b) u 0 q = (u, s, true)) (hs : s < 0)
include hb hq hw hs
theorem aRt : adh (aCb b (aht b q) []) ∧ ayp (aCb b (aht b q) []) b = true ∧ ady (acn (aCb b (aht b q) [])) ((acd (aCb b (aht b q) [])).length + 1) = false := by
 have hl : ∀ i ∈ q, 0 ≤ i ∧ i.toNat < (acn b).length := fun i hi => ayh.1 (hq i hi)
 have h0 : ∀ m ∈ ([] : List (Int × Int)), aKZ b m := fun m hm => by simp at hm
 have hg := aNT hb (ss := aht b q) h0 (by simp)
 refine ⟨hg, aNR hb h0 (by simp), ?_⟩
 rw [Bool.eq_false_iff]
 intro ho
 obtain ⟨f, z, hf⟩ := (aoT hg).1 ho
 have := aIa (p := azN b f z) q u 0 hq (aRr hb hl h0 (by simp) hf) (by rw [hw])
 rw [hw] at this
 dsimp only at this
 omega
end
end Go.Proofs.ZzM
end
noncomputable section
namespace Go.Proofs.ZzM
open Go Go.Am
section
variable {L : List Lk} {N : Nat}
theorem aTl {ρ : Type} (c0 : List (List Int)) (c6 : List Lk) : @apt ρ c0 c6 = aTZ (fun n => ilt n 0) c0 c6 := rfl
def aoH (L : List Lk) (N : Nat) : List (List (List Int)) := (List.range N).map fun (n : Nat) => afV L N n N
theorem aOl {L : List Lk} {N n : Nat} (h : n < N) : (aoH L N)[n]? = some (afV L N n N) := by
 unfold aoH
 rw [List.getElem?_map, List.getElem?_range h]
 rfl
theorem aLh {ρ : Type} (hS : aep L N) (K : List (List (List Int)) → Option ρ) :
 acl (fun (v56 : Int × List (List (List Int))) kk59 => aiX (acv (List.replicate N ([] : (Val (.slice (.slice tI)))))) (N : Int) L v56.1 v56.2 (fun u57 u58 => kk59 (u57, u58)) K) ((0 : Int), (List.replicate N ([] : (Val (.slice (.slice tI)))))) = K (aoH L N) := by
 have hN := hS.n60
 refine ac3 (List.replicate N ()) (fun i => ((List.range i).map fun (n : Nat) => afV L N n N) ++ List.replicate (N - i) ([] : List (List Int))) _ (by simp) (fun i a hi ha kn => ?_) (fun kn => ?_)
 ·try dsimp only
  unfold aiX
  rw [List.length_replicate] at hi
  rw [acB, List.length_replicate, acs (decide_eq_true (by omega)), aNL hS ⟨by omega, by omega⟩ (by omega), ab2]
  have hlen : (((List.range i).map fun (n : Nat) => afV L N n N) ++ List.replicate (N - i) ([] : List (List Int))).length = N := by simp; omega
  rw [show adx (((List.range i).map fun (n : Nat) => afV L N n N) ++ List.replicate (N - i) ([] : List (List Int))) = (N : Int) by unfold adx; rw [hlen], aeQ (by omega) (by omega), Int.toNat_natCast]
  have hget : (((List.range i).map fun (n : Nat) => afV L N n N) ++ List.replicate (N - i) ([] : List (List Int)))[i]? = some [] := by
   rw [List.getElem?_append_right (by simp), List.getElem?_replicate, if_pos (by simp; omega)]
  rw [agT hget, acq (by omega) (by omega)]
  congr 2
  rw [List.set_append_right _ _ (by simp), List.range_succ, List.map_append]
  have e : N - i = (N - (i + 1)) + 1 := by omega
  rw [e, List.replicate_succ]
  simp
 ·try dsimp only
  unfold aiX
  rw [acB, List.length_replicate, List.length_replicate, acm (decide_eq_false (by omega))]
  unfold aoH
  simp
theorem aIt {ρ : Type} (hS : aep L N) {k : Nat} (hk : k < N) (k0 : Unit → Option ρ) (k1 : Int × List Int → Option ρ) (k2 : Unit → Option ρ) :
 acl (fun (v48 : Int) kk50 => aiW ((k : Int) + 1) L (acv L) (N : Int) L (aoH L N) v48 (fun u49 => kk50 u49) k0 k1 k2) (0 : Int) =
  match L.find? (ahU L N k) with | some l => k1 (0, agh L (exL L N l.1) (fun n => ilt n 0) (k + 1) l.1 0 []) | none => k2 () := by
 have hN := hS.n60
 have hl3 := hS.len
 rw [aHE]
 refine (afT L (ahU L N k) (fun j => match L[j.toNat]? with | some l => k1 (0, agh L (exL L N l.1) (fun n => ilt n 0) (k + 1) l.1 0 []) | none => k2 ()) (k2 ()) (fun i l hi hl kn => ?_) (fun kn => ?_)).trans ?_
 ·try dsimp only
  unfold aiW
  have hm := List.mem_of_getElem? hl
  have hr := hS.inr l hm
  have hmo := hS.most l hm
  have hto : ((l.1.toNat : Nat) : Int) = l.1 := by omega
  have hg : (aoH L N)[l.1.toNat]? = some (afV L N l.1 N) := by rw [aOl (by omega), hto]
  have hol : adx (aoH L N) = (N : Int) := by simp [adx, aoH]
  have hlim := apL hS hr.1 k (by omega) l.2.1
  rw [aco hi, aci hl, hol, aeQ hr.1.1 hr.1.2, agT hg, show ((k : Int) + 1 - 1) = (k : Int) by omega, acq (by omega) (by omega), aci (amJ (by omega)), ahK hr.2.1 (by rw [aB4]; omega)]
  unfold ahU
  by_cases h1 : gv (exL L N l.1 k) l.2.1 = ad0
  ·rw [acs (beq_iff_eq.2 h1), ack hi (by omega), if_neg (by simp [h1])]
  ·have hb := hlim h1
   rw [acm (beq_eq_false_iff_ne.2 h1), acq (by omega) (by omega)]
   by_cases h2 : l.2.2 + gv (exL L N l.1 k) l.2.1 < 0
   ·rw [acm (decide_eq_false (by omega)), acm (decide_eq_false (by omega)), aeQ hr.1.1 hr.1.2, agT hg, if_pos (by simp [h1, h2]), aTl, Int.toNat_natCast, hl]
    have hex : ∀ j, j < k + 1 → (afV L N l.1 N)[j]? = some (exL L N l.1 j) := fun j hj => amJ (by omega)
    have hx : ∀ j, j < k + 1 → Lim 900000000000000000 (exL L N l.1 j) ∧ (exL L N l.1 j).length = N := fun j hj => ⟨fun w hw => by
     have := apL hS hr.1 j (by omega) w hw; omega, aB4 _ _⟩
    have := aQ7 hS (fun n => ilt n 0) (rest := afV L N l.1 N) (R := exL L N l.1) (k0 := k + 1) (by omega) hex hx l.1 (fun z => k1 (0, z))
    rw [show (((k + 1 : Nat) : Int)) = (k : Int) + 1 by push_cast; rfl] at this
    exact this
   ·rw [acs (decide_eq_true (by omega)), ack hi (by omega), if_neg (by simp [h1, h2])]
 ·try dsimp only
  unfold aiW
  rw [acK]
 ·cases h : L.findIdx? (ahU L N k) with
  | none => rfl
  | some j => dsimp only; rw [Int.toNat_natCast]
theorem aK7 (hS : aep L N) (hno : ady L N = false) : ∃ (K : Nat) (l : Lk), K < N ∧ (∀ k, k < K → ∀ x ∈ L, ahU L N k x = false) ∧ L.find? (ahU L N K) = some l ∧ ai9 ((N : Int), L) = some (agh L (exL L N l.1) (fun n => ilt n 0) (K + 1) l.1 0 [], 0) := by
 have hN := hS.n60
 obtain ⟨K0, hK0, l0, hl0, hb0⟩ := aPl hS hno
 -- the first number of links
 have hex : ∃ K, K ≤ K0 ∧ (∃ l ∈ L, ahU L N K l = true) ∧ ∀ k, k < K → ∀ x ∈ L, ahU L N k x = false := by
  have : ∀ n : Nat, (∀ k, k < n → ∀ x ∈ L, ahU L N k x = false) ∨ ∃ K, K < n ∧ (∃ l ∈ L, ahU L N K l = true) ∧ ∀ k, k < K → ∀ x ∈ L, ahU L N k x = false := by
   intro n
   induction n with
   | zero => exact .inl fun k hk => by omega
   | succ n ih =>
     rcases ih with h | ⟨K, h1, h2⟩
     ·by_cases hx : ∃ l ∈ L, ahU L N n l = true
      ·exact .inr ⟨n, by omega, hx, h⟩
      ·refine .inl fun k hk x hxm => ?_
       rcases Nat.lt_or_eq_of_le (Nat.le_of_lt_succ hk) with h1 | rfl
       ·exact h k h1 x hxm
       ·exact Bool.eq_false_iff.2 fun e => hx ⟨x, hxm, e⟩
     ·exact .inr ⟨K, by omega, h2⟩
  rcases this (K0 + 1) with h | ⟨K, h1, h2, h3⟩
  ·have := h K0 (by omega) l0 hl0
   rw [hb0] at this; cases this
  ·exact ⟨K, by omega, h2, h3⟩
 obtain ⟨K, hK, ⟨l1, hl1, hb1⟩, hfirst⟩ := hex
 obtain ⟨l, hl⟩ : ∃ l, L.find? (ahU L N K) = some l := by
  cases h : L.find? (ahU L N K) with
  | none => have := List.find?_eq_none.1 h l1 hl1; exact absurd hb1 this
  | some l => exact ⟨l, rfl⟩
 refine ⟨K, l, by omega, hfirst, hl, ?_⟩
 unfold ai9 aur
 rw [afP hS, ab2, acm (by rfl), amR hS.links hS.n1 (by omega), ab2, if_neg (by simp [hno]), acm (by rfl), okN (by omega), Int.toNat_natCast]
 refine (aLh hS _).trans ?_
 refine afn (fun v => ∃ k : Nat, k ≤ K ∧ v = (k : Int) + 1) (fun v => (K + 2) - v.toNat) ?_ ⟨0, by omega, rfl⟩
 rintro v ⟨k, hk, rfl⟩
 rcases Nat.lt_or_eq_of_le hk with h | rfl
 ·refine .inr ⟨((k + 1 : Nat) : Int) + 1, ⟨k + 1, h, rfl⟩, by omega, fun kn => ?_⟩
  unfold ak3
  refine (aIt hS (by omega) _ _ _).trans ?_
  have hnone : L.find? (ahU L N k) = none := List.find?_eq_none.2 fun x hx => by rw [hfirst k h x hx]; simp
  rw [hnone]
  dsimp only
  rw [acq (by omega) (by omega)]
  congr 1
 ·refine .inl fun kn => ?_
  unfold ak3
  refine (aIt hS (by omega) _ _ _).trans ?_
  rw [hl]
end
theorem aFA {b : acz} (hg : adh b) (hn : ∀ g ∈ b.2.1, I64 g.2.2.2.2.1.1) (hno : ady (acn b) ((acd b).length + 1) = false) :
 ∃ c : aOg, ahP b = some (c, 0) ∧ c.2.1 = (0, 0) ∧ aen c = 0 ∧ ayp c.1 b = true ∧ adh c.1 ∧ (∀ g ∈ c.1.2.1, I64 g.2.2.2.2.1.1) ∧ c.2.2.2.1 = 0 ∧ c.2.2.1 = false ∧ c.2.2.2.2.length ≤ 60 ∧ ady (acn c.1) ((acd c.1).length + 1) = false ∧ ai9 (ay4 c.1) = some (c.2.2.2.2, 0) := by
 obtain ⟨K, l, hK, _, hl, hrun⟩ := aK7 hg.sys hno
 obtain ⟨q, q1, q2, q3, q4, u, s, q5, q6⟩ := ayd hg.sys hK (List.mem_of_find?_eq_some hl) (List.find?_some hl)
 obtain ⟨c1, c2, c3⟩ := aRt hg q3 q5 q6
 have hn60 := hg.sys.n60
 have hqi : ∀ i ∈ q, 0 ≤ i ∧ i.toNat < (acn b).length := fun i hi => ayh.1 (q3 i hi)
 have hsub : ∀ g ∈ (aCb b (aht b q) []).2.1, I64 g.2.2.2.2.1.1 := fun g hgm => hn g (List.mem_filter.1 hgm).1
 obtain ⟨K', l', hK', _, hl', hrun'⟩ := aK7 c1.sys c3
 obtain ⟨p, p1, p2, p3, p4, _⟩ := ayd c1.sys hK' (List.mem_of_find?_eq_some hl') (List.find?_some hl')
 have hn61 := c1.sys.n60
 refine ⟨(aCb b (aht b q) [], (0, 0), false, 0, p), ?_, rfl, ?_, c2, c1, hsub, rfl, rfl, by dsimp only; omega, c3, by rw [amP, hrun', p1]⟩
 ·unfold ahP ape
  rw [agn (hg.inn hn), ab2, aeu hg, acm (by rfl), show ((((acd b).length : Int) + 1, acn b), ads b, (0 : Int)).1 = ay4 b from rfl, amP, hrun, ab2, acm (by rfl)]
  dsimp only
  rw [q1, aEj hg hn (by omega) hqi, ab2, aT2 hg.size (by unfold aht; rw [List.length_map]; omega) (by simp) (aM6 hg hqi), ab2, agn (c1.inn hsub), ab2, aeu c1, show ((((acd (aCb b (aht b q) [])).length : Int) + 1, acn (aCb b (aht b q) [])), ads (aCb b (aht b q) []), (0 : Int)).1 = ay4 (aCb b (aht b q) []) from rfl, amP, hrun', ab2, acm (by rfl), p1]
 ·unfold aen
  rw [if_neg (by simp [(acx _).2 c1]), if_neg (by simp), if_pos p4]
def aM7 (L : List Lk) (N : Nat) : List (Int × Int) := (List.range N).map fun (n : Nat) => (-(dst L N n 0), dst L N 0 n)
section
variable {L : List Lk} {N : Nat}
theorem aTI (hS : aep L N) (ht : ayY L N) (ho : ady L N = true) : avo ((N : Int), L) = some (aM7 L N, 0) := by
 have hN := hS.n60
 have hN1 := hS.n1
 unfold avo aAJ
 rw [aN5 hS (fun n hn => by simp at hn) (by simp), ab2, if_pos ho, acm (by rfl), aCv hS.links hS.n1 (by omega) ho ⟨by omega, by omega⟩, ab2, okN (by omega), Int.toNat_natCast]
 have hlen0 : (aiz L N 0).length = N := aCw 0
 refine ac3 (List.replicate N ()) (fun i => ((List.range i).map fun (n : Nat) => dst L N n 0) ++ List.replicate (N - i) (0 : Int)) _ (by simp) (fun i a hi ha kn => ?_) (fun kn => ?_)
 ·try dsimp only
  unfold ak1
  rw [List.length_replicate] at hi
  rw [acB, List.length_replicate, acs (decide_eq_true (by omega)), aCv hS.links hS.n1 (by omega) ho ⟨by omega, by omega⟩, ab2, ahK (by omega) (by rw [aCw]; simp; omega)]
  have hlen : (((List.range i).map fun (n : Nat) => dst L N n 0) ++ List.replicate (N - i) (0 : Int)).length = N := by simp; omega
  rw [show adx (((List.range i).map fun (n : Nat) => dst L N n 0) ++ List.replicate (N - i) (0 : Int)) = (N : Int) by unfold adx; rw [hlen], aeQ (by omega) (by omega), Int.toNat_natCast]
  have hget : (((List.range i).map fun (n : Nat) => dst L N n 0) ++ List.replicate (N - i) (0 : Int))[i]? = some 0 := by
   rw [List.getElem?_append_right (by simp), List.getElem?_replicate, if_pos (by simp; omega)]
  rw [agT hget, acq (by omega) (by omega)]
  congr 2
  rw [List.set_append_right _ _ (by simp), List.range_succ, List.map_append]
  have e : N - i = (N - (i + 1)) + 1 := by omega
  rw [e, List.replicate_succ]
  simp [dst]
 ·try dsimp only
  unfold ak1
  rw [acB, List.length_replicate, List.length_replicate, acm (decide_eq_false (by omega))]
  have e0 : ((List.range N).map fun (n : Nat) => dst L N n 0) ++ List.replicate (N - N) (0 : Int) = (List.range N).map fun (n : Nat) => dst L N n 0 := by simp
  rw [e0]
  refine ac3 (List.replicate N ()) (fun i => (List.range i).map fun (n : Nat) => (-(dst L N n 0), dst L N 0 n)) _ (by simp) (fun i a hi ha kn => ?_) (fun kn => ?_)
  ·try dsimp only
   unfold ak0
   rw [List.length_replicate] at hi
   have hget : ((List.range N).map fun (n : Nat) => dst L N n 0)[i]? = some (dst L N i 0) := by
    rw [List.getElem?_map, List.getElem?_range hi]; rfl
   have hb := aKB hS ht ho (s := (i : Int)) (t := 0) ⟨by omega, by omega⟩ ⟨by omega, by omega⟩
   rw [acB, hlen0, acs (decide_eq_true (by omega)), show adx ((List.range N).map fun (n : Nat) => dst L N n 0) = (N : Int) by simp [adx], aeQ (by omega) (by omega), Int.toNat_natCast, agT hget, acq (by omega) (by omega), ahK (by omega) (by rw [hlen0]; simp; omega), adB (acp (by simp only [List.length_map, List.length_range, List.length_singleton]; omega)), acq (by omega) (by omega), Int.zero_sub]
   congr 2
   rw [List.range_succ, List.map_append]
   rfl
  ·try dsimp only
   unfold ak0
   rw [acB, hlen0, List.length_replicate, acm (decide_eq_false (by omega))]
   rfl
end
def ahm (b : acz) : List (Int × Int) × Int := if (adv b []).2 ≠ 0 then ([], (adv b []).2) else ((aM7 (acn b) ((acd b).length + 1)).drop 1, 0)
theorem aCH {b : acz} (hc : acu b = 0) : adv b [] = if ady (acn b) ((acd b).length + 1) then (b, 0) else (ajJ, 9) := by
 unfold adv agY
 rw [if_neg (by simp [hc]), if_neg (by simp)]
theorem aK0 {b : acz} (hI : In b) : ajD b = some (ahm b) := by
 unfold ajD anc ahm
 rw [ae3 hI.size hI.num, ab2]
 by_cases hc : acu b = 0
 case neg =>
  have hO : adv b [] = (ajJ, acu b) := by unfold adv; rw [if_pos hc]
  rw [acs (bne_iff_ne.2 hc), hO, if_pos hc, adB (bne_iff_ne.2 hc)]
 have hg := (acx b).1 hc
 rw [acm (by rw [hc]; rfl), aCH hc]
 refine (afn (r := ?r) (fun v => v = (0 : Int)) (fun _ => 0) ?_ rfl)
 rintro v rfl
 refine .inl fun kn => ?_
 unfold aji
 rw [acm (by rfl), agn hI, ab2, aeu hg, acm (by rfl), show ((((acd b).length : Int) + 1, acn b), ads b, (0 : Int)).1 = ay4 b from rfl, amP, an1 hg.sys, ab2]
 dsimp only
 cases ho : ady (acn b) ((acd b).length + 1) with
 | false => rfl
 | true =>
   have : adx (aM7 (acn b) ((acd b).length + 1)) = ((acd b).length + 1 : Nat) := by simp [adx, aM7]
   rw [acm (by rfl), aTI hg.sys hg.tied ho, ab2, this, adB (decide_eq_true (by omega))]
   rfl
end Go.Proofs.ZzM
end
noncomputable section
namespace Go.Proofs.ZzM
open Go Go.Am
theorem aQn (n : Int × Int) : ((adW n.1 (0 : Int)) && ((adW n.2 (0 : Int)) && true)) = decide (n = (0, 0)) := by
 rw [Bool.eq_iff_iff]
 simp only [adW, Bool.and_true, Bool.and_eq_true, decide_eq_true_eq, Prod.ext_iff]
def aMA (c : aOg) : Int := if c.2.1 = (0, 0) then aen c else aiA c
theorem aFt {b : acz} (h : acu b = 0) (c : aOg) : an0 b c = if aMA c ≠ 0 then (false, aMA c) else (ayp c.1 b, 0) := by
 unfold an0 aMA
 rw [if_neg (by simp [h])]
 by_cases h1 : c.2.1 = (0, 0)
 ·simp only [h1, if_true]
 ·simp only [h1, if_false]
end Go.Proofs.ZzM
end
noncomputable section
namespace Go.Proofs.ZzM
open Go Go.Am
theorem aE7 {b : acz} {x : List Int} (h : aCK b x = (true, 0)) : adh b ∧ ady (acn b) ((acd b).length + 1) = true := by
 obtain ⟨hg, _, fw⟩ := aR7.1 h
 have hn := hg.sys.n60
 exact ⟨hg, (aeB hg.sys.links (by omega)).2 ⟨_, aQ9.1 fw⟩⟩
theorem aFf {c : aOg} (h : aen c = 0) : adh c.1 ∧ ady (acn c.1) ((acd c.1).length + 1) = false := by
 unfold aen at h
 by_cases hc : acu c.1 = 0
 case neg => rw [if_pos hc] at h; exact absurd h hc
 have hg := (acx c.1).1 hc
 rw [if_neg (by simp [hc])] at h
 refine ⟨hg, ?_⟩
 split at h
 ·omega
 split at h
 case isFalse => omega
 rename_i h1
 rw [Bool.eq_false_iff]
 intro ho
 have hn := hg.sys.n60
 obtain ⟨p, hp⟩ := (aeB hg.sys.links (by omega)).1 ho
 unfold ahc at h1
 by_cases h2 : af8 (acn c.1) c.2.2.2.2 = 0
 case neg => rw [if_pos h2] at h1; exact absurd h1 h2
 rw [if_neg (by simp [h2])] at h1
 have hi := (aHy h2).2
 cases hq : c.2.2.2.2 with
 | nil => rw [hq] at h1; simp at h1
 | cons i t =>
   rw [hq] at h1 hi
   dsimp only at h1
   unfold aNU at h1
   split at h1
   ·rename_i h3
    have := aMW hp (i :: t) ((acn c.1)[i.toNat]?.getD (0, 0, 0)).1 0 hi h3.1
    rw [h3.2.1] at this
    have := h3.2.2
    omega
   ·omega
theorem aCd {b : acz} (hn : ∀ g ∈ b.2.1, I64 g.2.2.2.2.1.1) {c : aOg} (hcn : ∀ g ∈ c.1.2.1, I64 g.2.2.2.2.1.1) (hv : I64 c.2.2.2.1) (x : List Int) : agj b c x = some true := by
 unfold agj agb
 rw [aT0, ab2, aT0, ab2, aOq]
 by_cases hf : fewP b = true
 case neg => rw [Bool.eq_false_iff.2 hf]; rfl
 have hI : In b := ⟨aNK hf, hn⟩
 rw [hf, acm (by rfl)]
 by_cases hf2 : fewP c.1 = true
 case neg => rw [Bool.eq_false_iff.2 hf2]; rfl
 have hIc : In c.1 := ⟨aNK hf2, hcn⟩
 rw [hf2, acm (by rfl), acB, acB]
 by_cases l1 : 90 < c.2.2.2.2.length
 ·rw [acs (decide_eq_true (by omega)), ab2]
 rw [acm (decide_eq_false (by omega))]
 by_cases l2 : 70 < x.length
 ·rw [acs (decide_eq_true (by omega)), ab2]
 rw [acm (decide_eq_false (by omega))]
 -- the end
 have fin : (ab4 (acV c.1 x) fun r16 => ab4 (some true) fun r17 => ifb r17 (ab4 (acg c) fun r18 => ifb (ieq r18 (0 : Int)) (ifb (ieq r16.2 (0 : Int)) (some (!r16.1)) (some true)) (some true)) (some false)) = some true := by
  rw [aR6 hIc.size hIc.num, ab2, ab2, ad5, an2 hIc, ab2]
  by_cases h1 : aen c = 0
  case neg => rw [acm (beq_eq_false_iff_ne.2 h1)]
  rw [acs (beq_iff_eq.2 h1)]
  by_cases h2 : (aCK c.1 x).2 = 0
  case neg => rw [acm (beq_eq_false_iff_ne.2 h2)]
  rw [acs (beq_iff_eq.2 h2)]
  cases h3 : (aCK c.1 x).1 with
  | false => rfl
  | true =>
    have := aE7 (show aCK c.1 x = (true, 0) from Prod.ext h3 h2)
    rw [(aFf h1).2] at this
    cases this.2
 -- a contradiction that stands, of a book that has a history
 have mid : ∀ e : Int, (e = 0 → ady (acn b) ((acd b).length + 1) = true) → (ab4 (adQ b c) fun r15 => ifb ((adW c.2.1.1 (0 : Int)) && ((adW c.2.1.2 (0 : Int)) && true)) (ifb (ieq r15.2 (0 : Int)) (ifb r15.1 (ifb (ieq e (0 : Int)) (some false) (ab4 (acV c.1 x) fun r16 => ab4 (some true) fun r17 => ifb r17 (ab4 (acg c) fun r18 => ifb (ieq r18 (0 : Int)) (ifb (ieq r16.2 (0 : Int)) (some (!r16.1)) (some true)) (some true)) (some false))) (ab4 (acV c.1 x) fun r19 => ab4 (some true) fun r20 => ifb r20 (ab4 (acg c) fun r21 => ifb (ieq r21 (0 : Int)) (ifb (ieq r19.2 (0 : Int)) (some (!r19.1)) (some true)) (some true)) (some false))) (ab4 (acV c.1 x) fun r22 => ab4 (some true) fun r23 => ifb r23 (ab4 (acg c) fun r24 => ifb (ieq r24 (0 : Int)) (ifb (ieq r22.2 (0 : Int)) (some (!r22.1)) (some true)) (some true)) (some false))) (ab4 (acV c.1 x) fun r25 => ab4 (some true) fun r26 => ifb r26 (ab4 (acg c) fun r27 => ifb (ieq r27 (0 : Int)) (ifb (ieq r25.2 (0 : Int)) (some (!r25.1)) (some true)) (some true)) (some false))) = some true := by
  intro e he
  rw [aCF hI hIc hv, ab2, aQn]
  by_cases h0 : c.2.1 = (0, 0)
  case neg => rw [acm (decide_eq_false h0)]; exact fin
  rw [acs (decide_eq_true h0)]
  by_cases h1 : (an0 b c).2 = 0
  case neg => rw [acm (beq_eq_false_iff_ne.2 h1)]; exact fin
  rw [acs (beq_iff_eq.2 h1)]
  cases h2 : (an0 b c).1 with
  | false => rw [acM]; exact fin
  | true =>
    rw [ad5]
    by_cases h3 : e = 0
    case neg => rw [acm (beq_eq_false_iff_ne.2 h3)]; exact fin
    exfalso
    have ho := he h3
    by_cases hc : acu b = 0
    case neg =>
     unfold an0 at h1
     rw [if_pos hc] at h1
     exact hc h1
    rw [aFt hc] at h1 h2
    have hz : aMA c = 0 := by
     by_cases hz : aMA c = 0
     ·exact hz
     ·rw [if_pos hz] at h1; exact absurd h1 hz
    rw [if_neg (by simp [hz])] at h2
    have hz' : aen c = 0 := by unfold aMA at hz; rw [if_pos h0] at hz; exact hz
    obtain ⟨hgc, hoc⟩ := aFf hz'
    have hgb := (acx b).1 hc
    obtain ⟨f, z, hf⟩ := (aoT hgb).1 ho
    rw [(aoT hgc).2 ⟨f, z, aP7 hgc hgb h2 hf⟩] at hoc
    cases hoc
 rw [aK0 hI, aR6 hI.size hI.num, ae3 hI.size hI.num]
 by_cases hc : acu b = 0
 case neg =>
  have hO : adv b [] = (ajJ, acu b) := by unfold adv; rw [if_pos hc]
  have hi : ahm b = ([], acu b) := by unfold ahm; rw [hO, if_pos hc]
  rw [aOp hI hc, ab2, ab2, ab2, ab2, acs (bne_iff_ne.2 hc), ab2, ad5, hi, ab2]
  simp [ieq]
 have hg := (acx b).1 hc
 cases ho : ady (acn b) ((acd b).length + 1) with
 | true =>
   have hi : (ahm b).2 = 0 := by unfold ahm; rw [aCH hc]; simp [ho]
   rw [azG hg hn ho, ab2, ab2, ab2, ab2, acm (by rw [hc]; rfl), hi, acm (by rfl), acm (by rfl), acm (by rfl), acm (by rfl)]
   exact mid 0 fun _ => ho
 | false =>
   have hi : (ahm b).2 = 9 := by unfold ahm; rw [aCH hc]; simp [ho]
   obtain ⟨d, d1, d2, d3, d4, d5, d6, d7, d8, d9, d10, _⟩ := aFA hg hn ho
   have hId : In d.1 := ⟨d5.size, d6⟩
   have hvd : I64 d.2.2.2.1 := by rw [d7]; constructor <;> omega
   have hst : an0 b d = (true, 0) := by
    rw [aFt hc, if_neg, d4]
    unfold aMA
    rw [if_pos d2]
    simp [d3]
   have tail : (ab4 (adQ b d) fun r13 => ab4 (acg d) fun r14 => ifb (ine r14 (0 : Int)) (some false) (ifb (ine r13.2 (0 : Int)) (some false) (ifb (!r13.1) (some false) (ab4 (adQ b c) fun r15 => ifb ((adW c.2.1.1 (0 : Int)) && ((adW c.2.1.2 (0 : Int)) && true)) (ifb (ieq r15.2 (0 : Int)) (ifb r15.1 (ifb (ieq (9 : Int) (0 : Int)) (some false) (ab4 (acV c.1 x) fun r16 => ab4 (some true) fun r17 => ifb r17 (ab4 (acg c) fun r18 => ifb (ieq r18 (0 : Int)) (ifb (ieq r16.2 (0 : Int)) (some (!r16.1)) (some true)) (some true)) (some false))) (ab4 (acV c.1 x) fun r19 => ab4 (some true) fun r20 => ifb r20 (ab4 (acg c) fun r21 => ifb (ieq r21 (0 : Int)) (ifb (ieq r19.2 (0 : Int)) (some (!r19.1)) (some true)) (some true)) (some false))) (ab4 (acV c.1 x) fun r22 => ab4 (some true) fun r23 => ifb r23 (ab4 (acg c) fun r24 => ifb (ieq r24 (0 : Int)) (ifb (ieq r22.2 (0 : Int)) (some (!r22.1)) (some true)) (some true)) (some false))) (ab4 (acV c.1 x) fun r25 => ab4 (some true) fun r26 => ifb r26 (ab4 (acg c) fun r27 => ifb (ieq r27 (0 : Int)) (ifb (ieq r25.2 (0 : Int)) (some (!r25.1)) (some true)) (some true)) (some false)))))) = some true := by
    rw [aCF hI hId hvd, ab2, an2 hId, ab2, d3, acm (by rfl), hst, acm (by rfl), acm (by rfl)]
    exact mid 9 fun h => by omega
   rw [d1, ab2, ab2, ab2, ab2, acm (by rw [hc]; rfl), hi, acm (by rfl), acm (by rfl), acs (by rfl)]
   by_cases h2 : (aCK b x).2 = 0
   case neg => rw [acm (beq_eq_false_iff_ne.2 h2), acs (by rfl)]; exact tail
   rw [acs (beq_iff_eq.2 h2)]
   cases h3 : (aCK b x).1 with
   | true =>
     have := aE7 (show aCK b x = (true, 0) from Prod.ext h3 h2)
     rw [ho] at this
     cases this.2
   | false => rw [acM, acs (by rfl)]; exact tail
end Go.Proofs.ZzM
end