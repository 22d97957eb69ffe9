/- lemmas -/
import Derived.Test.YthhhehllmdfhiaaGreatPlA
import Derived.Test.YthhhehllmdfhiaaGreatMdTA
set_option linter.all false
set_option linter.unusedSectionVars false
set_option linter.unusedVariables false
set_option linter.unusedSimpArgs false
noncomputable section
namespace Go.Proofs.ZzM
open Go Go.Am
structure aTy (B : acC) : Prop where
 good : adx B
 op : ad5 (acy B) ((ack B).length + 1) = true
 num : ∀ g ∈ B.2.1, I64 g.2.2.2.2.1.1
theorem agC {b : acC} (hI : In b) {ns : List (Int × Int)} (e : (adm b ns).2 = 0) : aTy (adm b ns).1 ∧ (adm b ns).1 = (afE b ns).1 ∧ (afE b ns).2 = 0 ∧ adx b := by
 unfold adm at e ⊢
 by_cases hc : acN b = 0
 ·rw [if_neg (by simp [hc])] at e ⊢
  by_cases hr : (afE b ns).2 = 0
  ·rw [if_neg (by simp [hr])] at e ⊢
   cases ho : ad5 (acy (afE b ns).1) ((ack (afE b ns).1).length + 1) with
   | true =>
     rw [if_pos rfl]
     exact ⟨⟨ay5 ((acQ b).1 hc) hr, ho, by rw [amw hr]; exact hI.num⟩, rfl, hr, (acQ b).1 hc⟩
   | false => rw [ho] at e; simp at e
  ·rw [if_pos hr] at e; exact absurd e hr
 ·rw [if_pos hc] at e; exact absurd e hc
theorem adX (B : acC) (n : Int × Int) : 0 ≤ amu B n.1 n.2 ∧ amu B n.1 n.2 < ((ack B).length + 1 : Nat) := by
 unfold amu
 cases h : agy (ack B) n.1 n.2 with
 | none => dsimp only; omega
 | some j => have := (ag0 h).1; dsimp only; omega
theorem aBG {B : acC} (h : adx B) (hn : ∀ g ∈ B.2.1, I64 g.2.2.2.2.1.1) (s : Sys) (n : Int × Int) : ae7 (B, s) n = some (amu B n.1 n.2) := by
 unfold ae7 arN
 rw [show ad8 (B, s).1 n = ad8 B n from rfl, aBP (h.inn hn), ab8, asu h]
 split
 ·rename_i e; rw [e]
 ·rfl
theorem aJO {B : acC} {L : List Lk} {N : Nat} (h : afY L N) {to from' : Int} (h1 : 0 ≤ to ∧ to < N) (h2 : 0 ≤ from' ∧ from' < N) : ac3 (B, (N : Int), L) to from' = some (afv L N from' to).1 := by
 unfold ac3 ald
 rw [show (B, (N : Int), L).2 = ((N : Int), L) from rfl, ayQ h h2 h1, ab8]
def aBS (B : acC) : Sys := (((ack B).length : Int) + 1, acy B)
def aQO (B : acC) (s t : Int) : Int := dst (acy B) ((ack B).length + 1) s t
def ivR (B : acC) (n : Int × Int) : Int × Int := (-(aQO B (amu B n.1 n.2) 0), aQO B 0 (amu B n.1 n.2))
theorem ayU (B : acC) : aBS B = ((((ack B).length + 1 : Nat) : Int), acy B) := by unfold aBS; push_cast; rfl
theorem adY (B : acC) : 0 ≤ (0 : Int) ∧ (0 : Int) < ((ack B).length + 1 : Nat) := by omega
section
variable {B : acC} (h : aTy B)
include h
theorem apu {s t : Int} (hs : 0 ≤ s ∧ s < ((ack B).length + 1 : Nat)) (ht : 0 ≤ t ∧ t < ((ack B).length + 1 : Nat)) : -9007199254740992 ≤ aQO B s t ∧ aQO B s t ≤ 9007199254740992 :=
 aMJ h.good.sys h.good.tied h.op hs ht
theorem aqg {to from' : Int} (h1 : 0 ≤ to ∧ to < ((ack B).length + 1 : Nat)) (h2 : 0 ≤ from' ∧ from' < ((ack B).length + 1 : Nat)) : ac3 (B, aBS B) to from' = some (aQO B from' to) := by
 rw [ayU, aJO h.good.sys h1 h2, aqj h.good.sys h.good.tied h2 h1, if_pos h.op]
 rfl
theorem aD4 (n : Int × Int) : ae6 (B, aBS B) n = some (-(aQO B (amu B n.1 n.2) 0)) := by
 unfold ae6 alc
 have hb := apu h (adX B n) (adY B)
 rw [aBG h.good h.num, ab8, aqg h (adY B) (adX B n), ab8, acx (by omega) (by omega)]
 congr 1
 omega
theorem auJ (n : Int × Int) : afu (B, aBS B) n = some (aQO B 0 (amu B n.1 n.2)) := by
 unfold afu ah2
 rw [aBG h.good h.num, ab8, aqg h (adX B n) (adY B), ab8]
theorem ank (n : Int × Int) : aet (B, aBS B) n = some (ivR B n) := by
 unfold aet ah1
 rw [aD4 h, ab8, auJ h, ab8]
 rfl
end
def amt (b : acC) (n : Int × Int) : (Int × Int) × Int := if (adm b [n]).2 ≠ 0 then ((0, 0), (adm b [n]).2) else (ivR (adm b [n]).1 n, 0)
theorem ast {b : acC} (hI : In b) (n : Int × Int) : ag6 b n = some (amt b n) := by
 unfold ag6 aoM amt
 refine (akv hI (ns := [n]) (by simp) (fun e => some (((0, 0) : Int × Int), e)) (fun e he => by rw [adF (by simp [ine, he])]) (fun z he => by rw [adF (by simp [ine, he])]) (fun _ _ _ => rfl)).trans ?_
 split
 ·rfl
 ·rename_i e
  have hr := (agC hI (by simpa using e)).1
  dsimp only
  rw [ann, show ((((ack (adm b [n]).1).length : Int) + 1, acy (adm b [n]).1) : Sys) = aBS (adm b [n]).1 from rfl, ank hr, ab8]
theorem aN4 {ρ : Type} : @alk ρ = @ac2 ρ := rfl
theorem aRv {ρ : Type} : @aoL ρ = @ac2 ρ := rfl
def btR (B : acC) (m n : Int × Int) : Int × Int := (-(aQO B (amu B m.1 m.2) (amu B n.1 n.2)), aQO B (amu B n.1 n.2) (amu B m.1 m.2))
def aG7 (b : acC) (m n : Int × Int) : (Int × Int) × Int := if (adm b [m, n]).2 ≠ 0 then ((0, 0), (adm b [m, n]).2) else (btR (adm b [m, n]).1 m n, 0)
theorem aOb {b : acC} (hI : In b) (m n : Int × Int) : anp b m n = some (aG7 b m n) := by
 unfold anp arV aG7
 rw [aN4]
 refine (akv hI (ns := [m, n]) (by simp) (fun e => some (((0, 0) : Int × Int), e)) (fun e he => by rw [adF (by simp [ine, he])]) (fun z he => by rw [adF (by simp [ine, he])]) (fun _ _ _ => rfl)).trans ?_
 split
 ·rfl
 ·rename_i e
  have hr := (agC hI (by simpa using e)).1
  dsimp only
  generalize (adm b [m, n]).1 = B at hr ⊢
  have hb := apu hr (adX B m) (adX B n)
  rw [ann, show ((((ack B).length : Int) + 1, acy B) : Sys) = aBS B from rfl, aBG hr.good hr.num, ab8, aBG hr.good hr.num, ab8, aqg hr (adX B n) (adX B m), ab8,
   acx (by omega) (by omega), aqg hr (adX B m) (adX B n), ab8]
  unfold btR
  rw [Int.zero_sub]
def akr (s l : Int × Int) : Int := if l.1 ≤ s.1 ∧ s.2 ≤ l.2 then 1 else if s.2 < l.1 ∨ l.2 < s.1 then 2 else 3
theorem aDi (s l : Int × Int) : akc s l = some (akr s l) := by
 unfold akc arL akr
 simp only [adM, ile, ilt, decide_eq_true_eq]
 by_cases h1 : l.1 ≤ s.1 <;> by_cases h2 : s.2 ≤ l.2 <;> by_cases h3 : s.2 < l.1 <;> by_cases h4 : l.2 < s.1 <;> simp [h1, h2, h3, h4]
def aQI (b : acC) (n l : Int × Int) : Int × Int := if (adm b [n]).2 ≠ 0 then (0, (adm b [n]).2) else if l.2 < l.1 then (0, 1) else (akr (ivR (adm b [n]).1 n) l, 0)
theorem aSf {b : acC} (hI : In b) (n l : Int × Int) : auQ b n l = some (aQI b n l) := by
 unfold auQ azN aQI
 rw [aRv]
 refine (akv hI (ns := [n]) (by simp) (fun e => some ((0 : Int), e)) (fun e he => by rw [acD (by simp [ine, he])]) (fun z he => by rw [acD (by simp [ine, he])]) (fun _ _ _ => rfl)).trans ?_
 split
 ·rfl
 ·rename_i e
  have hr := (agC hI (by simpa using e)).1
  dsimp only
  by_cases hl : l.2 < l.1
  ·rw [acD (by simp [igt, hl]), if_pos hl]
  ·rw [acr (by simp [igt]; omega), if_neg hl, ann, show ((((ack (adm b [n]).1).length : Int) + 1, acy (adm b [n]).1) : Sys) = aBS (adm b [n]).1 from rfl, ank hr, ab8, aDi, ab8]
end Go.Proofs.ZzM
end
noncomputable section
namespace Go.Proofs.ZzM
open Go Go.Am
def aBR (x y : List Int) : List Int × List Int × Int := if !ajf x then ([], [], 1) else if !ajf y then ([], [], 1) else (adb x y, adb y x, 0)
theorem aJZ {x y : List Int} (hx : x.length ≤ 100000) (hy : y.length ≤ 100000) : amn x y = some (aBR x y) := by
 unfold amn awc aBR
 rw [auC (by omega), ab8]
 cases ajf x with
 | false => rfl
 | true =>
   rw [auC (by omega), ab8]
   cases ajf y with
   | false => rfl
   | true =>
     rw [als (by omega) (by omega), ab8, als (by omega) (by omega), ab8]
     rfl
end Go.Proofs.ZzM
end
noncomputable section
namespace Go.Proofs.ZzM
open Go Go.Am
theorem aJs (ls : List (List Int)) (i : Nat) : (ls.take i).flatten.length ≤ ls.flatten.length := by
 conv => rhs; rw [← List.take_append_drop i ls, List.flatten_append, List.length_append]
 omega
theorem ajI {ls : List (List Int)} (hl : ls.length ≤ 1000000) (hf : ls.flatten.length ≤ 1000000) : acF ls = some ls.flatten := by
 have hk : ∀ n : Nat, n ≤ 4000000 → ∀ (f : Int → Option (List Int)), ck (n : Int) f = f n := fun n h f => acx (by omega) (by omega) f
 have second : acp (fun (v9 : (Val (.pair tI (.slice tI)))) kk12 => acJ ls (acv ls) v9.1 v9.2 (fun u10 u11 => kk12 (u10, u11)) (fun z8 => some z8)) ((0 : Int), ([] : List Int)) = some ls.flatten := by
  refine adh ls (fun i => (ls.take i).flatten) (some ls.flatten) (f := fun (v9 : (Val (.pair tI (.slice tI)))) kk12 => acJ ls (acv ls) v9.1 v9.2 (fun u10 u11 => kk12 (u10, u11)) (fun z8 => some z8)) rfl (fun i x hi hx kn => ?_) (fun kn => ?_)
  ·try dsimp only
   unfold acJ
   have h1 := aJs ls (i + 1)
   rw [take_succ hx, List.flatten_append, List.length_append] at h1
   simp only [List.flatten_cons, List.flatten_nil, List.append_nil] at h1
   rw [acs hi, acn hx, aco hi (by omega), take_succ hx, List.flatten_append]
   have : acS ((List.take i ls).flatten.length + x.length) = true := acu (by omega)
   rw [adF this]
   simp
  ·try dsimp only
   unfold acJ
   rw [acL]
   simp
 unfold acF af2
 refine afi (fun x : Int × Int => ∃ i : Nat, i ≤ ls.length ∧ x = (((ls.take i).flatten.length : Int), (i : Int))) (fun x => ls.length - x.2.toNat) ?_ ⟨0, by omega, rfl⟩
 rintro x ⟨i, hi, rfl⟩
 rcases Nat.lt_or_ge i ls.length with h2 | h2
 ·refine .inr ⟨(((ls.take (i + 1)).flatten.length : Int), (i : Int) + 1), ⟨i + 1, h2, by simp⟩, by simp; omega, fun kn => ?_⟩
  obtain ⟨x, hx⟩ : ∃ x, ls[i]? = some x := ⟨_, List.getElem?_eq_getElem h2⟩
  have h1 := aJs ls (i + 1)
  rw [take_succ hx, List.flatten_append, List.length_append] at h1
  simp only [List.flatten_cons, List.flatten_nil, List.append_nil] at h1
  try dsimp only
  unfold adz
  rw [acs h2, acn hx, acO]
  have e1 : (((List.take i ls).flatten.length : Int) + (x.length : Int)) = ((List.take i ls).flatten.length + x.length : Nat) := by omega
  rw [e1, hk _ (by omega)]
  have : ilt ((((List.take i ls).flatten.length + x.length : Nat)) : Int) 0 = false := by simp [ilt]; omega
  rw [acr this, aco h2 (by omega), take_succ hx]
  simp
 ·refine .inl fun kn => ?_
  obtain rfl : i = ls.length := by omega
  try dsimp only
  unfold adz
  rw [acL, List.take_length]
  have e2 : ilt ((ls.flatten.length : Nat) : Int) 0 = false := decide_eq_false (by omega)
  dsimp only
  rw [acr e2, Int.sub_zero, hk _ (by omega)]
  rcases Nat.eq_zero_or_pos ls.flatten.length with h0 | h0
  ·have : igt (ls.flatten.length : Int) 0 = false := decide_eq_false (by omega)
   rw [acr this]
   exact second
  ·have : igt (ls.flatten.length : Int) 0 = true := decide_eq_true (by omega)
   rw [acD this]
   have : ((ilt (0 : Int) (ls.flatten.length : Int)) && (acS (Int.toNat (ls.flatten.length : Int)))) = true := by
    rw [Int.toNat_natCast, acu (by omega), Bool.and_true]
    exact decide_eq_true (by omega)
   rw [adF this]
   have : ile 0 (adE (List.replicate (Int.toNat (ls.flatten.length : Int)) (0 : Int))) = true := decide_eq_true (Int.natCast_nonneg _)
   rw [adF this]
   exact second
def onP (day : Int) (ids : List Int) : List (Int × Int) := ids.map fun id => (id, day)
theorem aOx {day : Int} {ls : List (List Int)} (hl : ls.length ≤ 1000000) (hf : ls.flatten.length ≤ 1000000) : auO day ls = some (onP day ls.flatten) := by
 unfold auO azB
 rw [ajI hl hf, ab8]
 refine adh ls.flatten (fun i => onP day (ls.flatten.take i)) _ rfl (fun i x hi hx kn => ?_) (fun kn => ?_)
 ·try dsimp only
  unfold akE
  rw [acs hi, acn hx, aco hi (by omega), take_succ hx]
  have : acS (List.length (onP day (ls.flatten.take i)) + List.length ([(x, day)])) = true := acu (by simp [onP]; omega)
  rw [adF this]
  simp [onP]
 ·try dsimp only
  unfold akE
  rw [acL, List.take_length]
theorem aQ0 {l : List Int} (hl : l.length ≤ 100000) (m : Int) : ayK l m = some (ajf l && decide ((l.length : Int) ≤ m)) := by
 unfold ayK aE9
 rw [aJZ hl (by simp), ab8]
 have e0 : ajf [] = true := by decide
 unfold aBR
 rw [e0, acO]
 cases ajf l <;> rfl
theorem aSL (n : Int) : auP n = some (aLl n) := by
 unfold auP azG aLl inP
 rw [adM]
 by_cases h : 0 ≤ n
 ·rw [if_pos (by simpa [ige] using h)]; simp [h]
 ·rw [if_neg (by simpa [ige] using h)]; simp [h]
theorem aMt {ρ α : Type} (l : List α) (i : Int) (f : α → Option ρ) : acT ((ile (0 : Int) i) && (ilt i (adE l))) (afm l (Int.toNat i) f) = adL l i f := by
 unfold adL
 by_cases h0 : 0 ≤ i
 ·by_cases h1 : i < l.length
  ·have e : ((ile (0 : Int) i) && (ilt i (adE l))) = true := by simp [ile, ilt, h0, h1]
   rw [adF e]
   simp only [h0, decide_true]
   unfold afm
   rfl
  ·have e : ((ile (0 : Int) i) && (ilt i (adE l))) = false := by simp [ile, ilt, h1]
   rw [e]
   simp only [h0, decide_true]
   rw [List.getElem?_eq_none (by omega)]
   rfl
 ·have e : ((ile (0 : Int) i) && (ilt i (adE l))) = false := by simp [ile, ilt, h0]
  rw [e]
  simp only [h0, decide_false]
  rfl
theorem aST {ρ : Type} (ns : List (Int × Int)) (n : Int) : @amP ρ ns n = @ac2 ρ n ns := by
 funext v0 v1 v2 v3 v4 v5 v6 v7 kn k0 k1
 unfold amP ac2
 rw [aMt]
def aLX (B : acC) (ns : List (Int × Int)) (s : Int × Int) : Int × Int := ns.foldl (fun s n => (s.1 + (ivR B n).1, s.2 + (ivR B n).2)) s
def pileR (B : acC) (f : Int × Int) (ns : List (Int × Int)) : Int × Int := aLX B ns (((ns.length : Int) - 1) * f.1, ((ns.length : Int) - 1) * f.2)
def aTA (b : acC) (day : Int) (ids : List Int) : (Int × Int) × Int :=
 if acN b ≠ 0 then ((0, 0), acN b) else if ids.length = 0 ∨ ajf ids = false ∨ aLl day = false then ((0, 0), 1) else
 if (adm b (onP day ids)).2 ≠ 0 then ((0, 0), (adm b (onP day ids)).2) else (pileR (adm b (onP day ids)).1 b.1 (onP day ids), 0)
theorem aJ9 (B : acC) (x y : List (Int × Int)) (s : Int × Int) : aLX B (x ++ y) s = aLX B y (aLX B x s) := by unfold aLX; rw [List.foldl_append]
theorem aOt {B : acC} (h : aTy B) : ∀ (ns : List (Int × Int)) (s : Int × Int) (m : Int), -m ≤ s.1 ∧ s.1 ≤ m → -m ≤ s.2 ∧ s.2 ≤ m →
 (-(m + ns.length * 9007199254740992) ≤ (aLX B ns s).1 ∧ (aLX B ns s).1 ≤ m + ns.length * 9007199254740992) ∧ (-(m + ns.length * 9007199254740992) ≤ (aLX B ns s).2 ∧ (aLX B ns s).2 ≤ m + ns.length * 9007199254740992)
 | [], s, m, h1, h2 => by unfold aLX; simp; omega
 | n :: t, s, m, h1, h2 => by
   have b1 := apu h (adX B n) (adY B)
   have b2 := apu h (adY B) (adX B n)
   have := aOt h t (s.1 + (ivR B n).1, s.2 + (ivR B n).2) (m + 9007199254740992) (by unfold ivR; dsimp only; omega) (by unfold ivR; dsimp only; omega)
   show (-(m + ((n :: t).length : Nat) * 9007199254740992) ≤ (aLX B t _).1 ∧ _) ∧ _
   unfold aLX at this ⊢
   simp only [List.foldl_cons, List.length_cons]
   push_cast
   omega
theorem aTz {b : acC} (hI : In b) (day : Int) {ids : List Int} (hl : ids.length ≤ 1000) : ayL b day ids = some (aTA b day ids) := by
 unfold ayL aFz aTA
 rw [af6 hI.size hI.num, ab8, aQ0 (by omega), ab8, aSL, ab8, acO]
 by_cases hc : acN b = 0
 ·rw [acr (by simp [ine, hc]), if_neg (show ¬ (acN b ≠ 0) from fun h => h hc)]
  by_cases h0 : ids.length = 0
  ·rw [acD (by simp [ieq, h0]), if_pos (.inl h0)]
  ·rw [acr (beq_eq_false_iff_ne.2 (by omega))]
   by_cases h1 : ajf ids = true
   ·have hp := (aHG ids).1 h1
    have e1 : (ajf ids && decide ((ids.length : Int) ≤ 6)) = true := by rw [h1]; simp; omega
    rw [e1, acr (by rfl)]
    by_cases h2 : aLl day = true
    ·have hg := (acQ b).1 hc
     rw [acr (by rw [h2]; rfl), if_neg (by simp [h0, h1, h2]), aOx (by simp) (by simp; omega), ab8]
     have hlen : (onP day ids).length = ids.length := by simp [onP]
     rw [show ([ids] : List (List Int)).flatten = ids by simp, aST, ← af6 hI.size hI.num]
     refine (akv hI (ns := onP day ids) (by omega) (fun e => some (((0, 0) : Int × Int), e)) (fun e he => by rw [acD (by simp [ine, he])]) (fun z he => by rw [acD (by simp [ine, he])]) (fun _ _ _ => rfl)).trans ?_
     split
     ·rfl
     ·rename_i e
      have hr := (agC hI (by simpa using e)).1
      have hf := hg.film
      dsimp only
      generalize (adm b (onP day ids)).1 = B at hr ⊢
      have hm : ∀ x : Int, 0 ≤ x → x ≤ 1000000 → 0 ≤ ((ids.length : Int) - 1) * x ∧ ((ids.length : Int) - 1) * x ≤ 10000000 := by
       intro x h0 h1
       have : ((ids.length : Int) - 1) * x ≤ 5 * 1000000 := Int.mul_le_mul (by omega) h1 h0 (by omega)
       exact ⟨Int.mul_nonneg (by omega) h0, by omega⟩
      have m1 := hm b.1.1 (by omega) (by omega)
      have m2 := hm b.1.2 (by omega) (by omega)
      rw [acx (by omega) (by omega), acx (by omega) (by omega), acx (by omega) (by omega), ann, show ((((ack B).length : Int) + 1, acy B) : Sys) = aBS B from rfl]
      unfold pileR
      rw [hlen]
      refine adh (onP day ids) (fun i => aLX B ((onP day ids).take i) (((ids.length : Int) - 1) * b.1.1, ((ids.length : Int) - 1) * b.1.2)) _ rfl (fun i n hi hn kn => ?_) (fun kn => ?_)
      ·try dsimp only
       unfold amO
       have b1 := apu hr (adX B n) (adY B)
       have b2 := apu hr (adY B) (adX B n)
       have bs := aOt hr ((onP day ids).take i) (((ids.length : Int) - 1) * b.1.1, ((ids.length : Int) - 1) * b.1.2) 10000000 (by dsimp only; omega) (by dsimp only; omega)
       have bl : (((onP day ids).take i).length : Int) ≤ 6 := by rw [List.length_take]; omega
       rw [acs hi, acn hn, ank hr, ab8, take_succ hn, aJ9]
       generalize aLX B ((onP day ids).take i) (((ids.length : Int) - 1) * b.1.1, ((ids.length : Int) - 1) * b.1.2) = s at bs ⊢
       unfold ivR
       dsimp only
       rw [acx (by omega) (by omega), acx (by omega) (by omega), aco hi (by omega)]
       rfl
      ·try dsimp only
       unfold amO
       rw [acL, List.take_length]
    ·have h2' : aLl day = false := by simpa using h2
     rw [h2', acD (by rfl), if_pos (.inr (.inr rfl))]
   ·have h1' : ajf ids = false := by simpa using h1
    rw [h1', acD (by rfl), if_pos (.inr (.inl rfl))]
 ·rw [acD (by simp [ine, hc]), if_pos hc]
theorem aka {α : Type} (p : α → Bool) (l : List α) (i : Nat) : ((l.take i).filter p).length ≤ l.length := by
 have h1 := List.length_filter_le p (l.take i)
 rw [List.length_take] at h1
 omega
end Go.Proofs.ZzM
end
noncomputable section
namespace Go.Proofs.ZzM
open Go Go.Am
def aOy (f : Int → Int → Int) (z : Int) (l : List Int) (d : Int) : Int := match l with | [] => z | x :: _ => f x d
def aqw (f : Int → Int → Int) (z : Int) (c : Cmp) : Int := aOy f z (adb c.2.2.1 c.2.2.2.1) c.2.1 - aOy f z (adb c.2.2.2.1 c.2.2.1) c.2.1
structure aTF (b : acC) (f : Int → Int → Int) (z : Int) (g : acY) : Prop where
 hi : f g.1 g.2.1 ≤ z + (g.2.2.1 + g.2.2.2.1.2)
 lo : z + (g.2.2.1 + g.2.2.2.1.1) ≤ f g.1 g.2.1
 down : ∀ d e, g.2.1 ≤ d → d ≤ e → f g.1 e ≤ f g.1 d
 loss : ∀ d e, g.2.1 ≤ d → d ≤ e → f g.1 d ≤ f g.1 e + agW b g d e
structure aG9 (b : acC) (f : Int → Int → Int) (z : Int) : Prop where
 gauge : ∀ g ∈ b.2.1, aTF b f z g
 cmp : ∀ c ∈ b.2.2.2.2.1, (aeO b c).1 ≤ aqw f z c ∧ aqw f z c ≤ (aeO b c).2
theorem aBa {b : acC} (h : adx b) {p : Int → Int} (hg : ∀ g ∈ b.2.1, ako b p g) : ∃ f : Int → Int → Int, (∀ g ∈ b.2.1, aTF b f (p 0) g) ∧ ∀ g ∈ b.2.1, ∀ d ∈ acB b g, f g.1 d = p (aeH b g.1 d) := by
 let f : Int → Int → Int := fun id d => match ahx b id with | some g => fill b p g d | none => 0
 have hfv : ∀ g ∈ b.2.1, ∀ d, f g.1 d = fill b p g d := fun g hgm d => by
  show (match ahx b g.1 with | some g => fill b p g d | none => 0) = _
  rw [asg h.ids hgm]
 refine ⟨f, fun g hgm => ?_, fun g hgm d hd => by rw [hfv g hgm]; exact ayI h hgm (hg g hgm) hd⟩
 have gf := hg g hgm
 have e0 : f g.1 g.2.1 = p (aeH b g.1 g.2.1) := by rw [hfv g hgm]; exact ayI h hgm gf (air g)
 refine ⟨by rw [e0]; exact gf.hi, by rw [e0]; exact gf.lo, fun d e h0 hde => ?_, fun d e h0 hde => ?_⟩
 ·rw [hfv g hgm, hfv g hgm]
  exact (auL h hgm gf h0 hde).1
 ·rw [hfv g hgm, hfv g hgm]
  exact (auL h hgm gf h0 hde).2
theorem aHr {b : acC} {f : Int → Int → Int} {p : Int → Int} (hm : ∀ g ∈ b.2.1, ∀ d ∈ acB b g, f g.1 d = p (aeH b g.1 d)) {l : List Int} {day : Int} (hl : ∀ x ∈ l, ∃ g ∈ b.2.1, g.1 = x ∧ day ∈ acB b g) : p (ayn b l day) = aOy f (p 0) l day := by
 cases l with
 | nil => rfl
 | cons x t =>
   obtain ⟨g, q1, rfl, q3⟩ := hl x (by simp)
   exact (hm g q1 day q3).symm
theorem auX {b : acC} {f : Int → Int → Int} {p : Int → Int} (hm : ∀ g ∈ b.2.1, ∀ d ∈ acB b g, f g.1 d = p (aeH b g.1 d)) {c : Cmp}
 (hl : ∀ x, x ∈ adb c.2.2.1 c.2.2.2.1 ∨ x ∈ adb c.2.2.2.1 c.2.2.1 → ∃ g ∈ b.2.1, g.1 = x ∧ c.2.1 ∈ acB b g) : p (cx b c) - p (cy b c) = aqw f (p 0) c := by
 unfold aqw
 rw [awx, aww, aHr hm (fun x hx => hl x (.inl hx)), aHr hm (fun x hx => hl x (.inr hx))]
theorem aDv {b : acC} (h : adx b) (f : Int → Int → Int) (z : Int) {l : List Int} {day : Int} (hl : ∀ x ∈ l, ∃ g ∈ b.2.1, g.1 = x ∧ day ∈ acB b g) : aza b f z (ayn b l day) = aOy f z l day := by
 rw [awC h f z hl]
 unfold aOy
 cases l <;> rfl
theorem ay9 {b : acC} (h : adx b) {f : Int → Int → Int} {z : Int} {c : Cmp} (hl : ∀ x, x ∈ adb c.2.2.1 c.2.2.2.1 ∨ x ∈ adb c.2.2.2.1 c.2.2.1 → ∃ g ∈ b.2.1, g.1 = x ∧ c.2.1 ∈ acB b g) : aza b f z (cx b c) - aza b f z (cy b c) = aqw f z c := by
 unfold aqw
 rw [awx, aww, aDv h f z (fun x hx => hl x (.inl hx)), aDv h f z (fun x hx => hl x (.inr hx))]
theorem aDu {b : acC} (h : adx b) {f : Int → Int → Int} {z : Int} {g : acY} (hg : g ∈ b.2.1) (hh : aTF b f z g) : ako b (aza b f z) g := by
 have q : ∀ d ∈ acB b g, aza b f z (aeH b g.1 d) = f g.1 d := fun d hd => aoj h f z hg hd
 have e0 := q g.2.1 (air g)
 refine ⟨?_, ?_, fun d e hd he hde => ?_, fun d e hd he hde => ?_⟩
 ·rw [e0, ait]; exact hh.hi
 ·rw [e0, ait]; exact hh.lo
 ·rw [q d hd, q e he]; exact hh.down d e (h.day hg hd).1 hde
 ·rw [q d hd, q e he]; exact hh.loss d e (h.day hg hd).1 hde
section
variable {b : acC} {c : Cmp}
theorem aRc (h : adx b) {p : Int → Int} (hp : Pot (acy b) p) : ∃ f, aG9 b f (p 0) ∧ ∀ g ∈ b.2.1, ∀ d ∈ acB b g, f g.1 d = p (aeH b g.1 d) := by
 obtain ⟨hg, hc⟩ := (aEN h).1 hp
 obtain ⟨f, hf, hm⟩ := aBa h hg
 refine ⟨f, ⟨hf, fun c hcm => ?_⟩, hm⟩
 have := auX hm (c := c) (fun x hx => ajl h hcm hx)
 have := hc c hcm
 omega
theorem aMu (h : adx b) {f : Int → Int → Int} {z : Int} (hh : aG9 b f z) : Pot (acy b) (aza b f z) := by
 refine (aEN h).2 ⟨fun g hg => aDu h hg (hh.gauge g hg), fun c hc => ?_⟩
 have := ay9 (f := f) (z := z) h (c := c) (fun x hx => ajl h hc hx)
 have := hh.cmp c hc
 omega
theorem aGJ (h : adx b) {d : Cmp} (hd : d ∈ b.2.2.2.2.1) : ∀ x, x ∈ adb d.2.2.1 d.2.2.2.1 ∨ x ∈ adb d.2.2.2.1 d.2.2.1 → ∃ g ∈ (acz b c).2.1, g.1 = x ∧ d.2.1 ∈ acB (acz b c) g := by
 intro x hx
 obtain ⟨g, q1, q2, q3⟩ := ajl h hd hx
 exact ⟨g, q1, q2, akk q3⟩
theorem aPE (h : adx b) (h' : adx (acz b c)) {p : Int → Int} (hp : Pot (acM (acz b c)) p) : ∃ f, aG9 b f (p 0) ∧ p (cx (acz b c) c) - p (cy (acz b c) c) = aqw f (p 0) c := by
 obtain ⟨hg, hc⟩ := (auI h').1 hp
 obtain ⟨f, hf, hm⟩ := aBa h' hg
 refine ⟨f, ⟨fun g hgm => ?_, fun d hd => ?_⟩, auX hm fun x hx => ajl h' apR hx⟩
 ·have := hf g hgm
  exact ⟨this.hi, this.lo, this.down, this.loss⟩
 ·have := auX hm (c := d) (aGJ h hd)
  have := hc d hd
  omega
theorem aJk (h : adx b) (h' : adx (acz b c)) {f : Int → Int → Int} {z : Int} (hh : aG9 b f z) : Pot (acM (acz b c)) (aza (acz b c) f z) ∧ aza (acz b c) f z (cx (acz b c) c) - aza (acz b c) f z (cy (acz b c) c) = aqw f z c := by
 refine ⟨(auI h').2 ⟨fun g hg => aDu h' hg ?_, fun d hd => ?_⟩, ay9 h' fun x hx => ajl h' apR hx⟩
 ·have := hh.gauge g hg
  exact ⟨this.hi, this.lo, this.down, this.loss⟩
 ·have := ay9 (f := f) (z := z) h' (c := d) (aGJ h hd)
  have := hh.cmp d hd
  omega
theorem aHY (h : adx b) : ad5 (acy b) ((ack b).length + 1) = true ↔ ∃ f z, aG9 b f z := by
 have := h.sys.n60
 rw [afQ h.sys.links (by omega)]
 constructor
 ·rintro ⟨p, hp⟩
  obtain ⟨f, hf, _⟩ := aRc h hp
  exact ⟨f, _, hf⟩
 ·rintro ⟨f, z, hh⟩
  exact ⟨_, aMu h hh⟩
theorem d_max (h : adx b) (h' : adx (acz b c)) {f : Int → Int → Int} {z : Int} (hh : aG9 b f z) : dLo b c ≤ aqw f z c ∧ aqw f z c ≤ dHi b c := by
 have ho : ad5 (acM (acz b c)) ((ack (acz b c)).length + 1) = true := by rw [ahv h h']; exact (aHY h).2 ⟨f, z, hh⟩
 obtain ⟨hp, hd⟩ := aJk h h' hh
 have a1 := aso (afj h') (afs h') ho (apy h') (apx h') hp
 have a2 := aso (afj h') (afs h') ho (apx h') (apy h') hp
 unfold dLo dHi
 omega
theorem d_all (h : adx b) (h' : adx (acz b c)) (ho : ad5 (acy b) ((ack b).length + 1) = true) {t : Int} (h1 : dLo b c ≤ t) (h2 : t ≤ dHi b c) : ∃ f z, aG9 b f z ∧ aqw f z c = t := by
 rw [← ahv h h'] at ho
 obtain ⟨p, hp, hd⟩ := aPW (afj h') (afs h') ho (apy h') (apx h') h1 h2
 obtain ⟨f, hf, he⟩ := aPE h h' hp
 exact ⟨f, _, hf, by rw [← he]; exact hd⟩
theorem aTj (h : adx b) (h' : adx (acz b c)) (ho : ad5 (acy b) ((ack b).length + 1) = true) : dLo b c ≤ dHi b c := by
 rw [← ahv h h'] at ho
 exact aBk (afj h') (afs h') ho (apy h') (apx h')
theorem aQ7 (b : acC) (c : Cmp) : (aeO b c).1 = c.2.2.2.2.1 - ame b c ∧ (aeO b c).2 = c.2.2.2.2.1 - aDW b c := by
 unfold aeO ame aDW
 constructor
 ·simp only; omega
 ·simp only; omega
structure Pred (b : acC) (c : Cmp) (s : Int × Int) : Prop where
 good : adx b
 good2 : adx (acz b (ace c))
 order : aDW b c ≤ ame b c
 has : ∃ f z, aG9 b f z
 ends : s.1 - aDW b c ≤ s.2 - ame b c
 bd : -9007199254740992 ≤ s.1 - aDW b c ∧ s.2 - ame b c ≤ 9007199254740992
 all : ∀ f z, aG9 b f z → s.1 - aDW b c ≤ aqw f z c ∧ aqw f z c ≤ s.2 - ame b c
 each : ∀ t, s.1 - aDW b c ≤ t → t ≤ s.2 - ame b c → ∃ f z, aG9 b f z ∧ aqw f z c = t
theorem aok (hp : (acR b c).2 = 0) : Pred b c (acR b c).1 := by
 obtain ⟨h, h'⟩ := agt hp
 rw [aBN h h'] at hp ⊢
 by_cases ho : ad5 (acy b) ((ack b).length + 1) = true
 ·rw [if_pos ho] at hp ⊢
  obtain ⟨h1, h2⟩ := aKc hp
  rw [h2]
  have e1 : aDW b (ace c) = aDW b c := rfl
  have e2 : ame b (ace c) = ame b c := rfl
  rw [e1, e2] at *
  have s1 : dLo b (ace c) + aDW b c - aDW b c = dLo b (ace c) := by omega
  have s2 : dHi b (ace c) + ame b c - ame b c = dHi b (ace c) := by omega
  refine ⟨h, h', h1, (aHY h).1 ho, ?_, ?_, fun f z hh => ?_, fun t t1 t2 => ?_⟩
  ·simp only
   rw [s1, s2]
   exact aTj h h' ho
  ·simp only
   rw [s1, s2]
   rw [← ahv h h'] at ho
   have a1 := aMJ (afj h') (afs h') ho (apy h') (apx h')
   have a2 := aMJ (afj h') (afs h') ho (apx h') (apy h')
   unfold dLo dHi
   omega
  ·simp only
   rw [s1, s2]
   exact d_max (c := ace c) h h' hh
  ·simp only at t1 t2
   rw [s1] at t1
   rw [s2] at t2
   exact d_all (c := ace c) h h' ho t1 t2
 ·rw [if_neg ho] at hp
  simp at hp
end
end Go.Proofs.ZzM
end
noncomputable section
namespace Go.Proofs.ZzM
open Go Go.Am
theorem aEC {b : acC} (h : adx b) : (aeF b).length = (acy b).length := by
 have g0 : ∀ i, ((b.2.1.take i).mapIdx (adA b)).flatten.length = ((b.2.1.take i).flatMap (adt b)).length := by
  intro i
  induction i with
  | zero => simp
  | succ i ih =>
    rcases Nat.lt_or_ge i b.2.1.length with hi | hi
    ·have hg : b.2.1[i]? = some b.2.1[i] := List.getElem?_eq_getElem hi
     rw [ahU _ hg, take_succ hg, List.flatMap_append, List.flatten_append, List.length_append, List.length_append, ih]
     congr 1
     unfold adA adt
     simp only [List.flatMap_cons, List.flatMap_nil, List.append_nil, List.flatten_cons, List.flatten_nil, List.length_append]
     rw [agL _ _ (fun _ => rfl), agL _ _ (fun _ => rfl)]
     rfl
    ·rw [List.take_of_length_le (by omega)] at ih ⊢
     exact ih
 have c0 := aN3 (b := b) b.2.2.2.2.1.length (Nat.le_refl _)
 have g1 := g0 b.2.1.length
 rw [List.take_length] at c0 g1
 unfold aeF acy
 rw [List.length_append, List.length_append, g1, c0.1, c0.2]
theorem aJl {b : acC} : ∀ s ∈ (b.2.1.mapIdx (adA b)).flatten, (s.1 = 1 ∨ s.1 = 2) ∧ 0 ≤ s.2 ∧ s.2 < b.2.1.length := by
 intro s hs
 obtain ⟨l, hl, hm⟩ := List.mem_flatten.1 hs
 obtain ⟨i, hi, rfl⟩ := List.mem_iff_getElem.1 hl
 rw [List.length_mapIdx] at hi
 rw [List.getElem_mapIdx] at hm
 unfold adA at hm
 rcases List.mem_append.1 hm with h | h
 ·simp at h; subst h; exact ⟨.inl rfl, by dsimp only; omega, by dsimp only; omega⟩
 ·obtain ⟨_, _, h⟩ := List.mem_flatMap.1 h
  simp at h; subst h; exact ⟨.inr rfl, by dsimp only; omega, by dsimp only; omega⟩
theorem aJA {l : List Cmp} : ∀ s ∈ (l.mapIdx fun i (_ : Cmp) => [((3 : Int), (i : Int)), ((3 : Int), (i : Int))]).flatten, s.1 = 3 ∧ 0 ≤ s.2 ∧ s.2 < l.length := by
 intro s hs
 obtain ⟨m, hl, hm⟩ := List.mem_flatten.1 hs
 obtain ⟨i, hi, rfl⟩ := List.mem_iff_getElem.1 hl
 rw [List.length_mapIdx] at hi
 rw [List.getElem_mapIdx] at hm
 simp at hm; subst hm
 exact ⟨rfl, by dsimp only; omega, by dsimp only; omega⟩
theorem aRn (b : acC) (c : Cmp) : ∃ S : List (Int × Int), aeF (acz b c) = S ++ [(3, (b.2.2.2.2.1.length : Int)), (3, (b.2.2.2.2.1.length : Int))] ∧ ∀ s ∈ S, ¬ (s.1 = 3 ∧ s.2 = (b.2.2.2.2.1.length : Int)) := by
 refine ⟨((acz b c).2.1.mapIdx (adA (acz b c))).flatten ++ (b.2.2.2.2.1.mapIdx fun i (_ : Cmp) => [((3 : Int), (i : Int)), ((3 : Int), (i : Int))]).flatten, ?_, fun s hs => ?_⟩
 ·unfold aeF
  rw [show (acz b c).2.2.2.2.1 = b.2.2.2.2.1 ++ [c] from rfl, List.mapIdx_append, List.flatten_append, List.append_assoc]
  simp
 ·rcases List.mem_append.1 hs with h | h
  ·have := aJl s h; omega
  ·have := aJA s h; omega
theorem aD2 (b : acC) (c : Cmp) (h : adx (acz b c)) : acy (acz b c) = acM (acz b c) ++ [(cy (acz b c) c, cx (acz b c) c, (aeO (acz b c) c).2), (cx (acz b c) c, cy (acz b c) c, -(aeO (acz b c) c).1)] := by
 rw [aLe]
 unfold acy
 rw [show (acz b c).2.2.2.2.1 = b.2.2.2.2.1 ++ [c] from rfl, List.flatMap_append, List.append_assoc]
 simp [ac7]
def aNG (b : acC) (c : Cmp) (s t : Int) : Int := dst (acM (acz b c)) ((ack (acz b c)).length + 1) s t
abbrev End : Type := Int × Int × Int
abbrev apH : Type := (Int × Int) × End × End
def aTf (b : acC) (c : Cmp) (s t : Int) : End :=
 (aNG b c s t, aNG b c s (cy (acz b c) c) + (aeO b c).2 + aNG b c (cx (acz b c) c) t, aNG b c s (cx (acz b c) c) - (aeO b c).1 + aNG b c (cy (acz b c) c) t)
def worth0 : apH := ((0, 0), (0, 0, 0), (0, 0, 0))
def ae9 (b : acC) (n : Int × Int) (c : Cmp) : apH :=
 ((acR b c).1, aTf b (ace c) 0 (amu (acz b (ace c)) n.1 n.2), aTf b (ace c) (amu (acz b (ace c)) n.1 n.2) 0)
def awi (b : acC) (n : Int × Int) (c : Cmp) : apH × Int := if (acR b c).2 ≠ 0 then (worth0, (acR b c).2) else (ae9 b n c, 0)
theorem awO {b : acC} {c : Cmp} (h : (acR b c).2 = 0) : ad5 (acy b) ((ack b).length + 1) = true := by
 obtain ⟨g1, g2⟩ := agt h
 rw [aBN g1 g2] at h
 by_cases ho : ad5 (acy b) ((ack b).length + 1) = true
 ·exact ho
 ·rw [if_neg ho] at h; cases h
section
variable {b : acC} {c : Cmp} (h : adx b) (h' : adx (acz b c)) (ho : ad5 (acy b) ((ack b).length + 1) = true)
include h h' ho
theorem alt {s t : Int} (hs : 0 ≤ s ∧ s < ((ack (acz b c)).length + 1 : Nat)) (ht : 0 ≤ t ∧ t < ((ack (acz b c)).length + 1 : Nat)) : -9007199254740992 ≤ aNG b c s t ∧ aNG b c s t ≤ 9007199254740992 :=
 aMJ (afj h') (afs h') (by rw [ahv h h']; exact ho) hs ht
theorem amf (B : acC) {s t : Int} (hs : 0 ≤ s ∧ s < ((ack (acz b c)).length + 1 : Nat)) (ht : 0 ≤ t ∧ t < ((ack (acz b c)).length + 1 : Nat)) : ac3 (B, (((ack (acz b c)).length : Int) + 1, acM (acz b c))) t s = some (aNG b c s t) := by
 rw [show (((ack (acz b c)).length : Int) + 1) = (((ack (acz b c)).length + 1 : Nat) : Int) by push_cast; rfl, aJO (afj h') ht hs, aqj (afj h') (afs h') hs ht, if_pos (by rw [ahv h h']; exact ho)]
 rfl
theorem aOB : (-4503599627370496 ≤ (aeO b c).1 ∧ (aeO b c).1 ≤ 4503599627370496) ∧ (-4503599627370496 ≤ (aeO b c).2 ∧ (aeO b c).2 ≤ 4503599627370496) := by
 have hs := h'.sys
 have e := aD2 b c h'
 have m1 := hs.most (cy (acz b c) c, cx (acz b c) c, (aeO (acz b c) c).2) (by rw [e]; simp)
 have m2 := hs.most (cx (acz b c) c, cy (acz b c) c, -(aeO (acz b c) c).1) (by rw [e]; simp)
 have e2 : aeO (acz b c) c = aeO b c := rfl
 rw [e2] at m1 m2
 dsimp only at m1 m2
 omega
theorem aMH (B : acC) {s t : Int} (hs : 0 ≤ s ∧ s < ((ack (acz b c)).length + 1 : Nat)) (ht : 0 ≤ t ∧ t < ((ack (acz b c)).length + 1 : Nat)) :
 aiL t s (B, (((ack (acz b c)).length : Int) + 1, acM (acz b c))) (cy (acz b c) c) (aeO b c) (cx (acz b c) c) = some (aTf b c s t) := by
 have hx := apy h'
 have hy := apx h'
 have b1 := alt h h' ho hs ht
 have b2 := alt h h' ho hs hy
 have b3 := alt h h' ho hx ht
 have b4 := alt h h' ho hs hx
 have b5 := alt h h' ho hy ht
 have b6 := aOB h h' ho
 unfold aiL aoF
 rw [amf h h' ho B hs ht, ab8, amf h h' ho B hs hy, ab8, acx (by omega) (by omega), amf h h' ho B hx ht, ab8, acx (by omega) (by omega), amf h h' ho B hs hx, ab8, acx (by omega) (by omega), amf h h' ho B hy ht, ab8, acx (by omega) (by omega)]
 rfl
end
theorem aHF {B : acC} (h : adx B) (hn : ∀ g ∈ B.2.1, I64 g.2.2.2.2.1.1) (s : Sys) (l : List Int) (c : Cmp) : aiM l (B, s) c = some (atP (ack B) l c.2.1) := by
 unfold aiM aoG
 cases l with
 | nil => rw [acO]; rfl
 | cons x t =>
   rw [acO, acr (beq_eq_false_iff_ne.2 (by simp; omega)), show (0 : Int) = ((0 : Nat) : Int) from rfl, acn (show (x :: t)[0]? = some x from rfl), aBG h hn, ab8]
   rfl
theorem aPI {ρ : Type} {b : acC} {c : Cmp} (h : adx (acz b c)) (K : List Lk → Option ρ) :
 acp (fun (v17 : Val acm) kk20 => ahq (b.2.2.2.2.1.length : Int) (aeF (acz b c)) (acy (acz b c)) (acv (acy (acz b c))) v17.1 v17.2 (fun u18 u19 => kk20 (u18, u19)) K) ((0 : Int), []) = K (acM (acz b c)) := by
 have hl3 := h.sys.len
 have hsl := aEC h
 obtain ⟨S, hS, hSk⟩ := aRn b c
 have hL := aD2 b c h
 have hSl : S.length = (acM (acz b c)).length := by
  rw [hS, hL, List.length_append, List.length_append] at hsl
  simpa using hsl
 generalize acM (acz b c) = H at hL hSl ⊢
 rw [hS]
 generalize acy (acz b c) = L at hL hsl hl3 ⊢
 have hLl : L.length = H.length + 2 := by rw [hL]; simp
 refine adh L (fun i => (L.take i).take H.length) _ (by simp) (fun i l hi hl kn => ?_) (fun kn => ?_)
 ·try dsimp only
  unfold ahq
  rw [acs hi, acn hl]
  rcases Nat.lt_or_ge i H.length with h1 | h1
  ·have hs : (S ++ [((3 : Int), (b.2.2.2.2.1.length : Int)), (3, (b.2.2.2.2.1.length : Int))])[i]? = some S[i] := by
    rw [List.getElem?_append_left (by omega), List.getElem?_eq_getElem]
   have hk := hSk S[i] (List.getElem_mem _)
   have e : ((aeI (S[i]).1 (3 : Int)) && ((aeI (S[i]).2 (b.2.2.2.2.1.length : Int)) && true)) = false := by
    simp [aeI]; omega
   have e1 : (L.take i).take H.length = L.take i := List.take_of_length_le (by rw [List.length_take]; omega)
   have e2 : (L.take (i + 1)).take H.length = L.take (i + 1) := List.take_of_length_le (by rw [List.length_take]; omega)
   rw [acn hs, e, acD (by rfl), e1, e2, adF (acu (by rw [List.length_take]; simp; omega)), aco hi (by omega), take_succ hl]
  ·have hs : (S ++ [((3 : Int), (b.2.2.2.2.1.length : Int)), (3, (b.2.2.2.2.1.length : Int))])[i]? = some ((3 : Int), (b.2.2.2.2.1.length : Int)) := by
    rw [List.getElem?_append_right (by omega)]
    have : i - S.length = 0 ∨ i - S.length = 1 := by omega
    rcases this with e | e <;> rw [e] <;> rfl
   have e : ((aeI (3 : Int) (3 : Int)) && ((aeI (b.2.2.2.2.1.length : Int) (b.2.2.2.2.1.length : Int)) && true)) = true := by simp [aeI]
   have e1 : (L.take i).take H.length = (L.take (i + 1)).take H.length := by
    rw [List.take_take, List.take_take]
    congr 1
    omega
   rw [acn hs]
   dsimp only
   rw [e, acr (by rfl), aco hi (by omega), e1]
 ·try dsimp only
  unfold ahq
  rw [acL, List.take_length, hL]
  simp
theorem auA {B : acC} (hr : aTy B) (n : Int × Int) {c : Cmp} (hA : c.2.2.1.length ≤ 1000) (hB : c.2.2.2.1.length ≤ 1000) : ajE (B, aBS B) n c = some (awi B n c) := by
 unfold ajE avw awi
 have hs := hr.good.size
 rw [show (B, aBS B).1 = B from rfl, aN7 hs hr.num hA hB, ab8]
 by_cases hp : (acR B c).2 = 0
 ·obtain ⟨g1, g2⟩ := agt hp
  have ho := awO hp
  have e1 : apI B (ace c) = (acz B (ace c), 0) := by
   unfold apI
   rw [if_neg (by simp [(acQ B).2 g1]), if_neg (by simp [(acQ _).2 g2])]
  have hn2 : ∀ g ∈ (acz B (ace c)).2.1, I64 g.2.2.2.2.1.1 := hr.num
  have hC := g2.nC
  have hw : (((acz B (ace c)).2.2.2.2.1.length : Int) - 1) = (B.2.2.2.2.1.length : Int) := by simp [acz]
  have hSays : aSd (acz B (ace c)) (B.2.2.2.2.1.length : Int) = (aeO B (ace c), 0) := by
   have e : alC (acz B (ace c)) (B.2.2.2.2.1.length : Int) = (ace c, 0) := by
    unfold alC
    rw [if_neg (by simp [(acQ _).2 g2]), if_neg (by simp [acz]; omega)]
    simp [acz]
   unfold aSd
   rw [e, if_neg (by simp)]
   rfl
  have hCancel : aBR c.2.2.1 c.2.2.2.1 = (adb c.2.2.1 c.2.2.2.1, adb c.2.2.2.1 c.2.2.1, 0) := by
   have hnu := (ahi _).1 (g2.nums (apR (c := ace c)))
   have h6 : ajf c.2.2.1 = true ∧ ajf c.2.2.2.1 = true := ⟨hnu.2.2.2.2.2.1, hnu.2.2.2.2.2.2⟩
   unfold aBR
   rw [h6.1, h6.2]
   rfl
  rw [acr (by rw [hp]; rfl), if_neg (by simp [hp]), show ajq B (c.1, c.2.1, c.2.2.1, c.2.2.2.1, (0 : Int), c.2.2.2.2.2) = ajq B (ace c) from rfl, aQB hs hr.num (c := ace c) hA hB, ab8, e1]
  dsimp only
  rw [acr (by rfl), acO, hw, acx (by omega) (by omega), aTx (g2.inn hn2), ab8, hSays, aJZ (by omega) (by omega), ab8, hCancel, akn (g2.inn hn2), ab8, agj g2]
  dsimp only
  refine (aPI g2 _).trans ?_
  have ex : cx (acz B (ace c)) (ace c) = atP (ack (acz B (ace c))) (adb c.2.2.1 c.2.2.2.1) c.2.1 := rfl
  have ey : cy (acz B (ace c)) (ace c) = atP (ack (acz B (ace c))) (adb c.2.2.2.1 c.2.2.1) c.2.1 := rfl
  rw [aHF g2 hn2, ab8, aHF g2 hn2, ab8, aBG g2 hn2, ab8, ← ex, ← ey, aMH g1 g2 ho _ (adY _) (adX _ n), ab8, aMH g1 g2 ho _ (adX _ n) (adY _), ab8]
  rfl
 ·rw [acD (bne_iff_ne.2 hp), if_pos hp]
  rfl
end Go.Proofs.ZzM
end
noncomputable section
namespace Go.Proofs.ZzM
open Go Go.Am
theorem aOD {α : Type} [DecidableEq α] {l m : List α} (hl : l.length = m.length) (h : aeN (fun i a => if m[i]? = some a then none else some false) 0 l = none) : l = m := by
 have := aic.1 h
 refine List.ext_getElem hl fun i h1 h2 => ?_
 have h3 := this i l[i] (List.getElem?_eq_getElem h1)
 rw [Nat.zero_add] at h3
 split at h3
 ·rename_i h4
  rw [List.getElem?_eq_getElem h2] at h4
  exact (Option.some.inj h4).symm
 ·cases h3
theorem aOC {α : Type} [DecidableEq α] {l m : List α} {b : Bool} (h : aeN (fun i a => if m[i]? = some a then none else some false) 0 l = some b) : b = false ∧ l ≠ m := by
 constructor
 ·have : ∀ (k : Nat) (x : List α) (b : Bool), aeN (fun i a => if m[i]? = some a then none else some false) k x = some b → b = false := by
   intro k x
   induction x generalizing k with
   | nil => intro b h; cases h
   | cons a t ih =>
     intro b h
     unfold aeN at h
     split at h
     ·rename_i c hc
      split at hc
      ·cases hc
      ·cases hc; cases h; rfl
     ·exact ih _ _ h
  exact this _ _ _ h
 ·intro e
  subst e
  rw [aic.2 fun j a ha => by rw [Nat.zero_add, if_pos ha]] at h
  cases h
end Go.Proofs.ZzM
end
noncomputable section
namespace Go.Proofs.ZzM
open Go Go.Am
section
variable {b : acC} {c d : Cmp} {s : Int × Int}
theorem aOK (h : Pred b c s) : -10000000000000000 ≤ s.1 ∧ s.1 ≤ s.2 ∧ s.2 ≤ 10000000000000000 := by
 have q := h.good2.cmp (apR (c := ace c))
 obtain ⟨_, _, b1, b2, b3⟩ := awM (b := b) h.good.film (c := ace c) ⟨q.nums, q.r1, q.r2⟩
 have e1 : aDW b c = aBv (adR b (ace c)).1 + (ag5 b (ace c)).1 - (ace c).2.2.2.2.2.1 := rfl
 have e2 : ame b c = (adR b (ace c)).2.1 / (adR b (ace c)).2.2 + (ag5 b (ace c)).2 + (ace c).2.2.2.2.2.1 := rfl
 have o := h.order
 have n := h.ends
 have bd := h.bd
 omega
end
end Go.Proofs.ZzM
end
noncomputable section
namespace Go.Proofs.ZzM
open Go Go.Am
def aeq (e : End) : List Int := [e.1 - e.2.1, e.2.2 - e.1, Int.tdiv (e.2.2 - e.2.1) 2, Int.tdiv (e.2.2 - e.2.1) 2 - 1, Int.tdiv (e.2.2 - e.2.1) 2 + 1]
def alK (e : End) (n : Int) : List Int := [n - e.2.1, e.2.2 - n]
def atE (e : End) (d : Int) : Int := min e.1 (min (e.2.1 + d) (e.2.2 - d))
def ahd (w : apH) (d : Int) : Int × Int := (-(atE w.2.2 d), atE w.2.1 d)
def aNH (r : Int × Int) (n : Int) : List Int := [n - 2, n - 1, n, n + 1, n + 2].filter fun d => decide (r.1 < d) && decide (d < r.2)
def axS (r : Int × Int) (l : List Int) : List Int := [r.1, r.2] ++ l.flatMap (aNH r)
def aHa (w : apH) (l : List Int) : Int := l.foldl (fun m d => max m ((ahd w d).2 - (ahd w d).1)) (-1)
def af8 (w : apH) : Int := aHa w (axS w.1 (aeq w.2.1 ++ aeq w.2.2))
def Sm (n : Int) : Prop := -100000000000000000 ≤ n ∧ n ≤ 100000000000000000
structure aG4 (e : End) : Prop where
 s : Sm e.1
 u : Sm e.2.1
 d : Sm e.2.2
structure aG0 (w : apH) : Prop where
 lo : Sm w.1.1
 hi : Sm w.1.2
 high : aG4 w.2.1
 low : aG4 w.2.2
theorem aHj (n : Int) : -1 ≤ n - 2 * Int.tdiv n 2 ∧ n - 2 * Int.tdiv n 2 ≤ 1 := by
 have h1 := Int.tmod_add_mul_tdiv n 2
 have h2 := Int.tmod_two_eq n
 omega
theorem ays {e : End} (h : aG4 e) : afL e = some (aeq e) := by
 obtain ⟨⟨a1, a2⟩, ⟨b1, b2⟩, c1, c2⟩ := h
 have h2 := aHj (e.2.2 - e.2.1)
 unfold afL amJ
 rw [acx (by omega) (by omega), acx (by omega) (by omega), acx (by omega) (by omega), acx (by omega) (by omega), acx (by omega) (by omega), acx (by omega) (by omega)]
 rfl
theorem ayB {e : End} (h : aG4 e) {n : Int} (hn : -1000000000000000000 ≤ n ∧ n ≤ 1000000000000000000) : afM e n = some (alK e n) := by
 obtain ⟨⟨a1, a2⟩, ⟨b1, b2⟩, c1, c2⟩ := h
 unfold afM amK
 rw [acx (by omega) (by omega), acx (by omega) (by omega)]
 rfl
theorem aSD {e : End} (h : aG4 e) {d : Int} (hd : Sm d) : amj e d = some (atE e d) := by
 obtain ⟨⟨a1, a2⟩, ⟨b1, b2⟩, c1, c2⟩ := h
 obtain ⟨d1, d2⟩ := hd
 unfold amj avz
 rw [acx (by omega) (by omega), acx (by omega) (by omega), awm, awm]
 unfold atE
 congr 1
 omega
theorem aQy {e : End} (h : aG4 e) {d : Int} (hd : Sm d) : -200000000000000000 ≤ atE e d ∧ atE e d ≤ 100000000000000000 := by
 obtain ⟨⟨a1, a2⟩, ⟨b1, b2⟩, c1, c2⟩ := h
 obtain ⟨d1, d2⟩ := hd
 unfold atE
 omega
theorem aOw {w : apH} (h : aG0 w) {d : Int} (hd : Sm d) : ad1 w d = some (ahd w d) := by
 unfold ad1 ala
 have b1 := aQy h.low hd
 rw [aSD h.low hd, ab8, acx (by omega) (by omega), aSD h.high hd, ab8]
 unfold ahd
 rw [Int.zero_sub]
theorem aRC (r : Int × Int) (n : Int) : (aNH r n).length ≤ 5 := List.length_filter_le _ _
theorem aA7 (r : Int × Int) : ∀ l : List Int, (l.flatMap (aNH r)).length ≤ l.length * 5
 | [] => by simp
 | n :: l => by
   have h1 := aRC r n
   have h2 := aA7 r l
   rw [List.flatMap_cons, List.length_append, List.length_cons]
   omega
theorem aS3 {ρ : Type} (r : Int × Int) {n : Int} (hn : -4000000000000000000 ≤ n ∧ n ≤ 4000000000000000000) {out : List Int} (ho : out.length ≤ 1000) (K : List Int → Option ρ) :
 acp (fun (v9 : (Val (.pair tI (.slice tI)))) kk12 => afp n r.1 r.2 v9.1 v9.2 (fun u10 u11 => kk12 (u10, u11)) K) (n - 2, out) = K (out ++ aNH r n) := by
 let five : List Int := [n - 2, n - 1, n, n + 1, n + 2]
 have hg : ∀ (i : Nat), i < 5 → five[i]? = some (n - 2 + i) := by
  intro i hi
  have : i = 0 ∨ i = 1 ∨ i = 2 ∨ i = 3 ∨ i = 4 := by omega
  rcases this with rfl | rfl | rfl | rfl | rfl <;> simp only [five, List.getElem?_cons_zero, List.getElem?_cons_succ] <;> congr 1 <;> omega
 refine afi (fun v => ∃ i : Nat, i ≤ 5 ∧ v = (n - 2 + (i : Int), out ++ (five.take i).filter fun d => decide (r.1 < d) && decide (d < r.2))) (fun v => (n + 3 - v.1).toNat) ?_ ⟨0, by omega, by simp⟩
 rintro v ⟨i, hi, rfl⟩
 rcases Nat.lt_or_ge i 5 with h5 | h5
 ·refine .inr ⟨(n - 2 + ((i + 1 : Nat) : Int), out ++ (five.take (i + 1)).filter fun d => decide (r.1 < d) && decide (d < r.2)), ⟨i + 1, h5, rfl⟩, by dsimp only; omega, fun kn => ?_⟩
  have hl : ((five.take i).filter fun d => decide (r.1 < d) && decide (d < r.2)).length ≤ 5 := aka _ five i
  dsimp only
  unfold afp
  rw [acx (by omega) (by omega), acD (decide_eq_true (by omega)), take_succ (hg i h5), List.filter_append]
  have e0 : n - 2 + (i : Int) + 1 = n - 2 + ((i + 1 : Nat) : Int) := by push_cast; omega
  by_cases h1 : r.1 < n - 2 + (i : Int)
  ·rw [acD (show igt (n - 2 + (i : Int)) r.1 = true from decide_eq_true h1)]
   by_cases h2 : n - 2 + (i : Int) < r.2
   ·rw [acD (show ilt (n - 2 + (i : Int)) r.2 = true from decide_eq_true h2), adF (acu (by rw [List.length_append]; simp only [List.length_singleton]; omega)), acx (by omega) (by omega), e0]
    simp [h1, h2]
   ·rw [acr (show ilt (n - 2 + (i : Int)) r.2 = false from decide_eq_false h2), acx (by omega) (by omega), e0]
    simp [h1, h2]
  ·rw [acr (show igt (n - 2 + (i : Int)) r.1 = false from decide_eq_false h1), acx (by omega) (by omega), e0]
   simp [h1]
 ·refine .inl fun kn => ?_
  obtain rfl : i = 5 := by omega
  dsimp only
  unfold afp
  rw [acx (by omega) (by omega), acr (decide_eq_false (by omega))]
  rfl
theorem aO6 (w : apH) {l : List Int} (hl : l.length ≤ 100) (hn : ∀ n ∈ l, -2000000000000000000 ≤ n ∧ n ≤ 2000000000000000000) : agF w l = some (axS w.1 l) := by
 unfold agF alb
 refine adh l (fun i => [w.1.1, w.1.2] ++ (l.take i).flatMap (aNH w.1)) _ rfl (fun i n hi ha kn => ?_) (fun kn => ?_)
 ·try dsimp only
  unfold ago
  have hb := hn n (List.mem_of_getElem? ha)
  have h5 := aA7 w.1 (l.take i)
  have ht : (l.take i).length ≤ 100 := by rw [List.length_take]; omega
  rw [acs hi, acn ha, acx (by omega) (by omega)]
  refine (aS3 w.1 (by omega) (by rw [List.length_append]; simp only [List.length_cons, List.length_nil]; omega) _).trans ?_
  rw [aco hi (by omega), take_succ ha, List.flatMap_append, List.append_assoc]
  simp
 ·try dsimp only
  unfold ago
  rw [acL, List.take_length]
  rfl
theorem aE2 {r : Int × Int} {l : List Int} {d : Int} : d ∈ axS r l ↔ d = r.1 ∨ d = r.2 ∨ (r.1 < d ∧ d < r.2 ∧ ∃ n ∈ l, n - 2 ≤ d ∧ d ≤ n + 2) := by
 unfold axS aNH
 simp only [List.mem_append, List.mem_cons, List.not_mem_nil, or_false, List.mem_flatMap, List.mem_filter, Bool.and_eq_true, decide_eq_true_eq]
 constructor
 ·rintro ((h | h) | ⟨n, hn, h, h1, h2⟩)
  ·exact .inl h
  ·exact .inr (.inl h)
  ·exact .inr (.inr ⟨h1, h2, n, hn, by omega, by omega⟩)
 ·rintro (h | h | ⟨h1, h2, n, hn, h3, h4⟩)
  ·exact .inl (.inl h)
  ·exact .inl (.inr h)
  ·exact .inr ⟨n, hn, by omega, h1, h2⟩
theorem aMi (r : Int × Int) {l : List Int} (hl : l.length ≤ 100) : (axS r l).length ≤ 600 := by
 have := aA7 r l
 unfold axS
 rw [List.length_append]
 simp only [List.length_cons, List.length_nil]
 omega
theorem aO5 {w : apH} (h : aG0 w) {l : List Int} : ∀ d ∈ axS w.1 l, Sm d := by
 intro d hd
 obtain ⟨a1, a2⟩ := h.lo
 obtain ⟨b1, b2⟩ := h.hi
 rcases aE2.1 hd with h | h | ⟨h1, h2, _⟩
 ·rw [h]; exact ⟨a1, a2⟩
 ·rw [h]; exact ⟨b1, b2⟩
 ·exact ⟨by omega, by omega⟩
theorem ayt {e : End} (h : aG4 e) : ∀ n ∈ aeq e, -1000000000000000000 ≤ n ∧ n ≤ 1000000000000000000 := by
 obtain ⟨⟨a1, a2⟩, ⟨b1, b2⟩, c1, c2⟩ := h
 have h2 := aHj (e.2.2 - e.2.1)
 intro n hn
 unfold aeq at hn
 simp only [List.mem_cons, List.not_mem_nil, or_false] at hn
 omega
theorem aLL {w : apH} (h : aG0 w) : agf w = some (af8 w) := by
 unfold agf ajU
 have hl : ([aeq w.2.1, aeq w.2.2] : List (List Int)).flatten = aeq w.2.1 ++ aeq w.2.2 := by simp
 have hll : (aeq w.2.1 ++ aeq w.2.2).length = 10 := rfl
 rw [ays h.high, ab8, ays h.low, ab8, ajI (by simp) (by rw [hl, hll]; omega), ab8, hl, aO6 w (by rw [hll]; omega) (fun n hn => by
  rcases List.mem_append.1 hn with hn | hn
  ·have := ayt h.high n hn; omega
  ·have := ayt h.low n hn; omega), ab8]
 have hnl := aMi w.1 (l := aeq w.2.1 ++ aeq w.2.2) (by rw [hll]; omega)
 have hsm := aO5 h (l := aeq w.2.1 ++ aeq w.2.2)
 unfold af8
 generalize axS w.1 (aeq w.2.1 ++ aeq w.2.2) = l at hnl hsm ⊢
 refine afi (fun v => ∃ i : Nat, i ≤ l.length ∧ v = (aHa w (l.take i), (i : Int))) (fun v => l.length - v.2.toNat) ?_ ⟨0, by omega, rfl⟩
 rintro v ⟨i, hi, rfl⟩
 rcases Nat.lt_or_ge i l.length with h2 | h2
 ·have ha : l[i]? = some l[i] := List.getElem?_eq_getElem h2
  have hs := hsm l[i] (List.getElem_mem _)
  generalize l[i] = d at ha hs
  refine .inr ⟨(aHa w (l.take (i + 1)), ((i + 1 : Nat) : Int)), ⟨i + 1, h2, rfl⟩, by dsimp only; omega, fun kn => ?_⟩
  dsimp only
  unfold af4
  have b1 := aQy h.low hs
  have b2 := aQy h.high hs
  rw [acs h2, acn ha, show ad1 ((w.1.1, w.1.2), (w.2.1.1, w.2.1.2.1, w.2.1.2.2), w.2.2.1, w.2.2.2.1, w.2.2.2.2) d = ad1 w d from rfl, aOw h hs, ab8, acx (by unfold ahd; dsimp only; omega) (by unfold ahd; dsimp only; omega), aco h2 (by omega), aLc, take_succ ha]
  unfold aHa
  rw [List.foldl_append]
  rfl
 ·refine .inl fun kn => ?_
  obtain rfl : i = l.length := by omega
  dsimp only
  unfold af4
  rw [acL, List.take_length]
theorem aEy {b : acC} {n : Int × Int} {c : Cmp} (hp : (acR b c).2 = 0) : aG0 (ae9 b n c) := by
 obtain ⟨g1, g2⟩ := agt hp
 have ho := awO hp
 have hb := aOK (aok hp)
 have hx := apy g2
 have hy := apx g2
 have b6 := aOB g1 g2 ho
 have key : ∀ {s t : Int}, 0 ≤ s ∧ s < ((ack (acz b (ace c))).length + 1 : Nat) → 0 ≤ t ∧ t < ((ack (acz b (ace c))).length + 1 : Nat) → aG4 (aTf b (ace c) s t) := by
  intro s t hs ht
  have b1 := alt g1 g2 ho hs ht
  have b2 := alt g1 g2 ho hs hy
  have b3 := alt g1 g2 ho hx ht
  have b4 := alt g1 g2 ho hs hx
  have b5 := alt g1 g2 ho hy ht
  unfold aTf
  exact ⟨⟨by dsimp only; omega, by dsimp only; omega⟩, ⟨by dsimp only; omega, by dsimp only; omega⟩, by dsimp only; omega, by dsimp only; omega⟩
 exact ⟨⟨by show _ ≤ (acR b c).1.1; omega, by show (acR b c).1.1 ≤ _; omega⟩, ⟨by show _ ≤ (acR b c).1.2; omega, by show (acR b c).1.2 ≤ _; omega⟩, key (adY _) (adX _ n), key (adX _ n) (adY _)⟩
def aEw (b : acC) (n : Int × Int) (c : Cmp) : Int × Int :=
 if (adm b [n]).2 ≠ 0 then (0, (adm b [n]).2) else if (acR (adm b [n]).1 c).2 ≠ 0 then (0, (acR (adm b [n]).1 c).2) else (af8 (ae9 (adm b [n]).1 n c), 0)
theorem aQS {ρ : Type} : @aoJ ρ = @ac2 ρ := rfl
theorem aG1 {b : acC} (hI : In b) (n : Int × Int) {c : Cmp} (hA : c.2.2.1.length ≤ 1000) (hB : c.2.2.2.1.length ≤ 1000) : ahy b n c = some (aEw b n c) := by
 unfold ahy azK aEw
 rw [aQS]
 refine (akv hI (ns := [n]) (by simp) (fun e => some ((0 : Int), e)) (fun e he => by rw [adF (by simp [ine, he])]) (fun z he => by rw [adF (by simp [ine, he])]) (fun _ _ _ => rfl)).trans ?_
 split
 ·rfl
 ·rename_i e
  have hr := (agC hI (by simpa using e)).1
  dsimp only
  rw [ann, show ((((ack (adm b [n]).1).length : Int) + 1, acy (adm b [n]).1) : Sys) = aBS (adm b [n]).1 from rfl, auA hr n hA hB, ab8]
  unfold awi
  by_cases hp : (acR (adm b [n]).1 c).2 = 0
  ·rw [if_neg (by simp [hp]), if_neg (by simp [hp]), acr (by rfl), aLL (aEy hp), ab8]
  ·rw [if_pos hp, if_pos hp, acD (bne_iff_ne.2 hp)]
def aOd (x : Int) : Int := max (-288230376151711744) (min x 288230376151711744)
def arq (w : apH) (l : Int × Int) : List Int := (aeq w.2.1 ++ aeq w.2.2) ++ (alK w.2.1 l.1 ++ alK w.2.2 (-l.1)) ++ (alK w.2.1 l.2 ++ alK w.2.2 (-l.2))
def aL0 (w : apH) (l : Int × Int) : Bool := (axS w.1 (arq w l)).all fun d => akr (ahd w d) l != 3
def ayO (b : acC) (n l : Int × Int) (c : Cmp) : Bool × Int :=
 if (adm b [n]).2 ≠ 0 then (false, (adm b [n]).2) else if l.2 < l.1 then (false, 1) else if (acR (adm b [n]).1 c).2 ≠ 0 then (false, (acR (adm b [n]).1 c).2) else (aL0 (ae9 (adm b [n]).1 n c) (aOd l.1, aOd l.2), 0)
theorem aNb {ρ : Type} : @alf ρ = @ac2 ρ := rfl
theorem aSt (x : Int) : ahz x = some (aOd x) := by
 unfold ahz amN aOd
 rw [awm, aLc]
theorem ayC {e : End} (h : aG4 e) {n : Int} (hn : -300000000000000000 ≤ n ∧ n ≤ 300000000000000000) : ∀ m ∈ alK e n, -1000000000000000000 ≤ m ∧ m ≤ 1000000000000000000 := by
 obtain ⟨⟨a1, a2⟩, ⟨b1, b2⟩, c1, c2⟩ := h
 intro m hm
 unfold alK at hm
 simp only [List.mem_cons, List.not_mem_nil, or_false] at hm
 omega
theorem aN6 {b : acC} (hI : In b) (n l : Int × Int) {c : Cmp} (hA : c.2.2.1.length ≤ 1000) (hB : c.2.2.2.1.length ≤ 1000) : ake b n l c = some (ayO b n l c) := by
 unfold ake arS ayO
 rw [aNb]
 refine (akv hI (ns := [n]) (by simp) (fun e => some (false, e)) (fun e he => by rw [acD (by simp [ine, he])]) (fun z he => by rw [acD (by simp [ine, he])]) (fun _ _ _ => rfl)).trans ?_
 split
 ·rfl
 ·rename_i e
  have hr := (agC hI (by simpa using e)).1
  dsimp only
  by_cases hl : l.2 < l.1
  ·rw [acD (by simp [igt, hl]), if_pos hl]
  ·rw [acr (by simp [igt]; omega), if_neg hl, ann, show ((((ack (adm b [n]).1).length : Int) + 1, acy (adm b [n]).1) : Sys) = aBS (adm b [n]).1 from rfl, auA hr n hA hB, ab8]
   unfold awi
   by_cases hp : (acR (adm b [n]).1 c).2 = 0
   ·rw [if_neg (by simp [hp]), if_neg (by simp [hp]), acr (by rfl)]
    have hw := aEy (n := n) hp
    dsimp only
    generalize ae9 (adm b [n]).1 n c = w at hw ⊢
    have f1 : -300000000000000000 ≤ aOd l.1 ∧ aOd l.1 ≤ 300000000000000000 := by unfold aOd; omega
    have f2 : -300000000000000000 ≤ aOd l.2 ∧ aOd l.2 ≤ 300000000000000000 := by unfold aOd; omega
    have q1 : ([aeq w.2.1, aeq w.2.2] : List (List Int)).flatten = aeq w.2.1 ++ aeq w.2.2 := by simp
    have q2 : ∀ x y z : List Int, ([x, y, z] : List (List Int)).flatten = x ++ (y ++ z) := by intro x y z; simp
    rw [ays hw.high, ab8, ays hw.low, ab8, ajI (by simp) (by rw [q1]; simp [aeq]), ab8, q1, aSt, ab8, aSt, ab8]
    generalize aOd l.1 = l1 at f1 ⊢
    generalize aOd l.2 = l2 at f2 ⊢
    rw [ayB hw.high (by omega), ab8, acx (by omega) (by omega), Int.zero_sub, ayB hw.low (by omega), ab8, ajI (by simp) (by rw [q2]; simp [aeq, alK]), ab8, q2,
     ayB hw.high (by omega), ab8, acx (by omega) (by omega), Int.zero_sub, ayB hw.low (by omega), ab8, ajI (by simp) (by rw [q2]; simp [aeq, alK]), ab8, q2]
    have hll : (arq w (l1, l2)).length = 18 := rfl
    have qs : aeq w.2.1 ++ aeq w.2.2 ++ (alK w.2.1 l1 ++ alK w.2.2 (-l1)) ++ (alK w.2.1 l2 ++ alK w.2.2 (-l2)) = arq w (l1, l2) := rfl
    rw [qs, aO6 w (by rw [hll]; omega) (fun m hm => by
     unfold arq at hm
     simp only [List.mem_append] at hm
     rcases hm with ((hm | hm) | (hm | hm)) | (hm | hm)
     ·have := ayt hw.high m hm; omega
     ·have := ayt hw.low m hm; omega
     ·have := ayC hw.high f1 m hm; omega
     ·have := ayC hw.low (n := -l1) (by omega) m hm; omega
     ·have := ayC hw.high f2 m hm; omega
     ·have := ayC hw.low (n := -l2) (by omega) m hm; omega), ab8]
    have hnl := aMi w.1 (l := arq w (l1, l2)) (by rw [hll]; omega)
    have hsm := aO5 hw (l := arq w (l1, l2))
    unfold aL0
    generalize axS w.1 (arq w (l1, l2)) = ds at hnl hsm ⊢
    refine (agq ds (fun d => akr (ahd w d) (l1, l2) == 3) (fun z30 => some ((!(ige z30 (0 : Int))), (0 : Int))) (some (false, 0)) (some (true, 0)) (fun j => by rw [show ige (j : Int) 0 = true from decide_eq_true (by omega)]; rfl) (fun i d hi hd kn => ?_) (fun kn => ?_)).trans ?_
    ·try dsimp only
     unfold aim
     rw [acs hi, acn hd, show ad1 ((w.1.1, w.1.2), (w.2.1.1, w.2.1.2.1, w.2.1.2.2), w.2.2.1, w.2.2.2.1, w.2.2.2.2) d = ad1 w d from rfl, aOw hw (hsm d (List.mem_of_getElem? hd)), ab8, aDi, ab8, aco hi (by omega), adM]
    ·try dsimp only
     unfold aim
     rw [acL]
    ·rw [show (fun d => akr (ahd w d) (l1, l2) != 3) = (fun d => !(akr (ahd w d) (l1, l2) == 3)) from rfl, ← List.not_any_eq_all_not]
     cases ds.any fun d => akr (ahd w d) (l1, l2) == 3 <;> rfl
   ·rw [if_pos hp, if_pos hp, acD (bne_iff_ne.2 hp)]
end Go.Proofs.ZzM
end
noncomputable section
namespace Go.Proofs.ZzM
open Go Go.Am
def ark (b : acC) (n : Int × Int) : Prop := ∃ g ∈ b.2.1, g.1 = n.1 ∧ n.2 ∈ acB b g
theorem aRz {b : acC} (h : adx b) {n : Int × Int} : amu b n.1 n.2 ≠ 0 ↔ ark b n := by
 unfold amu
 constructor
 ·intro hne
  cases hx : agy (ack b) n.1 n.2 with
  | none => rw [hx] at hne; simp at hne
  | some j =>
    have hm := List.mem_of_getElem? (ag0 hx).2
    unfold ack at hm
    obtain ⟨g, hg, hd⟩ := List.mem_flatMap.1 hm
    obtain ⟨d, hd, e⟩ := List.mem_map.1 hd
    simp only [Prod.mk.injEq] at e
    obtain ⟨e1, rfl⟩ := e
    exact ⟨g, hg, e1, hd⟩
 ·rintro ⟨g, hg, e, hd⟩
  obtain ⟨i, hi, rfl⟩ := List.mem_iff_getElem.1 hg
  obtain ⟨k, hk, e2⟩ := List.mem_iff_getElem.1 hd
  rw [← e, aEZ h (List.getElem?_eq_getElem hi) (by rw [List.getElem?_eq_getElem hk, e2])]
  dsimp only
  omega
theorem aJi (b : acC) (x d : Int) : amu b x d = aeH b x d := rfl
theorem aPZ (b : acC) (n : Int × Int) (g : acY) {d : Int} (hd : d ∈ acB b g) : d ∈ acB (ai0 b n) g := by
 unfold acB at hd ⊢
 rw [apO] at hd ⊢
 unfold aGI ai0 at *
 simp only [List.mem_append, List.mem_map, List.mem_filter] at hd ⊢
 rcases hd with (h | h) | ⟨m, ⟨h1, h2⟩, h3⟩
 ·exact .inl (.inl h)
 ·exact .inl (.inr h)
 ·exact .inr ⟨m, ⟨.inl h1, h2⟩, h3⟩
theorem aPm {b : acC} (n : Int × Int) (h' : adx (ai0 b n)) : ark (ai0 b n) n := by
 have hu := h'.looks n (by simp [ai0])
 unfold aQW at hu
 split at hu
 ·omega
 obtain ⟨g, hg, _⟩ := avo h' hu
 obtain ⟨hm, e⟩ := ak2 hg
 refine ⟨g, hm, e, ?_⟩
 unfold acB
 rw [apO]
 unfold aGI ai0
 simp only [List.mem_append, List.mem_map, List.mem_filter]
 exact .inr ⟨n, ⟨.inr (by simp), by simp [e]⟩, rfl⟩
theorem ayV {b : acC} {n : Int × Int} (e : (ajK b n).2 = 0) : (ajK b n = (b, 0) ∧ amu b n.1 n.2 ≠ 0) ∨ (ajK b n = (ai0 b n, 0) ∧ adx (ai0 b n) ∧ amu b n.1 n.2 = 0) := by
 unfold ajK at e ⊢
 split
 ·rename_i h; exact .inl ⟨rfl, h⟩
 ·rename_i h1
  rw [if_neg h1] at e
  split
  ·rename_i h2; rw [if_pos h2] at e; exact absurd e h2
  ·rename_i h2; exact .inr ⟨rfl, (acQ _).1 (by simpa using h2), by simpa using h1⟩
theorem aHx : ∀ {ns : List (Int × Int)} {b : acC}, (afE b ns).2 = 0 → ∀ n, ark b n → ark (afE b ns).1 n
 | [], b, _, n, hn => hn
 | m :: t, b, e, n, hn => by
   unfold afE at e ⊢
   split
   ·rename_i h1; rw [if_pos h1] at e; exact absurd e h1
   ·rename_i h1
    rw [if_neg h1] at e
    refine aHx e n ?_
    rcases ayV (by simpa using h1) with ⟨h, _⟩ | ⟨h, _, _⟩
    ·rw [h]; exact hn
    ·rw [h]
     obtain ⟨g, hg, e1, hd⟩ := hn
     exact ⟨g, hg, e1, aPZ b m g hd⟩
theorem aHw : ∀ {ns : List (Int × Int)} {b : acC}, adx b → (afE b ns).2 = 0 → ∀ n ∈ ns, ark (afE b ns).1 n
 | [], b, _, _, n, hn => by simp at hn
 | m :: t, b, hg, e, n, hn => by
   unfold afE at e ⊢
   split
   ·rename_i h1; rw [if_pos h1] at e; exact absurd e h1
   ·rename_i h1
    rw [if_neg h1] at e
    have h1' : (ajK b m).2 = 0 := by simpa using h1
    rcases List.mem_cons.1 hn with rfl | hn
    ·refine aHx e n ?_
     rcases ayV h1' with ⟨h, h2⟩ | ⟨h, h2, _⟩
     ·rw [h]; exact (aRz hg).1 h2
     ·rw [h]; exact aPm n h2
    ·exact aHw (aHl hg h1') e n hn
theorem aPn {b : acC} {n : Int × Int} {f : Int → Int → Int} {z : Int} : aG9 (ai0 b n) f z ↔ aG9 b f z :=
 ⟨fun h => ⟨fun g hg => by have := h.gauge g hg; exact ⟨this.hi, this.lo, this.down, this.loss⟩, h.cmp⟩, fun h => ⟨fun g hg => by have := h.gauge g hg; exact ⟨this.hi, this.lo, this.down, this.loss⟩, h.cmp⟩⟩
theorem aHy : ∀ {ns : List (Int × Int)} {b : acC}, (afE b ns).2 = 0 → ∀ {f : Int → Int → Int} {z : Int}, aG9 (afE b ns).1 f z ↔ aG9 b f z
 | [], b, _, f, z => Iff.rfl
 | m :: t, b, e, f, z => by
   unfold afE at e ⊢
   split
   ·rename_i h1; rw [if_pos h1] at e; exact absurd e h1
   ·rename_i h1
    rw [if_neg h1] at e
    rw [aHy e]
    rcases ayV (by simpa using h1) with ⟨h, _⟩ | ⟨h, _, _⟩
    ·rw [h]
    ·rw [h]; exact aPn
section
variable {B : acC} (h : aTy B)
include h
theorem aRb (f : Int → Int → Int) (z : Int) {n : Int × Int} (hn : ark B n) : aza B f z (amu B n.1 n.2) = f n.1 n.2 := by
 obtain ⟨g, hg, e, hd⟩ := hn
 rw [aJi, ← e, aoj h.good f z hg hd]
theorem iv_in {n : Int × Int} (hn : ark B n) {f : Int → Int → Int} {z : Int} (hh : aG9 B f z) : (ivR B n).1 ≤ f n.1 n.2 - z ∧ f n.1 n.2 - z ≤ (ivR B n).2 := by
 have hp := aMu h.good hh
 have a1 := aso h.good.sys h.good.tied h.op (adX B n) (adY B) hp
 have a2 := aso h.good.sys h.good.tied h.op (adY B) (adX B n) hp
 rw [aRb h f z hn, ait] at a1 a2
 unfold ivR aQO
 dsimp only
 omega
theorem iv_bd (n : Int × Int) : -9007199254740992 ≤ (ivR B n).1 ∧ (ivR B n).2 ≤ 9007199254740992 := by
 have a1 := apu h (adX B n) (adY B)
 have a2 := apu h (adY B) (adX B n)
 unfold ivR
 dsimp only
 omega
end
structure Asked (b : acC) (ns : List (Int × Int)) (B : acC) : Prop where
 room : aTy B
 nodes : ∀ n ∈ ns, ark B n
 hist : ∀ {f : Int → Int → Int} {z : Int}, aG9 B f z ↔ aG9 b f z
 good : adx b
 gauges : B.2.1 = b.2.1
theorem aNj {b : acC} (hI : In b) {ns : List (Int × Int)} (e : (adm b ns).2 = 0) : Asked b ns (adm b ns).1 := by
 obtain ⟨h1, h2, h3, h4⟩ := agC hI e
 exact ⟨h1, by rw [h2]; exact aHw h4 h3, by rw [h2]; exact aHy h3, h4, by rw [h2]; exact amw h3⟩
def au4 (c : Cmp) : Bool := decide (c.2.2.1.length ≤ 10) && decide (c.2.2.2.1.length ≤ 10)
theorem aJN (c : Cmp) : ami c = some (au4 c) := by
 unfold ami avq au4
 rw [acO, acO, adM]
 by_cases h : c.2.2.1.length ≤ 10
 ·rw [if_pos (by simp [ile]; omega)]
  simp [ile, h]
  omega
 ·rw [if_neg (by simp [ile]; omega)]
  simp [h]
def fewP (b : acC) : Bool :=
 !((b.2.2.2.2.1.take 50).any fun c => !au4 c) && (decide (b.2.1.length ≤ 14) && (decide (b.2.2.1.length ≤ 45) && (decide (b.2.2.2.1.length ≤ 14) && (decide (b.2.2.2.2.1.length ≤ 42) && decide (b.2.2.2.2.2.length ≤ 12)))))
theorem few_ok (b : acC) : ayJ b = some (fewP b) := by
 unfold ayJ aE7
 have last : (ifb (ile (acv b.2.1) (14 : Int)) (ifb (ile (acv b.2.2.1) (45 : Int)) (ifb (ile (acv b.2.2.2.1) (14 : Int)) (ifb (ile (acv b.2.2.2.2.1) (42 : Int)) (some (ile (acv b.2.2.2.2.2) (12 : Int))) (some false)) (some false)) (some false)) (some false)) =
  some (decide (b.2.1.length ≤ 14) && (decide (b.2.2.1.length ≤ 45) && (decide (b.2.2.2.1.length ≤ 14) && (decide (b.2.2.2.2.1.length ≤ 42) && decide (b.2.2.2.2.2.length ≤ 12))))) := by
  have e : ∀ (n m : Nat), ile (n : Int) (m : Int) = decide (n ≤ m) := fun n m => by simp [ile]
  rw [acO, acO, acO, acO, acO, show (14 : Int) = ((14 : Nat) : Int) from rfl, show (45 : Int) = ((45 : Nat) : Int) from rfl, show (42 : Int) = ((42 : Nat) : Int) from rfl, show (12 : Int) = ((12 : Nat) : Int) from rfl, e, e, e, e, e]
  generalize decide (b.2.1.length ≤ 14) = x1
  generalize decide (b.2.2.1.length ≤ 45) = x2
  generalize decide (b.2.2.2.1.length ≤ 14) = x3
  generalize decide (b.2.2.2.2.1.length ≤ 42) = x4
  cases x1 <;> cases x2 <;> cases x3 <;> cases x4 <;> rfl
 rw [last]
 refine Eq.trans (agq (b.2.2.2.2.1.take 50) (fun c => !au4 c) (fun _ => some false) (some false) (some (decide (b.2.1.length ≤ 14) && (decide (b.2.2.1.length ≤ 45) && (decide (b.2.2.2.1.length ≤ 14) && (decide (b.2.2.2.2.1.length ≤ 42) && decide (b.2.2.2.2.2.length ≤ 12)))))) (fun _ => rfl) (fun i c hi hc kn => ?_) (fun kn => ?_)) ?_
 ·try dsimp only
  unfold amB
  rw [List.length_take] at hi
  have hc' : b.2.2.2.2.1[i]? = some c := by rw [List.getElem?_take] at hc; split at hc <;> simp_all
  rw [acs (show i < b.2.2.2.2.1.length by omega), acD (decide_eq_true (by omega)), acn hc', aJN, ab8, acx (by omega) (by omega), adM]
 ·try dsimp only
  unfold amB
  rw [List.length_take, adM]
  split
  ·rename_i h
   have h' : 50 < b.2.2.2.2.1.length := by rw [acO] at h; simp [ilt] at h; omega
   rw [acr (decide_eq_false (by omega))]
  ·rfl
 ·unfold fewP
  cases List.any (List.take 50 b.2.2.2.2.1) (fun c => !au4 c) <;> rfl
theorem aRG {b : acC} (h : fewP b = true) : ahD b := by
 simp only [fewP, Bool.and_eq_true, Bool.not_eq_true', decide_eq_true_eq] at h
 obtain ⟨h0, h1, h2, h3, h4, h5⟩ := h
 refine ⟨by omega, by omega, by omega, by omega, by omega, fun c hc => ?_⟩
 rw [List.take_of_length_le (by omega)] at h0
 have := List.any_eq_false.1 h0 c hc
 simp [au4] at this
 omega
end Go.Proofs.ZzM
end
noncomputable section
namespace Go.Proofs.ZzM
open Go Go.Am
section
variable {L : List Lk} {N : Nat} {x y H G : Int}
end
def aqy (w : apH) (d : Int) : Int := (ahd w d).2 - (ahd w d).1
theorem aLM (w : apH) : ∀ (l : List Int) (m : Int), m ≤ l.foldl (fun m d => max m ((ahd w d).2 - (ahd w d).1)) m ∧ ∀ d ∈ l, aqy w d ≤ l.foldl (fun m d => max m ((ahd w d).2 - (ahd w d).1)) m
 | [], m => ⟨Int.le_refl _, fun d h => by simp at h⟩
 | a :: l, m => by
   have := aLM w l (max m ((ahd w a).2 - (ahd w a).1))
   rw [List.foldl_cons]
   refine ⟨by omega, fun d hd => ?_⟩
   rcases List.mem_cons.1 hd with rfl | hd
   ·unfold aqy; omega
   ·exact this.2 d hd
theorem aLN (w : apH) : ∀ (l : List Int) (m : Int), l.foldl (fun m d => max m ((ahd w d).2 - (ahd w d).1)) m = m ∨ ∃ d ∈ l, l.foldl (fun m d => max m ((ahd w d).2 - (ahd w d).1)) m = aqy w d
 | [], m => .inl rfl
 | a :: l, m => by
   rw [List.foldl_cons]
   rcases aLN w l (max m ((ahd w a).2 - (ahd w a).1)) with h | ⟨d, hd, h⟩
   ·rw [h]
    by_cases h2 : m ≤ (ahd w a).2 - (ahd w a).1
    ·exact .inr ⟨a, by simp, by unfold aqy; omega⟩
    ·exact .inl (by omega)
   ·exact .inr ⟨d, by simp [hd], h⟩
theorem aQR (w : apH) (hr : w.1.1 ≤ w.1.2) (hw : ∀ d, w.1.1 ≤ d → d ≤ w.1.2 → 0 ≤ aqy w d) : ∃ d, w.1.1 ≤ d ∧ d ≤ w.1.2 ∧ af8 w = aqy w d := by
 unfold af8 aHa
 rcases aLN w (axS w.1 (aeq w.2.1 ++ aeq w.2.2)) (-1) with h | ⟨d, hd, h⟩
 ·have h1 := (aLM w (axS w.1 (aeq w.2.1 ++ aeq w.2.2)) (-1)).2 w.1.1 (aE2.2 (.inl rfl))
  have h2 := hw w.1.1 (Int.le_refl _) hr
  omega
 ·refine ⟨d, ?_, ?_, h⟩ <;> rcases aE2.1 hd with q | q | ⟨q1, q2, _⟩ <;> omega
end Go.Proofs.ZzM
end
noncomputable section
namespace Go.Proofs.ZzM
open Go Go.Am
section
variable {b : acC} {c : Cmp} {n : Int × Int} (hR : aTy b) (hn : ark b n) (hp : (acR b c).2 = 0)
include hR hn hp
theorem aHZ : ark (acz b (ace c)) n := by
 obtain ⟨g, hg, e, hd⟩ := hn
 exact ⟨g, hg, e, akk hd⟩
theorem aQT (d : Int) : aqy (ae9 b n c) d ≤ (ivR b n).2 - (ivR b n).1 := by
 obtain ⟨g1, g2⟩ := agt hp
 have hh : ad5 (acM (acz b (ace c))) ((ack (acz b (ace c))).length + 1) = true := by rw [ahv g1 g2]; exact hR.op
 have hnm := aHZ hR hn hp
 have key : ∀ {t : Int}, -(aNG b (ace c) (amu (acz b (ace c)) n.1 n.2) 0) ≤ t → t ≤ aNG b (ace c) 0 (amu (acz b (ace c)) n.1 n.2) → (ivR b n).1 ≤ t ∧ t ≤ (ivR b n).2 := by
  intro t h1 h2
  obtain ⟨p, q, e⟩ := aPW (afj g2) (afs g2) hh (adX _ n) (adY _) (t := t) h1 h2
  obtain ⟨hg, hc⟩ := (auI g2).1 q
  obtain ⟨f, hf, hm⟩ := aBa g2 hg
  have hH : aG9 b f (p 0) := ⟨fun g hgm => by have := hf g hgm; exact ⟨this.hi, this.lo, this.down, this.loss⟩, fun d hd => by
   have := auX hm (c := d) (aGJ g1 hd)
   have := hc d hd
   omega⟩
  have v : p (amu (acz b (ace c)) n.1 n.2) = f n.1 n.2 := by
   obtain ⟨g, hg, e, hd⟩ := hnm
   rw [aJi, ← e, hm g hg n.2 hd]
  have := iv_in hR hn hH
  omega
 have ho := aBk (afj g2) (afs g2) hh (adX (acz b (ace c)) n) (adY (acz b (ace c)))
 have ho' : -(aNG b (ace c) (amu (acz b (ace c)) n.1 n.2) 0) ≤ aNG b (ace c) 0 (amu (acz b (ace c)) n.1 n.2) := ho
 have k1 := key (Int.le_refl _) ho'
 have k2 := key ho' (Int.le_refl _)
 unfold aqy ahd ae9 atE aTf
 dsimp only
 omega
theorem aLO {d : Int} (h1 : (acR b c).1.1 ≤ d) (h2 : d ≤ (acR b c).1.2) : 0 ≤ aqy (ae9 b n c) d := by
 obtain ⟨g1, g2⟩ := agt hp
 have hh : ad5 (acM (acz b (ace c))) ((ack (acz b (ace c))).length + 1) = true := by rw [ahv g1 g2]; exact hR.op
 have hnm := aHZ hR hn hp
 have hpr := aok hp
 have o := hpr.order
 have nn := hpr.ends
 obtain ⟨f, z, hf, ht⟩ := hpr.each (max ((acR b c).1.1 - aDW b c) (d - ame b c)) (by omega) (by omega)
 obtain ⟨hpot, hdiff⟩ := aJk g1 g2 hf
 obtain ⟨a1, a2⟩ := aQ7 b (ace c)
 have e1 : ame b (ace c) = ame b c := rfl
 have e2 : aDW b (ace c) = aDW b c := rfl
 have e3 : (ace c).2.2.2.2.1 = 0 := rfl
 have e4 : aqw f z (ace c) = aqw f z c := rfl
 rw [e1, e3] at a1
 rw [e2, e3] at a2
 rw [e4] at hdiff
 have hx := apy g2
 have hy := apx g2
 have hk := adX (acz b (ace c)) n
 have hz := adY (acz b (ace c))
 have m : ∀ {s t : Int}, 0 ≤ s ∧ s < ((ack (acz b (ace c))).length + 1 : Nat) → 0 ≤ t ∧ t < ((ack (acz b (ace c))).length + 1 : Nat) → aza (acz b (ace c)) f z t - aza (acz b (ace c)) f z s ≤ aNG b (ace c) s t := fun hs ht => aso (afj g2) (afs g2) hh hs ht hpot
 have m1 := m hz hk
 have m2 := m hz hy
 have m3 := m hx hk
 have m4 := m hz hx
 have m5 := m hy hk
 have l1 := m hk hz
 have l2 := m hk hy
 have l3 := m hx hz
 have l4 := m hk hx
 have l5 := m hy hz
 unfold aqy ahd ae9 atE aTf
 dsimp only
 omega
end
end Go.Proofs.ZzM
end
noncomputable section
namespace Go.Proofs.ZzM
open Go Go.Am
theorem aDI (x y : Int) (g : Bool) : ∀ m : List (Int × Bool), alJ (k := tI) (v := .bool) x (ayA (k := tI) (v := .bool) y g m) = if x = y then some g else alJ (k := tI) (v := .bool) x m
 | [] => by
   unfold ayA alJ agX alJ
   by_cases h : x = y <;> simp [h]
 | e :: m => by
   unfold ayA
   by_cases h : y = e.1
   ·have : agX tI y e.1 = true := by simp [agX, h]
    rw [this]
    try dsimp only
    unfold alJ agX
    by_cases h2 : x = y
    ·simp [h2]
    ·have : ¬ x = e.1 := fun h3 => h2 (h3.trans h.symm)
     simp [h2, this]
   ·have : agX tI y e.1 = false := by simp [agX, h]
    rw [this]
    try dsimp only
    have ih := aDI x y g m
    unfold alJ
    by_cases h2 : x = e.1
    ·have : agX tI x e.1 = true := by simp [agX, h2]
     rw [this]
     have : ¬ x = y := fun h3 => h (h3.symm.trans h2)
     simp [this]
    ·have : agX tI x e.1 = false := by simp [agX, h2]
     rw [this]
     exact ih
def aBU (l : List Int) : List (Int × Bool) := l.foldl (fun m x => ayA (k := tI) (v := .bool) x true m) []
theorem aof (l : List Int) (x : Int) : aBU (l ++ [x]) = ayA (k := tI) (v := .bool) x true (aBU l) := by unfold aBU; rw [List.foldl_append]; rfl
theorem aH5 (x : Int) : ∀ (l : List Int) (m : List (Int × Bool)), alJ (k := tI) (v := .bool) x (l.foldl (fun m x => ayA (k := tI) (v := .bool) x true m) m) = if l.contains x then some true else alJ (k := tI) (v := .bool) x m
 | [], m => by simp
 | y :: l, m => by
   rw [List.foldl_cons, aH5 x l, aDI]
   by_cases h : x = y
   ·subst h; simp
   ·simp [h]
theorem aH3 (l : List Int) (x : Int) : alJ (k := tI) (v := .bool) x (aBU l) = if l.contains x then some true else none := aH5 x l []
def asz (b : acC) (s : Int × Int) : List Int := if s.1 = 3 then (match b.2.2.2.2.1[s.2.toNat]? with | some c => c.2.2.1 ++ c.2.2.2.1 | none => []) else (match b.2.1[s.2.toNat]? with | some g => [g.1] | none => [])
def aBo (b : acC) (ss looks : List (Int × Int)) : List Int := ss.flatMap (asz b) ++ looks.map fun n => n.1
def auY (ss : List (Int × Int)) : List Int := (ss.filter fun s => s.1 == 3).map fun s => s.2
def ase (w : List Int) : Nat → List Cmp → List Cmp
 | _, [] => []
 | i, c :: t => if w.contains (i : Int) then c :: ase w (i + 1) t else ase w (i + 1) t
def cutP (b : acC) (ss looks : List (Int × Int)) : acC :=
 (b.1, b.2.1.filter fun g => (aBo b ss looks).contains g.1, b.2.2.1.filter fun u => (aBo b ss looks).contains u.1, b.2.2.2.1.filter fun l => (aBo b ss looks).contains l.1, ase (auY ss) 0 b.2.2.2.2.1, looks)
def aTw (b : acC) (s : Int × Int) : Prop := ((s.1 = 1 ∨ s.1 = 2) ∧ 0 ≤ s.2 ∧ s.2 < b.2.1.length) ∨ (s.1 = 3 ∧ 0 ≤ s.2 ∧ s.2 < b.2.2.2.2.1.length)
theorem aD5 (w : List Int) (c : Cmp) : ∀ (l : List Cmp) (i : Nat), ase w i (l ++ [c]) = ase w i l ++ if w.contains ((i + l.length : Nat) : Int) then [c] else []
 | [], i => by simp only [List.nil_append, ase, List.length_nil, Nat.add_zero]
 | a :: l, i => by
   have e : ((i + 1 + l.length : Nat) : Int) = ((i + (l.length + 1) : Nat) : Int) := by congr 1; omega
   simp only [List.cons_append, ase, aD5 w c l (i + 1), List.length_cons, e]
   split <;> rfl
theorem aAT (w : List Int) : ∀ (l : List Cmp) (i : Nat), (ase w i l).length ≤ l.length
 | [], i => by simp [ase]
 | a :: l, i => by
   have := aAT w l (i + 1)
   simp only [ase]
   split <;> simp only [List.length_cons] <;> omega
theorem ape {ρ : Type} (x : Int) (l : List Int) (f : Bool → Option ρ) (g : Option ρ) : aG8 (k := tI) (v := .bool) x (aBU l) f g = if l.contains x then f true else g := by
 unfold aG8
 rw [aH3]
 by_cases h : l.contains x = true
 ·rw [if_pos h, if_pos h]
 ·rw [if_neg h, if_neg h]
section
variable {ρ : Type}
theorem cut_L3 (l : List (Int × Int)) (hl : l.length ≤ 1000) (ids : List Int) (K : List (Int × Int) → Option ρ) : acp (fun (v47 : (Val (.pair tI (.slice aca)))) kk50 => alT l (acv l) (aBU ids) v47.1 v47.2 (fun u48 u49 => kk50 (u48, u49)) K) ((0 : Int), []) = K (l.filter fun u => ids.contains u.1) := by
 refine adh l (fun i => (l.take i).filter fun u => ids.contains u.1) _ rfl (fun i a hi ha kn => ?_) (fun kn => ?_)
 ·try dsimp only
  unfold alT
  have h1 := aka (fun u : Int × Int => ids.contains u.1) l i
  rw [acs hi, acn ha, ape, take_succ ha, List.filter_append]
  by_cases h : ids.contains a.1 = true
  ·rw [if_pos h, aeG, adF (acu (by simp only [List.length_singleton]; omega)), aco hi (by omega)]
   simp only [List.filter_cons, List.filter_nil, h, if_pos]
  ·rw [if_neg h, aco hi (by omega)]
   simp only [List.filter_cons, List.filter_nil, h, if_neg, Bool.false_eq_true, not_false_eq_true, List.append_nil]
 ·try dsimp only
  unfold alT
  rw [acL, List.take_length]
theorem cut_L4 (l : List aBO) (hl : l.length ≤ 1000) (ids : List Int) (K : List aBO → Option ρ) : acp (fun (v47 : (Val (.pair tI (.slice adH)))) kk50 => alS l (acv l) (aBU ids) v47.1 v47.2 (fun u48 u49 => kk50 (u48, u49)) K) ((0 : Int), []) = K (l.filter fun u => ids.contains u.1) := by
 refine adh l (fun i => (l.take i).filter fun u => ids.contains u.1) _ rfl (fun i a hi ha kn => ?_) (fun kn => ?_)
 ·try dsimp only
  unfold alS
  have h1 := aka (fun u : aBO => ids.contains u.1) l i
  rw [acs hi, acn ha, ape, take_succ ha, List.filter_append]
  by_cases h : ids.contains a.1 = true
  ·rw [if_pos h, aeG, adF (acu (by simp only [List.length_singleton]; omega)), aco hi (by omega)]
   simp only [List.filter_cons, List.filter_nil, h, if_pos]
  ·rw [if_neg h, aco hi (by omega)]
   simp only [List.filter_cons, List.filter_nil, h, if_neg, Bool.false_eq_true, not_false_eq_true, List.append_nil]
 ·try dsimp only
  unfold alS
  rw [acL, List.take_length]
theorem cut_L5 (l : List Cmp) (hl : l.length ≤ 1000) (hp : ∀ c ∈ l, c.2.2.1.length ≤ 1000 ∧ c.2.2.2.1.length ≤ 1000) (w : List Int) (K : List Cmp → Option ρ) : acp (fun (v47 : (Val (.pair tI (.slice acj)))) kk50 => alR l (acv l) (aBU w) v47.1 v47.2 (fun u48 u49 => kk50 (u48, u49)) K) ((0 : Int), []) = K (ase w 0 l) := by
 refine adh l (fun i => ase w 0 (l.take i)) _ rfl (fun i a hi ha kn => ?_) (fun kn => ?_)
 ·try dsimp only
  unfold alR
  have h1 := aAT w (l.take i) 0
  have h2 := hp a (List.mem_of_getElem? ha)
  have e : (l.take i).length = i := by rw [List.length_take]; omega
  rw [acs hi, acn ha, ape, take_succ ha, aD5, e, Nat.zero_add]
  by_cases h : w.contains (i : Int) = true
  ·rw [if_pos h, if_pos h, aeG, adF (acu (by omega)), adF (acu (by omega)), adF (acu (by simp only [List.length_singleton]; omega)), aco hi (by omega)]
  ·rw [if_neg h, if_neg h, aco hi (by omega)]
   simp only [List.append_nil]
 ·try dsimp only
  unfold alR
  rw [acL, List.take_length]
theorem cut_L2 (looks : List (Int × Int)) (hl : looks.length ≤ 1000) (ids : List Int) (K : List (Int × Bool) → Option ρ) : acp (fun (v51 : (Val (.pair tI (.map tI .bool)))) kk54 => alU looks (acv looks) v51.1 v51.2 (fun u52 u53 => kk54 (u52, u53)) K) ((0 : Int), aBU ids) = K (aBU (ids ++ looks.map fun n => n.1)) := by
 refine adh looks (fun i => aBU (ids ++ (looks.take i).map fun n => n.1)) _ (by simp) (fun i a hi ha kn => ?_) (fun kn => ?_)
 ·try dsimp only
  unfold alU
  rw [acs hi, acn ha, aco hi (by omega), take_succ ha, List.map_append, ← List.append_assoc, List.map_singleton, aof]
 ·try dsimp only
  unfold alU
  rw [acL, List.take_length]
theorem cut_L1 (xs : List Int) (hl : xs.length ≤ 10000) (ids : List Int) (K : List (Int × Bool) → Option ρ) : acp (fun (v13 : (Val (.pair tI (.map tI .bool)))) kk16 => alV xs (acv xs) v13.1 v13.2 (fun u14 u15 => kk16 (u14, u15)) K) ((0 : Int), aBU ids) = K (aBU (ids ++ xs)) := by
 refine adh xs (fun i => aBU (ids ++ xs.take i)) _ (by simp) (fun i a hi ha kn => ?_) (fun kn => ?_)
 ·try dsimp only
  unfold alV
  rw [acs hi, acn ha, aco hi (by omega), take_succ ha, ← List.append_assoc, aof]
 ·try dsimp only
  unfold alV
  rw [acL, List.take_length]
end
theorem aib {ρ α : Type} {l : List α} {i : Int} (h0 : 0 ≤ i) {a : α} (h : l[i.toNat]? = some a) (f : α → Option ρ) : adL l i f = f a := by
 obtain ⟨n, rfl⟩ := Int.eq_ofNat_of_zero_le h0
 exact acn (by simpa using h) f
theorem cut_ok {b : acC} (hs : ahD b) {ss looks : List (Int × Int)} (h1 : ss.length ≤ 1000) (h2 : looks.length ≤ 1000) (hv : ∀ s ∈ ss, aTw b s) : aBd b ss looks = some (cutP b ss looks) := by
 have g1 := hs.gauges; have g2 := hs.uses; have g3 := hs.loans; have g4 := hs.compares; have g5 := hs.looks
 unfold aBd aPe atn
 refine adh ss (fun i => (aBU ((ss.take i).flatMap (asz b)), aBU (auY (ss.take i)))) _ rfl (fun i s hi ha kn => ?_) (fun kn => ?_)
 ·try dsimp only
  unfold apU
  have hok := hv s (List.mem_of_getElem? ha)
  rw [acs hi, acn ha, take_succ ha, List.flatMap_append]
  have e3 : auY (ss.take i ++ [s]) = auY (ss.take i) ++ if s.1 = 3 then [s.2] else [] := by
   unfold auY
   rw [List.filter_append, List.map_append]
   congr 1
   by_cases h : s.1 = 3 <;> simp [h]
  rw [e3]
  rcases hok with ⟨hk, h0, h3⟩ | ⟨hk, h0, h3⟩
  ·have hg : b.2.1[s.2.toNat]? = some b.2.1[s.2.toNat] := List.getElem?_eq_getElem (by omega)
   generalize b.2.1[s.2.toNat] = g at hg
   have e1 : asz b s = [g.1] := by
    unfold asz
    rw [if_neg (by omega), hg]
   have e2 : List.flatMap (asz b) [s] = [g.1] := by simp [e1]
   rw [acr (decide_eq_false (by omega)), if_neg (by omega), List.append_nil, e2, aof]
   rcases hk with hk | hk
   ·rw [acD (decide_eq_true hk), aib h0 hg, aco hi (by omega)]
   ·rw [acr (decide_eq_false (by omega)), acD (decide_eq_true hk), aib h0 hg, aco hi (by omega)]
  ·have hc : b.2.2.2.2.1[s.2.toNat]? = some b.2.2.2.2.1[s.2.toNat] := List.getElem?_eq_getElem (by omega)
   have hp := hs.piles b.2.2.2.2.1[s.2.toNat] (List.getElem_mem _)
   generalize b.2.2.2.2.1[s.2.toNat] = c at hc hp
   have e1 : asz b s = c.2.2.1 ++ c.2.2.2.1 := by
    unfold asz
    rw [if_pos hk, hc]
   have e2 : List.flatMap (asz b) [s] = c.2.2.1 ++ c.2.2.2.1 := by simp [e1]
   rw [acr (decide_eq_false (by omega)), acr (decide_eq_false (by omega)), acr (decide_eq_false (by omega)), adF (decide_eq_true hk), if_pos hk, e2, aib h0 hc, aib h0 hc, ajI (by simp) (by simp; omega), ab8]
   rw [show ([c.2.2.1, c.2.2.2.1] : List (List Int)).flatten = c.2.2.1 ++ c.2.2.2.1 by simp]
   refine (cut_L1 (c.2.2.1 ++ c.2.2.2.1) (by simp; omega) _ _).trans ?_
   rw [aof, aco hi (by omega)]
 ·try dsimp only
  unfold apU
  rw [acL]
  dsimp only
  rw [List.take_length]
  refine (cut_L2 looks h2 _ _).trans ?_
  rw [show (ss.flatMap (asz b) ++ looks.map fun n => n.1) = aBo b ss looks from rfl]
  unfold ap2
  try dsimp only
  rw [adF (acu (by omega)), ab8]
  have ek : (List.filter (fun g => (alJ (k := tI) (v := .bool) g.1 (aBU (aBo b ss looks))).getD false) b.2.1) = b.2.1.filter fun g => (aBo b ss looks).contains g.1 := by
   refine List.filter_congr fun g _ => ?_
   rw [aH3]
   cases (aBo b ss looks).contains g.1 <;> rfl
  rw [ek]
  unfold aiC
  dsimp only
  refine (cut_L3 b.2.2.1 g2 _ _).trans ?_
  refine (cut_L4 b.2.2.2.1 g3 _ _).trans ?_
  refine (cut_L5 b.2.2.2.2.1 g4 hs.piles _ _).trans ?_
  rfl
end Go.Proofs.ZzM
end
noncomputable section
namespace Go.Proofs.ZzM
open Go Go.Am
instance dec1 : DecidableEq ((Int × Int) × Int) := fun a b => instDecidableEqProd a b
instance dec2 : DecidableEq ((Int × Int) × ((Int × Int) × Int)) := fun a b => instDecidableEqProd a b
instance dec3 : DecidableEq (Int × (Int × Int) × ((Int × Int) × Int)) := fun a b => instDecidableEqProd a b
instance dec4 : DecidableEq (Int × Int × (Int × Int) × ((Int × Int) × Int)) := fun a b => instDecidableEqProd a b
instance decG : DecidableEq acY := fun a b => instDecidableEqProd a b
instance decL : DecidableEq aBO := fun a b => instDecidableEqProd a b
instance decI4 : DecidableEq (Int × (Int × (Int × Int))) := fun a b => instDecidableEqProd a b
instance decI5 : DecidableEq (List Int × Int × (Int × (Int × Int))) := fun a b => instDecidableEqProd a b
instance decI6 : DecidableEq (List Int × List Int × Int × (Int × (Int × Int))) := fun a b => instDecidableEqProd a b
instance decI7 : DecidableEq (Int × List Int × List Int × Int × (Int × (Int × Int))) := fun a b => instDecidableEqProd a b
instance decC : DecidableEq Cmp := fun a b => instDecidableEqProd a b
def aE4 {α : Type} [DecidableEq α] (x : α) (l : List α) : Bool := l.any fun a => decide (x = a)
theorem aMk {α : Type} [DecidableEq α] {x : α} {l : List α} : aE4 x l = true ↔ x ∈ l := by
 unfold aE4
 rw [List.any_eq_true]
 exact ⟨fun ⟨a, h1, h2⟩ => by rw [of_decide_eq_true h2]; exact h1, fun h => ⟨x, h, decide_eq_true rfl⟩⟩
theorem aKx {α : Type} [DecidableEq α] (l : List α) (x : α) : ige (match l.findIdx? (fun a => decide (x = a)) with | some j => (j : Int) | none => -1) 0 = aE4 x l := by
 cases h : l.findIdx? (fun a => decide (x = a)) with
 | none =>
   have : aE4 x l = false := by
    cases hm : aE4 x l with
    | false => rfl
    | true => have := List.findIdx?_eq_none_iff.1 h x (aMk.1 hm); simp at this
   rw [this]
   rfl
 | some j =>
   obtain ⟨hj, hp, _⟩ := List.findIdx?_eq_some_iff_getElem.1 h
   have : x ∈ l := by rw [of_decide_eq_true hp]; exact List.getElem_mem _
   rw [aMk.2 this]
   exact decide_eq_true (by dsimp only; omega)
theorem aO9 {ρ : Type} (o : Option Nat) (f : Int → Option ρ) : (match o with | some j => f (j : Int) | none => f (-1)) = f (match o with | some j => (j : Int) | none => -1) := by cases o <;> rfl
theorem aJX {l : List (Int × Int)} (hl : l.length ≤ 1000000) (x : Int × Int) : adk l x = some (aE4 x l) := by
 unfold adk aen ae5 ae2
 have e : acp (fun (v5 : Int) kk7 => adg l (acv l) x.1 x.2 v5 (fun u6 => kk7 u6) (fun z3 => some z3) (fun _ => some (-1 : Int))) (0 : Int) = some (match l.findIdx? (fun a => decide (x = a)) with | some j => (j : Int) | none => -1) := by
  refine (afS l (fun a => decide (x = a)) (fun z => some z) (some (-1)) (fun i a hi ha kn => ?_) (fun kn => ?_)).trans (aO9 _ some)
  ·try dsimp only
   unfold adg
   have e : ((aeI x.1 a.1) && ((aeI x.2 a.2) && true)) = decide (x = a) := by
    rw [Bool.eq_iff_iff]; simp [aeI, Prod.ext_iff]
   rw [acs hi, acn ha, aco hi (by omega), adM, e]
  ·try dsimp only
   unfold adg
   rw [acL]
 rw [e, ab8]
 exact congrArg some (aKx l x)
theorem aG5 {l : List aBO} (hl : l.length ≤ 1000000) (x : aBO) : ac6 l x = some (aE4 x l) := by
 unfold ac6 ad6 aeC aeA
 have e : acp (fun (v5 : Int) kk7 => ac5 l (acv l) x.1 x.2.1.1 x.2.1.2 x.2.2 v5 (fun u6 => kk7 u6) (fun z3 => some z3) (fun _ => some (-1 : Int))) (0 : Int) = some (match l.findIdx? (fun a => decide (x = a)) with | some j => (j : Int) | none => -1) := by
  refine (afS l (fun a => decide (x = a)) (fun z => some z) (some (-1)) (fun i a hi ha kn => ?_) (fun kn => ?_)).trans (aO9 _ some)
  ·try dsimp only
   unfold ac5
   have e : ((aeI x.1 a.1) && ((aeI x.2.1.1 a.2.1.1) && ((aeI x.2.1.2 a.2.1.2) && ((aeI x.2.2 a.2.2) && true)))) = decide (x = a) := by
    rw [Bool.eq_iff_iff]; simp [aeI, Prod.ext_iff, and_assoc]
   rw [acs hi, acn ha, aco hi (by omega), adM, e]
  ·try dsimp only
   unfold ac5
   rw [acL]
 rw [e, ab8]
 exact congrArg some (aKx l x)
theorem aJY {l : List acY} (hl : l.length ≤ 1000000) (x : acY) : adq l x = some (aE4 x l) := by
 unfold adq adQ ael aek
 have e : acp (fun (v5 : Int) kk7 => ac1 l (acv l) x.1 x.2.1 x.2.2.1 x.2.2.2.1.1 x.2.2.2.1.2 x.2.2.2.2.1.1 x.2.2.2.2.1.2 x.2.2.2.2.2 v5 (fun u6 => kk7 u6) (fun z3 => some z3) (fun _ => some (-1 : Int))) (0 : Int) = some (match l.findIdx? (fun a => decide (x = a)) with | some j => (j : Int) | none => -1) := by
  refine (afS l (fun a => decide (x = a)) (fun z => some z) (some (-1)) (fun i a hi ha kn => ?_) (fun kn => ?_)).trans (aO9 _ some)
  ·try dsimp only
   unfold ac1
   have e : ((aeI x.1 a.1) && ((aeI x.2.1 a.2.1) && ((aeI x.2.2.1 a.2.2.1) && ((aeI x.2.2.2.1.1 a.2.2.2.1.1) && ((aeI x.2.2.2.1.2 a.2.2.2.1.2) && ((aeI x.2.2.2.2.1.1 a.2.2.2.2.1.1) && ((aeI x.2.2.2.2.1.2 a.2.2.2.2.1.2) && ((aeI x.2.2.2.2.2 a.2.2.2.2.2) && true)))))))) = decide (x = a) := by
    rw [Bool.eq_iff_iff]; simp [aeI, Prod.ext_iff, and_assoc]
   rw [acs hi, acn ha, aco hi (by omega), adM, e]
  ·try dsimp only
   unfold ac1
   rw [acL]
 rw [e, ab8]
 exact congrArg some (aKx l x)
def aPD (b : acC) : List Int := b.2.1.map fun g => g.1
def ahP {α : Type} [DecidableEq α] (x y : List α) (w : α → Bool) : Bool := x.all fun a => !w a || aE4 a y
def aRf (s b : acC) : Bool :=
 ahP s.2.2.2.2.1 b.2.2.2.2.1 (fun _ => true) && (decide (s.1 = b.1) && (ahP s.2.1 b.2.1 (fun _ => true) && (ahP s.2.2.1 b.2.2.1 (fun u => (aPD s).contains u.1) && (ahP b.2.2.1 s.2.2.1 (fun u => (aPD s).contains u.1) &&
  (ahP s.2.2.2.1 b.2.2.2.1 (fun u => (aPD s).contains u.1) && ahP b.2.2.2.1 s.2.2.2.1 (fun u => (aPD s).contains u.1))))))
section
variable {ρ : Type}
theorem awE {α : Type} [DecidableEq α] (x y : List α) (w : α → Bool) (X Y KF : Option ρ) {f : Int → (Int → Option ρ) → Option ρ}
 (h : ∀ (i : Nat) (a : α), i < x.length → x[i]? = some a → ∀ kn, f i kn = if !(!w a || aE4 a y) then (ifb (!(ige (i : Int) 0)) X KF) else kn ((i : Int) + 1))
 (hn : ∀ kn, f x.length kn = Y) : acp f 0 = if ahP x y w then Y else KF := by
 refine (agq x (fun a => !(!w a || aE4 a y)) (fun z => ifb (!(ige z 0)) X KF) KF Y (fun j => by rw [show ige (j : Int) 0 = true from decide_eq_true (by omega)]; rfl) h hn).trans ?_
 unfold ahP
 rw [List.all_eq_not_any_not]
 cases x.any fun a => !(!w a || aE4 a y) <;> rfl
theorem aSW : @amH ρ = @ah4 ρ := rfl
theorem aD1 {x y : List Int} (hl : x.length = y.length) (hx : x.length ≤ 1000000) (k0 : Bool → Option ρ) (K : Option ρ) :
 acp (fun (v30 : Int) kk32 => ah4 x y (acv x) v30 (fun u31 => kk32 u31) k0 (fun _ => K)) (0 : Int) = if x = y then K else k0 false := by
 refine (ama x (fun i a => if y[i]? = some a then none else some false) k0 K (fun i a hi ha kn => ?_) (fun kn => ?_)).trans ?_
 ·try dsimp only
  unfold ah4
  have hm : y[i]? = some y[i] := List.getElem?_eq_getElem (by omega)
  rw [acs hi, acn ha, acn hm, aco hi (by omega), hm, adM]
  by_cases h : a = y[i]
  ·simp [ine, h]
  ·have h' : ¬ y[i] = a := fun e => h e.symm
   simp [ine, h, h']
 ·try dsimp only
  unfold ah4
  rw [acL]
 ·cases h : aeN (fun i a => if y[i]? = some a then none else some false) 0 x with
  | none => rw [if_pos (aOD hl h)]
  | some b =>
    obtain ⟨h1, h2⟩ := aOC h
    rw [if_neg h2, h1]
theorem aOE {l : List Cmp} (hl : l.length ≤ 1000) (c : Cmp) (hA : c.2.2.1.length ≤ 1000) (hB : c.2.2.2.1.length ≤ 1000) (k0 : Int → Option ρ) (K1 KF : Option ρ) (hk : ∀ j : Nat, k0 (j : Int) = K1) :
 acp (fun (v41 : Int) kk43 => ajZ l (acv l) c.1 c.2.1 c.2.2.1 c.2.2.2.1 c.2.2.2.2.1 c.2.2.2.2.2.1 c.2.2.2.2.2.2.1 c.2.2.2.2.2.2.2 v41 (fun u42 => kk43 u42) k0 (fun _ => KF)) (0 : Int) = if aE4 c l then K1 else KF := by
 refine (agq l (fun d => decide (c = d)) k0 K1 KF hk (fun i d hi hd kn => ?_) (fun kn => ?_)).trans rfl
 ·try dsimp only
  unfold ajZ
  have hsplit : (c = d) ↔ (c.1 = d.1 ∧ c.2.1 = d.2.1 ∧ c.2.2.2.2.1 = d.2.2.2.2.1 ∧ c.2.2.2.2.2.1 = d.2.2.2.2.2.1 ∧ (c.2.2.2.2.2.2.1 = d.2.2.2.2.2.2.1 ∧ c.2.2.2.2.2.2.2 = d.2.2.2.2.2.2.2) ∧ c.2.2.1 = d.2.2.1 ∧ c.2.2.2.1 = d.2.2.2.1) := by
   simp only [Prod.ext_iff]
   constructor
   ·rintro ⟨a1, a2, a3, a4, a5, a6, a7, a8⟩; exact ⟨a1, a2, a5, a6, ⟨a7, a8⟩, a3, a4⟩
   ·rintro ⟨a1, a2, a5, a6, ⟨a7, a8⟩, a3, a4⟩; exact ⟨a1, a2, a3, a4, a5, a6, a7, a8⟩
  have hno : ∀ {P : Prop}, ¬ P → (c = d → P) → (if decide (c = d) = true then k0 (i : Int) else kn ((i : Int) + 1)) = kn ((i : Int) + 1) := fun h1 h2 => by
   rw [if_neg]
   intro h
   exact h1 (h2 (of_decide_eq_true h))
  rw [acs hi, acn hd, aco hi (by omega)]
  by_cases a1 : c.1 = d.1
  case neg => rw [hno a1 (fun e => (hsplit.1 e).1), acr (beq_eq_false_iff_ne.2 a1)]
  rw [acD (beq_iff_eq.2 a1)]
  by_cases a2 : c.2.1 = d.2.1
  case neg => rw [hno a2 (fun e => (hsplit.1 e).2.1), acr (beq_eq_false_iff_ne.2 a2)]
  rw [acD (beq_iff_eq.2 a2)]
  by_cases a3 : c.2.2.2.2.1 = d.2.2.2.2.1
  case neg => rw [hno a3 (fun e => (hsplit.1 e).2.2.1), acr (beq_eq_false_iff_ne.2 a3)]
  rw [acD (beq_iff_eq.2 a3)]
  by_cases a4 : c.2.2.2.2.2.1 = d.2.2.2.2.2.1
  case neg => rw [hno a4 (fun e => (hsplit.1 e).2.2.2.1), acr (beq_eq_false_iff_ne.2 a4)]
  rw [acD (beq_iff_eq.2 a4)]
  by_cases a5 : c.2.2.2.2.2.2.1 = d.2.2.2.2.2.2.1 ∧ c.2.2.2.2.2.2.2 = d.2.2.2.2.2.2.2
  case neg => rw [hno a5 (fun e => (hsplit.1 e).2.2.2.2.1), acr (by simp only [aeI, Bool.and_true, Bool.and_eq_false_iff, decide_eq_false_iff_not]; exact Decidable.not_and_iff_or_not.1 a5)]
  rw [acD (by simp [aeI, a5.1, a5.2]), acO, acO, acO, acO]
  have rest : ∀ X Y : Option ρ, (c.2.2.1 = d.2.2.1) → (if decide (c = d) = true then k0 (i : Int) else kn ((i : Int) + 1)) = (if c.2.2.2.1 = d.2.2.2.1 then k0 (i : Int) else kn ((i : Int) + 1)) := by
   intro _ _ h
   by_cases g : c.2.2.2.1 = d.2.2.2.1
   ·rw [if_pos (decide_eq_true (hsplit.2 ⟨a1, a2, a3, a4, a5, h, g⟩)), if_pos g]
   ·rw [if_neg g]; exact hno g (fun e => (hsplit.1 e).2.2.2.2.2.2)
  by_cases l1 : c.2.2.1.length = d.2.2.1.length
  case neg =>
   rw [hno l1 (fun e => by rw [e]), acD (bne_iff_ne.2 (by omega))]
  rw [acr (by rw [l1]; exact bne_self_eq_false' _)]
  have e3 := aD1 (ρ := ρ) l1 (by omega)
  rw [acO] at e3
  rw [e3]
  by_cases g1 : c.2.2.1 = d.2.2.1
  case neg => rw [if_neg g1, acU, hno g1 (fun e => (hsplit.1 e).2.2.2.2.2.1)]
  rw [if_pos g1, rest none none g1]
  by_cases l2 : c.2.2.2.1.length = d.2.2.2.1.length
  case neg =>
   rw [acD (bne_iff_ne.2 (by omega)), if_neg (fun e => l2 (by rw [e]))]
  rw [acr (by rw [l2]; exact bne_self_eq_false' _), aSW]
  have e4 := aD1 (ρ := ρ) l2 (by omega)
  rw [acO] at e4
  rw [e4, acU]
 ·try dsimp only
  unfold ajZ
  rw [acL]
theorem aSV : @ah3 ρ = @agT ρ := rfl
theorem aSU : @ade ρ = @adI ρ := rfl
theorem aTD {x y : List acY} (hx : x.length ≤ 1000) (hy : y.length ≤ 1000) (X Y KF : Option ρ) : acp (fun (v225 : Int) kk227 => ajY x (acv x) y v225 (fun u226 => kk227 u226) (fun z => ifb (!(ige z 0)) X KF) (fun _ => Y)) (0 : Int) = if ahP x y (fun _ => true) then Y else KF := by
 refine awE x y (fun _ => true) X Y KF (fun i a hi ha kn => ?_) (fun kn => ?_)
 ·try dsimp only
  unfold ajY
  rw [acs hi, acn ha, aJY (by omega), ab8, aco hi (by omega), adM]
  simp
 ·try dsimp only
  unfold ajY
  rw [acL]
theorem aQH {x y : List (Int × Int)} (hx : x.length ≤ 1000) (hy : y.length ≤ 1000) (ids : List Int) (X Y KF : Option ρ) : acp (fun (v225 : Int) kk227 => agT x (acv x) (aBU ids) y v225 (fun u226 => kk227 u226) (fun z => ifb (!(ige z 0)) X KF) (fun _ => Y)) (0 : Int) = if ahP x y (fun u => ids.contains u.1) then Y else KF := by
 refine awE x y (fun u => ids.contains u.1) X Y KF (fun i a hi ha kn => ?_) (fun kn => ?_)
 ·try dsimp only
  unfold agT
  rw [acs hi, acn ha, ape, aJX (by omega), ab8]
  by_cases h : ids.contains a.1 = true
  ·rw [if_pos h, aeG, aco hi (by omega), adM, h]
   simp
  ·rw [if_neg h, aco hi (by omega)]
   have h' := Bool.not_eq_true _ ▸ h
   rw [h']
   simp
 ·try dsimp only
  unfold agT
  rw [acL]
theorem aQG {x y : List aBO} (hx : x.length ≤ 1000) (hy : y.length ≤ 1000) (ids : List Int) (X Y KF : Option ρ) : acp (fun (v225 : Int) kk227 => adI x (acv x) (aBU ids) y v225 (fun u226 => kk227 u226) (fun z => ifb (!(ige z 0)) X KF) (fun _ => Y)) (0 : Int) = if ahP x y (fun u => ids.contains u.1) then Y else KF := by
 refine awE x y (fun u => ids.contains u.1) X Y KF (fun i a hi ha kn => ?_) (fun kn => ?_)
 ·try dsimp only
  unfold adI
  rw [acs hi, acn ha, ape, aG5 (by omega), ab8]
  by_cases h : ids.contains a.1 = true
  ·rw [if_pos h, aeG, aco hi (by omega), adM, h]
   simp
  ·rw [if_neg h, aco hi (by omega)]
   have h' := Bool.not_eq_true _ ▸ h
   rw [h']
   simp
 ·try dsimp only
  unfold adI
  rw [acL]
theorem aTC {x y : List aBO} (hx : x.length ≤ 1000) (hy : y.length ≤ 1000) (ids : List Int) (k : Bool → Option ρ) : acp (fun (v225 : Int) kk227 => adI x (acv x) (aBU ids) y v225 (fun u226 => kk227 u226) (fun z => k (!(ige z 0))) (fun _ => k true)) (0 : Int) = k (ahP x y (fun u => ids.contains u.1)) := by
 have h := aQG (ρ := ρ) hx hy ids (k true) (k true) (k false)
 have e : (fun z : Int => ifb (!(ige z 0)) (k true) (k false)) = fun z => k (!(ige z 0)) := by
  funext z
  cases (!(ige z 0)) <;> rfl
 rw [e] at h
 rw [h]
 cases ahP x y (fun u => ids.contains u.1) <;> rfl
theorem aTE {x y : List Cmp} (hx : x.length ≤ 1000) (hp : ∀ c ∈ x, c.2.2.1.length ≤ 1000 ∧ c.2.2.2.1.length ≤ 1000) (hy : y.length ≤ 1000) (K : Option Bool) : acp (fun (v228 : Int) kk230 => aj0 x (acv x) y v228 (fun u229 => kk230 u229) (fun z44 => some z44) (fun _ => K)) (0 : Int) = if (x.all fun c => aE4 c y) = true then K else some false := by
 refine (agq x (fun c => !aE4 c y) (fun _ => some false) (some false) K (fun _ => rfl) (fun i c hi hc kn => ?_) (fun kn => ?_)).trans ?_
 rotate_left
 ·try dsimp only
  unfold aj0
  rw [acL]
 ·rw [List.all_eq_not_any_not]
  cases x.any fun c => !aE4 c y <;> rfl
 ·try dsimp only
  unfold aj0
  have h := hp c (List.mem_of_getElem? hc)
  rw [acs hi, acn hc]
  refine (aOE hy c h.1 h.2 _ (kn ((i : Int) + 1)) (some false) (fun j => by rw [show ige (j : Int) 0 = true from decide_eq_true (by omega), aco hi (by omega)]; rfl)).trans ?_
  cases aE4 c y <;> rfl
end
theorem part_ok {s b : acC} (hs : ahD s) (hb : ahD b) : auN s b = some (aRf s b) := by
 have g1 := hs.gauges; have g2 := hs.uses; have g3 := hs.loans; have g4 := hs.compares
 have b1 := hb.gauges; have b2 := hb.uses; have b3 := hb.loans; have b4 := hb.compares
 unfold auN aFk aRf
 rw [aSV, aSU]
 refine (adh s.2.1 (fun i => aBU (aPD (s.1, s.2.1.take i, s.2.2))) (some _) rfl (fun i g hi hg kn => ?_) (fun kn => ?_))
 ·try dsimp only
  unfold amI
  rw [acs hi, acn hg, aco hi (by omega)]
  unfold aPD
  dsimp only
  rw [take_succ hg, List.map_append, List.map_singleton, aof]
 ·try dsimp only
  unfold amI
  rw [acL, List.take_length]
  try dsimp only
  rw [show aPD (s.1, s.2.1, s.2.2) = aPD s from rfl]
  refine (aTE g4 hs.piles b4 _).trans ?_
  rw [show (ahP s.2.2.2.2.1 b.2.2.2.2.1 fun _ => true) = s.2.2.2.2.1.all fun c => aE4 c b.2.2.2.2.1 from rfl]
  by_cases hc : (s.2.2.2.2.1.all fun c => aE4 c b.2.2.2.2.1) = true
  case neg => rw [if_neg hc, Bool.eq_false_iff.2 hc]; rfl
  rw [if_pos hc, hc, Bool.true_and]
  by_cases hf : s.1 = b.1
  case neg =>
   have ef : (aeI s.1.1 b.1.1 && (aeI s.1.2 b.1.2 && true)) = false := by
    rw [Prod.ext_iff] at hf
    simp [aeI]
    omega
   rw [ef, acU, decide_eq_false hf]
   rfl
  have ef : (aeI s.1.1 b.1.1 && (aeI s.1.2 b.1.2 && true)) = true := by simp [aeI, hf]
  rw [ef, aeG, decide_eq_true hf, Bool.true_and]
  refine (aTD g1 b1 _ _ _).trans ?_
  cases ahP s.2.1 b.2.1 fun _ => true
  case false => rfl
  rw [if_pos rfl, Bool.true_and]
  refine (aQH g2 b2 _ _ _ _).trans ?_
  cases ahP s.2.2.1 b.2.2.1 fun u => (aPD s).contains u.1
  case false => rfl
  rw [if_pos rfl, Bool.true_and]
  refine (aQH b2 g2 _ _ _ _).trans ?_
  cases ahP b.2.2.1 s.2.2.1 fun u => (aPD s).contains u.1
  case false => rfl
  rw [if_pos rfl, Bool.true_and]
  refine (aQG g3 b3 _ _ _ _).trans ?_
  cases ahP s.2.2.2.1 b.2.2.2.1 fun u => (aPD s).contains u.1
  case false => rfl
  rw [if_pos rfl, Bool.true_and]
  exact aTC b3 g3 _ some
end Go.Proofs.ZzM
end
noncomputable section
namespace Go.Proofs.ZzM
open Go Go.Am
def an4 (x : List Int) (y : List Int) (l : Lk) : List Int := if gv x l.2.1 = afx then y else y.set l.1.toNat (min (gv y l.1) (l.2.2 + gv x l.2.1))
def aJw (L : List Lk) (N : Nat) (x : List Int) : List Int := L.foldl (an4 x) (List.replicate N afx)
def exL (L : List Lk) (N : Nat) (to : Int) : Nat → List Int
 | 0 => (List.replicate N afx).set to.toNat 0
 | k + 1 => aJw L N (exL L N to k)
def aja (L : List Lk) (N : Nat) (to : Int) (most : Nat) : List (List Int) := (List.range (most + 1)).map (exL L N to)
section
variable {L : List Lk} {N : Nat}
theorem aEk (x y : List Int) (l : Lk) : (an4 x y l).length = y.length := by unfold an4; split <;> simp
theorem awt (x : List Int) : ∀ (M : List Lk) (y : List Int), (M.foldl (an4 x) y).length = y.length
 | [], y => rfl
 | l :: M, y => by rw [List.foldl_cons, awt x M, aEk]
theorem aNK (x : List Int) : (aJw L N x).length = N := by unfold aJw; rw [awt]; simp
theorem aLh (to : Int) (k : Nat) : (exL L N to k).length = N := by
 cases k with
 | zero => simp [exL]
 | succ k => exact aNK _
def Lim (B : Int) (x : List Int) : Prop := ∀ v : Int, gv x v ≠ afx → -B ≤ gv x v ∧ gv x v ≤ B
theorem gv_out {x : List Int} {v : Int} (h : ¬ v.toNat < x.length) : gv x v = 0 := by
 unfold gv
 rw [List.getElem?_eq_none (by omega)]
 rfl
theorem aPw {B : Int} (hB : 0 ≤ B) : Lim B (List.replicate N afx) := by
 intro v hv
 by_cases h : v.toNat < N
 ·exfalso; apply hv
  unfold gv
  rw [List.getElem?_replicate, if_pos h]
  rfl
 ·rw [gv_out (by simpa using h)]; omega
theorem aPv {B : Int} {y : List Int} (hy : Lim B y) {u : Int} (hu : 0 ≤ u) (hl : u.toNat < y.length) {a : Int} (ha : a ≠ afx → -B ≤ a ∧ a ≤ B) : Lim B (y.set u.toNat a) := by
 intro v hv
 by_cases h : v.toNat = u.toNat
 ·have : gv (y.set u.toNat a) v = a := by
   unfold gv
   rw [h, List.getElem?_set_self hl]
   rfl
  rw [this] at hv ⊢
  exact ha hv
 ·have : gv (y.set u.toNat a) v = gv y v := by
   unfold gv
   rw [List.getElem?_set_ne (fun e => h e.symm)]
  rw [this] at hv ⊢
  exact hy v hv
theorem aRs (hS : afY L N) {B : Int} (hB : 0 ≤ B) (hB2 : B ≤ 1000000000000000000) {x y : List Int} (hx : Lim B x) (hy : Lim (B + 4503599627370496) y) (hl : y.length = N) {l : Lk} (hm : l ∈ L) : Lim (B + 4503599627370496) (an4 x y l) := by
 unfold an4
 split
 ·exact hy
 ·rename_i hf
  have h1 := hS.inr l hm
  have h2 := hS.most l hm
  have h3 := hx _ hf
  refine aPv hy h1.1.1 (by omega) fun ha => ?_
  by_cases h4 : gv y l.1 = afx
  ·rw [h4] at ha ⊢
   have : min afx (l.2.2 + gv x l.2.1) = l.2.2 + gv x l.2.1 := by unfold afx; omega
   rw [this]; omega
  ·have := hy _ h4
   omega
theorem aMp (hS : afY L N) {B : Int} (hB : 0 ≤ B) (hB2 : B ≤ 1000000000000000000) {x : List Int} (hx : Lim B x) : ∀ (M : List Lk), (∀ l ∈ M, l ∈ L) → ∀ y : List Int, y.length = N → Lim (B + 4503599627370496) y → Lim (B + 4503599627370496) (M.foldl (an4 x) y)
 | [], _, y, _, hy => hy
 | l :: M, hM, y, hl, hy => by
   rw [List.foldl_cons]
   exact aMp hS hB hB2 hx M (fun m hm => hM m (by simp [hm])) _ (by rw [aEk, hl]) (aRs hS hB hB2 hx hy hl (hM l (by simp)))
theorem aK8 (hS : afY L N) {to : Int} (ht : 0 ≤ to ∧ to < N) : ∀ k : Nat, k ≤ 200 → Lim (k * 4503599627370496) (exL L N to k)
 | 0, _ => by
   unfold exL
   exact aPv (aPw (by omega)) ht.1 (by simp; omega) (fun _ => by omega)
 | k + 1, hk => by
   have := aMp hS (B := k * 4503599627370496) (by omega) (by omega) (aK8 hS ht k (by omega)) L (fun _ h => h) (List.replicate N afx) (by simp) (aPw (by omega))
   unfold exL aJw
   have e : (((k + 1 : Nat) : Int) * 4503599627370496) = (k : Int) * 4503599627370496 + 4503599627370496 := by push_cast; omega
   rw [e]
   exact this
theorem aJu {ρ : Type} (hN : N ≤ 1000) (K : List Int → Option ρ) {f : Int × List Int → (Int × List Int → Option ρ) → Option ρ}
 (hf : ∀ (v : Int × List Int) kk, f v kk = apW (N : Int) v.1 v.2 (fun u34 u35 => kk (u34, u35)) K) : acp f ((0 : Int), List.replicate N (0 : Int)) = K (List.replicate N afx) := by
 refine adh (List.replicate N (0 : Int)) (fun i => List.replicate i afx ++ List.replicate (N - i) (0 : Int)) _ (by simp) (fun i a hi ha kn => ?_) (fun kn => ?_)
 ·rw [hf]
  dsimp only
  unfold apW
  rw [List.length_replicate] at hi
  have hlen : (List.replicate i afx ++ List.replicate (N - i) (0 : Int)).length = N := by simp; omega
  have e1 : ilt (i : Int) (N : Int) = true := decide_eq_true (by omega)
  rw [acD e1, show adE (List.replicate i afx ++ List.replicate (N - i) (0 : Int)) = (N : Int) by unfold adE; rw [hlen], age (by omega) (by omega), agO (by rw [hlen]; omega), acx (by omega) (by omega)]
  congr 2
  rw [Int.toNat_natCast]
  rw [List.set_append_right _ _ (by simp), List.length_replicate, Nat.sub_self]
  rw [show N - i = (N - (i + 1)) + 1 by omega, List.replicate_succ, List.set_cons_zero, List.replicate_succ']
  simp
 ·rw [hf]
  dsimp only
  unfold apW
  rw [List.length_replicate]
  have e1 : ilt (N : Int) (N : Int) = false := decide_eq_false (by omega)
  rw [acr e1]
  simp
theorem okN (hN : N ≤ 1000) {ρ : Type} (x : Option ρ) : acT ((ile (0 : Int) (N : Int)) && (acS (Int.toNat (N : Int)))) x = x := by
 rw [adF]
 rw [Int.toNat_natCast, acu (by omega), Bool.and_true]
 exact decide_eq_true (by omega)
theorem aPu {ρ : Type} (hS : afY L N) {B : Int} (hB : 0 ≤ B) (hB2 : B ≤ 1000000000000000000) {x : List Int} (hx : Lim B x) (hxl : x.length = N) (K : List Int → Option ρ) :
 acp (fun (v20 : (Val (.pair tI (.slice tI)))) kk23 => atK x L (acv L) v20.1 v20.2 (fun u21 u22 => kk23 (u21, u22)) K) ((0 : Int), List.replicate N afx) = K (aJw L N x) := by
 have hl3 := hS.len
 refine adh L (fun i => (L.take i).foldl (an4 x) (List.replicate N afx)) _ rfl (fun i l hi hl kn => ?_) (fun kn => ?_)
 ·try dsimp only
  unfold atK
  have hm := List.mem_of_getElem? hl
  have h1 := hS.inr l hm
  have h2 := hS.most l hm
  rw [acs hi, acn hl, aph h1.2.1 (by omega), take_succ hl, List.foldl_append, aco hi (by omega)]
  have hlen : ((L.take i).foldl (an4 x) (List.replicate N afx)).length = N := by rw [awt]; simp
  generalize (L.take i).foldl (an4 x) (List.replicate N afx) = y at hlen ⊢
  by_cases hf : gv x l.2.1 = afx
  ·rw [acr (by rw [hf]; rfl)]
   simp only [List.foldl_cons, List.foldl_nil]
   unfold an4
   rw [if_pos hf]
  ·have h3 := hx _ hf
   rw [acD (bne_iff_ne.2 hf), show adE y = (N : Int) by unfold adE; rw [hlen], age h1.1.1 h1.1.2, agO (by omega), aph h1.2.1 (by omega), acx (by omega) (by omega), age h1.1.1 h1.1.2, agO (by omega), aco hi (by omega)]
   simp only [List.foldl_cons, List.foldl_nil]
   unfold an4
   rw [if_neg hf, awm]
 ·try dsimp only
  unfold atK
  rw [acL, List.take_length]
  rfl
theorem aRI {ρ : Type} : @aFI ρ = @apW ρ := rfl
theorem ag8 (to : Int) (m : Nat) : (aja L N to m).length = m + 1 := by simp [aja]
theorem aws {to : Int} {m k : Nat} (hk : k ≤ m) : (aja L N to m)[k]? = some (exL L N to k) := by
 unfold aja
 rw [List.getElem?_map, List.getElem?_range (by omega)]
 rfl
theorem aRH (hS : afY L N) {to : Int} (ht : 0 ≤ to ∧ to < N) {most : Nat} (hm : most ≤ 100) : apm ((N : Int), L) to (most : Int) = some (aja L N to most) := by
 have hN := hS.n60
 unfold apm azV
 dsimp only
 rw [okN (by omega), Int.toNat_natCast]
 refine (aJu (by omega) _ (fun v kk => by rw [acO, List.length_replicate])).trans ?_
 rw [show adE (List.replicate N afx) = (N : Int) by simp [adE], age ht.1 ht.2, agO (by simp; omega)]
 refine adh (List.replicate most ()) (fun i => aja L N to i) _ (by simp [aja, exL]) (fun i a hi ha kn => ?_) (fun kn => ?_)
 ·try dsimp only
  unfold ayE
  rw [List.length_replicate] at hi
  have e1 : ilt (i : Int) (most : Int) = true := decide_eq_true (by omega)
  rw [acD e1, acO, ag8]
  have e2 : (((i + 1 : Nat) : Int) - 1) = (i : Int) := by omega
  rw [e2, acx (by omega) (by omega), show adE (aja L N to i) = ((i + 1 : Nat) : Int) by unfold adE; rw [ag8], age (by omega) (by omega), Int.toNat_natCast, aky (aws (Nat.le_refl i)), okN (by omega), Int.toNat_natCast]
  rw [aRI]
  refine (aJu (by omega) _ (fun v kk => by rw [acO, List.length_replicate])).trans ?_
  refine (aPu hS (B := i * 4503599627370496) (by omega) (by omega) (aK8 hS ht i (by omega)) (aLh _ _) _).trans ?_
  rw [adF (acu (by simp only [ag8, List.length_singleton]; omega)), acx (by omega) (by omega)]
  congr 2
  unfold aja
  rw [List.range_succ (n := i + 1), List.map_append]
  rfl
 ·try dsimp only
  unfold ayE
  rw [List.length_replicate]
  have e1 : ilt (most : Int) (most : Int) = false := decide_eq_false (by omega)
  rw [acr e1]
def aBZ (L : List Lk) (x : List Int) (good : Int → Bool) (u sum : Int) : Option Nat := L.findIdx? fun l => l.1 == u && (decide (gv x l.2.1 ≠ afx) && good (sum + l.2.2 + gv x l.2.1))
def alu (L : List Lk) (rest : Nat → List Int) (good : Int → Bool) : Nat → Int → Int → List Int → List Int
 | 0, _, _, out => out
 | k + 1, u, sum, out => match aBZ L (rest k) good u sum with
   | some i => alu L rest good k (L[i]?.getD (0, 0, 0)).2.1 (sum + (L[i]?.getD (0, 0, 0)).2.2) (out ++ [(i : Int)])
   | none => alu L rest good k u sum out
def folL {ρ : Type} (good : Int → Bool) (c0 : Int) (c1 : List (List Int)) (c2 : List Lk) (c3 : Int) (v0 : Int) (v1 : Int) (v2 : Int) (v3 : List Int) (kn : Int → Int → Int → List Int → Option ρ) (k0 : Int × Int × List Int → Option ρ) : Option ρ :=
 ifb (ilt v2 c3) (adL c2 v2 fun e7 => ifb (ieq e7.1 v0) (ck (c0 - (1 : Int)) fun n8 => adL c1 n8 fun e9 => adL e9 e7.2.1 fun e10 => ifb (ine e10 (1152921504606846976 : Int)) (ck (v1 + e7.2.2) fun n11 => ck (c0 - (1 : Int)) fun n12 => adL c1 n12 fun e13 => adL e13 e7.2.1 fun e14 => ck (n11 + e14) fun n15 => ifb (good n15) (acT (acS ((List.length v3) + (List.length ([v2])))) (ck (v1 + e7.2.2) fun n16 => k0 (e7.2.1, n16, (v3 ++ ([v2]))))) (ck (v2 + (1 : Int)) fun n17 => kn v0 v1 n17 v3)) (ck (v2 + (1 : Int)) fun n18 => kn v0 v1 n18 v3)) (ck (v2 + (1 : Int)) fun n19 => kn v0 v1 n19 v3)) (k0 (v0, v1, v3))
theorem aTd {ρ : Type} (hS : afY L N) (good : Int → Bool) {rest : List (List Int)} {k : Nat} {x : List Int} (hr : rest[k]? = some x) (hk : k ≤ 100) (hx : Lim 1000000000000000000 x) (hxl : x.length = N) {u sum : Int} (hs : -1000000000000000000 ≤ sum ∧ sum ≤ 1000000000000000000) {out : List Int} (ho : out.length ≤ 1000)
 (K : Int × Int × List Int → Option ρ) : acp (fun (v : Int × Int × Int × List Int) kk => folL good ((k + 1 : Nat) : Int) rest L (acv L) v.1 v.2.1 v.2.2.1 v.2.2.2 (fun a b c d => kk (a, b, c, d)) K) (u, sum, (0 : Int), out) =
  match aBZ L x good u sum with | some i => K ((L[i]?.getD (0, 0, 0)).2.1, sum + (L[i]?.getD (0, 0, 0)).2.2, out ++ [(i : Int)]) | none => K (u, sum, out) := by
 have hl3 := hS.len
 refine afi (fun v => ∃ i : Nat, i ≤ L.length ∧ v = (u, sum, (i : Int), out) ∧ ∀ j l, j < i → L[j]? = some l → (l.1 == u && (decide (gv x l.2.1 ≠ afx) && good (sum + l.2.2 + gv x l.2.1))) = false) (fun v => L.length - v.2.2.1.toNat) ?_ ⟨0, by omega, rfl, fun j l h => by omega⟩
 rintro v ⟨i, hi, rfl, hp⟩
 have e0 : (((k + 1 : Nat) : Int) - 1) = (k : Int) := by omega
 rcases Nat.lt_or_ge i L.length with h2 | h2
 ·have hl : L[i]? = some L[i] := List.getElem?_eq_getElem h2
  generalize L[i] = l at hl
  have hm := List.mem_of_getElem? hl
  have h1 := hS.inr l hm
  have h4 := hS.most l hm
  have hstep : (l.1 == u && (decide (gv x l.2.1 ≠ afx) && good (sum + l.2.2 + gv x l.2.1))) = false → ∃ y, (∃ i : Nat, i ≤ L.length ∧ y = (u, sum, (i : Int), out) ∧ ∀ j l, j < i → L[j]? = some l → (l.1 == u && (decide (gv x l.2.1 ≠ afx) && good (sum + l.2.2 + gv x l.2.1))) = false) ∧ (L.length - y.2.2.1.toNat < L.length - ((u, sum, (i : Int), out) : Int × Int × Int × List Int).2.2.1.toNat) ∧ y = (u, sum, (i : Int) + 1, out) := fun hf =>
   ⟨_, ⟨i + 1, h2, by rw [show ((i + 1 : Nat) : Int) = (i : Int) + 1 by push_cast; rfl], fun j m hj hm => by
    rcases Nat.lt_succ_iff_lt_or_eq.1 hj with h | rfl
    ·exact hp j m h hm
    ·rw [hl] at hm; cases hm; exact hf⟩, by simp; omega, rfl⟩
  by_cases hf : (l.1 == u && (decide (gv x l.2.1 ≠ afx) && good (sum + l.2.2 + gv x l.2.1))) = true
  ·refine .inl fun kn => ?_
   have hfi : aBZ L x good u sum = some i := by
    unfold aBZ
    rw [List.findIdx?_eq_some_iff_getElem]
    obtain ⟨hh, rfl⟩ := List.getElem?_eq_some_iff.1 hl
    exact ⟨h2, hf, fun j hj => by have := hp j _ hj (List.getElem?_eq_getElem (by omega)); rw [this]; simp⟩
   rw [hfi]
   simp only [Bool.and_eq_true, beq_iff_eq, decide_eq_true_eq] at hf
   have h5 := hx _ hf.2.1
   dsimp only
   unfold folL
   rw [acs h2, acn hl, acD (by simp [hf.1]), e0, acx (by omega) (by omega), acn hr, aph h1.2.1 (by omega), acD (bne_iff_ne.2 hf.2.1), acx (by omega) (by omega), acx (by omega) (by omega), acn hr, aph h1.2.1 (by omega), acx (by omega) (by omega), acD hf.2.2,
    adF (acu (by simp; omega)), acx (by omega) (by omega), hl]
   rfl
  ·have hf' := Bool.not_eq_true _ ▸ hf
   obtain ⟨y, hy1, hy2, rfl⟩ := hstep hf'
   refine .inr ⟨_, hy1, hy2, fun kn => ?_⟩
   dsimp only
   unfold folL
   rw [acs h2, acn hl, aco h2 (by omega)]
   by_cases g1 : l.1 = u
   ·rw [acD (by simp [g1]), e0, acx (by omega) (by omega), acn hr, aph h1.2.1 (by omega)]
    by_cases g2 : gv x l.2.1 = afx
    ·rw [acr (by rw [g2]; rfl)]
    ·have h5 := hx _ g2
     have g3 : good (sum + l.2.2 + gv x l.2.1) = false := by simpa [g1, g2] using hf'
     rw [acD (bne_iff_ne.2 g2), acx (by omega) (by omega), acx (by omega) (by omega), acn hr, aph h1.2.1 (by omega), acx (by omega) (by omega), acr g3]
   ·rw [acr (by simpa using g1)]
 ·refine .inl fun kn => ?_
  obtain rfl : i = L.length := by omega
  have hfi : aBZ L x good u sum = none := by
   unfold aBZ
   rw [List.findIdx?_eq_none_iff]
   intro l hl
   obtain ⟨j, hj, rfl⟩ := List.mem_iff_getElem.1 hl
   exact hp j _ hj (List.getElem?_eq_getElem hj)
  rw [hfi]
  dsimp only
  unfold folL
  rw [acL]
def aTc {ρ : Type} (good : Int → Bool) (c0 : List (List Int)) (c6 : List Lk) (v0 : Int) (v1 : Int) (v2 : Int) (v3 : List Int) (kn : Int → Int → Int → List Int → Option ρ) (k0 : List Int → Option ρ) : Option ρ :=
 ifb (igt v1 (0 : Int)) (acp (fun (v22 : Int × Int × Int × List Int) kk27 => folL good v1 c0 c6 (acv c6) v22.1 v22.2.1 v22.2.2.1 v22.2.2.2 (fun u23 u24 u25 u26 => kk27 (u23, u24, u25, u26)) (fun z20 => ck (v1 - (1 : Int)) fun n21 => kn z20.1 n21 z20.2.1 z20.2.2)) (v0, v2, (0 : Int), v3)) (k0 v3)
theorem aRX {ρ : Type} (c0 : List (List Int)) (c4 : Int) (c6 : List Lk) : @akR ρ c0 c4 c6 = aTc (fun n => ieq n c4) c0 c6 := rfl
theorem aTb {ρ : Type} (hS : afY L N) (good : Int → Bool) {rest : List (List Int)} {R : Nat → List Int} {k0 : Nat} (hk : k0 ≤ 100) (hr : ∀ k, k < k0 → rest[k]? = some (R k)) (hx : ∀ k, k < k0 → Lim 900000000000000000 (R k) ∧ (R k).length = N) (u : Int) (K : List Int → Option ρ) :
 acp (fun (v : Int × Int × Int × List Int) kk => aTc good rest L v.1 v.2.1 v.2.2.1 v.2.2.2 (fun a b c d => kk (a, b, c, d)) K) (u, (k0 : Int), (0 : Int), []) = K (alu L R good k0 u 0 []) := by
 have key := amb (f := fun (v : Int × Int × Int × List Int) kk => aTc good rest L v.1 v.2.1 v.2.2.1 v.2.2.2 (fun a b c d => kk (a, b, c, d)) K) (F := fun v => K (alu L R good v.2.1.toNat v.1 v.2.2.1 v.2.2.2))
  (fun v => ∃ k : Nat, v.2.1 = k ∧ k ≤ k0 ∧ (-(((k0 - k : Nat) : Int) * 4503599627370496) ≤ v.2.2.1 ∧ v.2.2.1 ≤ ((k0 - k : Nat) : Int) * 4503599627370496) ∧ v.2.2.2.length ≤ k0 - k) (fun v => v.2.1.toNat) (fun v hv kn hk => ?_) (x := (u, (k0 : Int), 0, [])) ⟨k0, rfl, Nat.le_refl _, by simp, by simp⟩
 ·rw [key]; simp
 ·obtain ⟨u, k', sum, out⟩ := v
  obtain ⟨k, e, h1, h2, h3⟩ := hv
  dsimp only at e h2 h3 hk ⊢
  subst e
  rw [Int.toNat_natCast] at hk ⊢
  unfold aTc
  cases k with
  | zero =>
    rw [acr (by rfl)]
    rfl
  | succ k =>
    rw [acD (decide_eq_true (by omega))]
    have hh := hx k (by omega)
    have hlim : Lim 1000000000000000000 (R k) := fun v hv => by have := hh.1 v hv; omega
    refine (aTd hS good (hr k (by omega)) (by omega) hlim hh.2 (by omega) (by omega) _).trans ?_
    unfold alu
    have e0 : (((k + 1 : Nat) : Int) - 1) = (k : Int) := by omega
    cases hn : aBZ L (R k) good u sum with
    | none =>
      dsimp only
      rw [e0, acx (by omega) (by omega), hk _ ⟨k, rfl, by omega, by dsimp only; omega, by dsimp only; omega⟩ (by simp)]
      simp
    | some i =>
      have hi : i < L.length := by
       unfold aBZ at hn
       exact (List.findIdx?_eq_some_iff_getElem.1 hn).1
      have hl : L[i]? = some L[i] := List.getElem?_eq_getElem hi
      have h4 := hS.most L[i] (List.getElem_mem _)
      dsimp only
      rw [hl]
      simp only [Option.getD_some]
      rw [e0, acx (by omega) (by omega), hk _ ⟨k, rfl, by omega, by dsimp only; omega, by simp; omega⟩ (by simp)]
      simp
def aBQ (L : List Lk) (N : Nat) (u v : Int) : List Int × Int :=
 if (afv L N u v).2 ≠ 0 then ([], (afv L N u v).2) else
 match (aja L N v N).findIdx? (fun x => gv x u == (afv L N u v).1) with
 | some k => (alu L (exL L N v) (fun n => ieq n (afv L N u v).1) k u 0 [], 0)
 | none => ([], 0)
theorem aM4 (hS : afY L N) {u v : Int} (hu : 0 ≤ u ∧ u < N) (hv : 0 ≤ v ∧ v < N) : apo ((N : Int), L) u v = some (aBQ L N u v) := by
 have hN := hS.n60
 unfold apo aAe aBQ
 rw [ayQ hS hu hv, ab8]
 by_cases h : (afv L N u v).2 = 0
 ·rw [acr (by rw [h]; rfl), if_neg (by simp [h]), aRH hS hv (by omega), ab8]
  rw [aRX]
  let k0 : Int → Option (List Int × Int) := fun j => acp (fun (v29 : Int × Int × Int × List Int) kk34 => aTc (fun n => ieq n (afv L N u v).1) (aja L N v N) L v29.1 v29.2.1 v29.2.2.1 v29.2.2.2 (fun u30 u31 u32 u33 => kk34 (u30, u31, u32, u33)) (fun z28 => some ((z28, (0 : Int)) : List Int × Int))) (u, j, (0 : Int), [])
  refine (afS (aja L N v N) (fun x => gv x u == (afv L N u v).1) k0 (k0 (-1)) (fun i x hi hx kn => ?_) (fun kn => ?_)).trans ?_
  rotate_left
  ·try dsimp only
   unfold akS
   rw [acL]
  ·have hex : ∀ k, k < N + 1 → (aja L N v N)[k]? = some (exL L N v k) := fun k hk => aws (by omega)
   have hlim : ∀ k, k < N + 1 → Lim 900000000000000000 (exL L N v k) ∧ (exL L N v k).length = N := fun k hk => ⟨fun w hw => by
    have := aK8 hS hv k (by omega) w hw; omega, aLh _ _⟩
   cases hf : (aja L N v N).findIdx? (fun x => gv x u == (afv L N u v).1) with
   | none =>
     have := amb (f := fun (v29 : Int × Int × Int × List Int) kk34 => aTc (fun n => ieq n (afv L N u v).1) (aja L N v N) L v29.1 v29.2.1 v29.2.2.1 v29.2.2.2 (fun u30 u31 u32 u33 => kk34 (u30, u31, u32, u33)) (fun z28 => some ((z28, (0 : Int)) : List Int × Int))) (F := fun _ => some (([], 0) : List Int × Int)) (fun v => v.2.1 = -1 ∧ v.2.2.2 = []) (fun _ => 0) (fun x hx kn hk => by
      unfold aTc
      rw [hx.1, hx.2]
      rfl) (x := (u, (-1 : Int), (0 : Int), [])) ⟨rfl, rfl⟩
     exact this
   | some k =>
     have hk := (List.findIdx?_eq_some_iff_getElem.1 hf).1
     rw [ag8] at hk
     exact aTb hS _ (R := exL L N v) (by omega) (fun j hj => hex j (by omega)) (fun j hj => hlim j (by omega)) u (fun z => some ((z, (0 : Int)) : List Int × Int))
  ·try dsimp only
   unfold akS
   have hxl : x.length = N := by
    have hi' := hi
    rw [ag8] at hi'
    rw [aws (by omega)] at hx
    cases hx
    exact aLh _ _
   rw [ag8] at hi
   rw [acO, ag8, acD (decide_eq_true (by omega)), acn hx, aph hu.1 (by omega), acx (by omega) (by omega), adM]
 ·rw [acD (bne_iff_ne.2 h), if_pos h]
end
end Go.Proofs.ZzM
end
noncomputable section
namespace Go.Proofs.ZzM
open Go Go.Am
abbrev aSh : Type := acC × (Int × Int) × Bool × Int × List Int
def aQa : aSh := (alB, (0, 0), false, 0, [])
def arm (L : List Lk) : Int → Int → List Int → Int × Int × Bool
 | u, s, [] => (u, s, true)
 | u, s, i :: t => if (L[i.toNat]?.getD (0, 0, 0)).1 = u then arm L (L[i.toNat]?.getD (0, 0, 0)).2.1 (s + (L[i.toNat]?.getD (0, 0, 0)).2.2) t else (0, 0, false)
def aJQ (L : List Lk) (i : Int) : Bool := decide (i < 0) || decide ((L.length : Int) ≤ i)
def ahu (L : List Lk) (l : List Int) : Int := if 80 < l.length then 2 else if l.any (aJQ L) then 1 else 0
def aeE (L : List Lk) (u v : Int) (l : List Int) : Int × Int :=
 if ahu L l ≠ 0 then (0, ahu L l) else if (arm L u 0 l).2.2 = true ∧ (arm L u 0 l).1 = v then ((arm L u 0 l).2.1, 0) else (0, 8)
def aSy (u : Int) (w : Int × Int × Bool) : Int := if w.2.2 = true ∧ w.1 = u ∧ w.2.1 < 0 then 0 else 8
def anC (L : List Lk) (l : List Int) : Int :=
 if ahu L l ≠ 0 then ahu L l else match l with
 | [] => 8
 | i :: _ => aSy (L[i.toNat]?.getD (0, 0, 0)).1 (arm L (L[i.toNat]?.getD (0, 0, 0)).1 0 l)
section
variable {L : List Lk} {N : Nat}
theorem aD8 (N : Int) (hL : L.length ≤ 1000) (l : List Int) : akf (N, L) l = some (ahu L l) := by
 unfold akf arX ahu
 dsimp only
 rw [acO]
 by_cases h : 80 < l.length
 ·rw [acD (decide_eq_true (by omega)), if_pos h]
 ·rw [acr (decide_eq_false (by omega)), if_neg h, ← acO l]
  refine (agq l (aJQ L) (fun z => ifb (ige z 0) (some 1) (some 0)) (some 1) (some 0) (fun j => by rw [show ige (j : Int) 0 = true from decide_eq_true (by omega)]; rfl) (fun i a hi ha kn => ?_) (fun kn => ?_)).trans ?_
  ·try dsimp only
   unfold ain aJQ
   rw [acs hi, acn ha, aco hi (by omega), acO, adM, adM]
   by_cases h1 : a < 0
   ·simp [ilt, h1]
   ·by_cases h2 : (L.length : Int) ≤ a
    ·simp [ilt, ige, h1, h2]
    ·simp [ilt, ige, h1, h2]
  ·try dsimp only
   unfold ain
   rw [acL]
  ·cases l.any (aJQ L) <;> rfl
theorem aLd {l : List Int} (h : ahu L l = 0) : l.length ≤ 80 ∧ ∀ i ∈ l, 0 ≤ i ∧ i.toNat < L.length := by
 unfold ahu at h
 split at h
 ·omega
 ·rename_i h1
  split at h
  ·omega
  ·rename_i h2
   refine ⟨by omega, fun i hi => ?_⟩
   have := List.any_eq_false.1 (Bool.eq_false_iff.2 h2) i hi
   simp [aJQ] at this
   omega
theorem aOk (hS : afY L N) (u : Int) {l : List Int} (h : ahu L l = 0) : auS ((N : Int), L) u l = some (arm L u 0 l) := by
 obtain ⟨hl, hi⟩ := aLd h
 unfold auS aFG
 dsimp only
 have := amb (f := fun (v7 : Int × Int × Int) kk11 => amU l (acv l) L v7.1 v7.2.1 v7.2.2 (fun u8 u9 u10 => kk11 (u8, u9, u10)) (fun z5 => some (z5.1, z5.2.1, z5.2.2)) (fun z6 => some (z6.1, z6.2, true)))
  (F := fun v => some (arm L v.1 v.2.1 (l.drop v.2.2.toNat))) (fun v => ∃ i : Nat, v.2.2 = i ∧ i ≤ l.length ∧ (-(i * 4503599627370496) ≤ v.2.1 ∧ v.2.1 ≤ i * 4503599627370496)) (fun v => l.length - v.2.2.toNat) (fun v hv kn hk => ?_) (x := (u, (0 : Int), (0 : Int))) ⟨0, rfl, by omega, by simp⟩
 ·exact this
 ·obtain ⟨w, s, n⟩ := v
  obtain ⟨i, e, h1, h2⟩ := hv
  dsimp only at e h2 hk ⊢
  subst e
  rw [Int.toNat_natCast] at hk ⊢
  unfold amU
  rcases Nat.lt_or_ge i l.length with h3 | h3
  ·have ha : l[i]? = some l[i] := List.getElem?_eq_getElem h3
   have hd : l.drop i = l[i] :: l.drop (i + 1) := List.drop_eq_getElem_cons h3
   rw [hd]
   have hx := hi l[i] (List.getElem_mem _)
   generalize l[i] = a at ha hx
   have hg : L[a.toNat]? = some L[a.toNat] := List.getElem?_eq_getElem hx.2
   have hm := hS.most _ (List.mem_of_getElem? hg)
   generalize L[a.toNat] = x at hg hm
   rw [acs h3, acn ha, aib hx.1 hg]
   unfold arm
   rw [hg]
   simp only [Option.getD_some]
   by_cases hc : x.1 = w
   ·rw [acr (by rw [hc]; exact bne_self_eq_false' _), if_pos hc, acx (by omega) (by omega), aco h3 (by omega), hk _ ⟨i + 1, by push_cast; rfl, h3, by dsimp only; push_cast; omega⟩ (by simp; omega)]
    simp
   ·rw [acD (bne_iff_ne.2 hc), if_neg hc]
  ·obtain rfl : i = l.length := by omega
   rw [acL, List.drop_length]
   rfl
theorem aOl (hS : afY L N) : ∀ (l : List Int) (u s B : Int), -B ≤ s ∧ s ≤ B → -(B + l.length * 4503599627370496) ≤ (arm L u s l).2.1 ∧ (arm L u s l).2.1 ≤ B + l.length * 4503599627370496
 | [], u, s, B, h => by simp [arm]; omega
 | i :: t, u, s, B, h => by
   unfold arm
   have hm : -4503599627370496 ≤ (L[i.toNat]?.getD (0, 0, 0)).2.2 ∧ (L[i.toNat]?.getD (0, 0, 0)).2.2 ≤ 4503599627370496 := by
    cases hg : L[i.toNat]? with
    | none => simp
    | some x => exact hS.most x (List.mem_of_getElem? hg)
   split
   ·have := aOl hS t (L[i.toNat]?.getD (0, 0, 0)).2.1 (s + (L[i.toNat]?.getD (0, 0, 0)).2.2) (B + 4503599627370496) (by omega)
    rw [List.length_cons]
    push_cast
    omega
   ·dsimp only
    omega
theorem au8 (hS : afY L N) {u v : Int} (hu : 0 ≤ u ∧ u < N) (hv : 0 ≤ v ∧ v < N) (l : List Int) : agG ((N : Int), L) u v l = some (aeE L u v l) := by
 have hl3 := hS.len
 unfold agG alo aeE
 have e1 : (decide (0 ≤ u) && decide (u < (N : Int))) = true := by simp [hu.1, hu.2]
 have e2 : (decide (0 ≤ v) && decide (v < (N : Int))) = true := by simp [hv.1, hv.2]
 rw [ahF hS, ab8, acr (by rfl), azo, ab8, e1, acr (by rfl), azo, ab8, e2, acr (by rfl), aD8 _ (by omega), ab8]
 by_cases h : ahu L l = 0
 ·rw [acr (by rw [h]; rfl), if_neg (by simp [h]), aOk hS u h, ab8]
  cases h1 : (arm L u 0 l).2.2 with
  | false => rw [acD (by rfl), if_neg (by simp)]
  | true =>
    rw [acr (by rfl)]
    by_cases h2 : (arm L u 0 l).1 = v
    ·rw [acr (by rw [h2]; exact bne_self_eq_false' _), if_pos ⟨rfl, h2⟩]
    ·rw [acD (bne_iff_ne.2 h2), if_neg (fun h => h2 h.2)]
 ·rw [acD (bne_iff_ne.2 h), if_pos h]
theorem aPC {ρ α : Type} (x : α) (t : List α) (f : α → Option ρ) : adL (x :: t) (0 : Int) f = f x := rfl
theorem aDh (hS : afY L N) (l : List Int) : aiq ((N : Int), L) l = some (anC L l) := by
 have hl3 := hS.len
 unfold aiq aln anC
 rw [ahF hS, ab8, acr (by rfl), aD8 _ (by omega), ab8]
 by_cases h : ahu L l = 0
 ·rw [acr (by rw [h]; rfl), if_neg (by simp [h])]
  cases l with
  | nil => rw [acO]; rfl
  | cons i t =>
    have hx := (aLd h).2 i (by simp)
    have hg : L[i.toNat]? = some L[i.toNat] := List.getElem?_eq_getElem hx.2
    generalize L[i.toNat] = x at hg
    rw [acO, acr (beq_eq_false_iff_ne.2 (by simp; omega)), aPC, aib hx.1 hg, aOk hS x.1 h, ab8]
    dsimp only
    rw [hg]
    dsimp only [Option.getD_some]
    generalize arm L x.1 0 (i :: t) = w
    obtain ⟨e, sum, ok⟩ := w
    unfold aSy
    dsimp only
    cases ok with
    | false => rw [acD (by rfl), if_neg (by simp)]
    | true =>
      rw [acr (by rfl)]
      by_cases h2 : e = x.1
      ·rw [acr (by rw [h2]; exact bne_self_eq_false' _)]
       by_cases h3 : sum < 0
       ·rw [acr (decide_eq_false (by omega)), if_pos ⟨rfl, h2, h3⟩]
       ·rw [acD (decide_eq_true (by omega)), if_neg (fun h => h3 h.2.2)]
      ·rw [acD (bne_iff_ne.2 h2), if_neg (fun h => h2 h.2.1)]
 ·rw [acD (bne_iff_ne.2 h), if_pos h]
end
def ajJ (c : aSh) : Int :=
 if acN c.1 ≠ 0 then acN c.1 else if amu c.1 c.2.1.1 c.2.1.2 = 0 then 5 else
 if c.2.2.1 then (if aeE (acy c.1) 0 (amu c.1 c.2.1.1 c.2.1.2) c.2.2.2.2 = (c.2.2.2.1, 0) then 0 else 8)
 else (if aeE (acy c.1) (amu c.1 c.2.1.1 c.2.1.2) 0 c.2.2.2.2 = (-c.2.2.2.1, 0) then 0 else 8)
def akp (c : aSh) : Int :=
 if acN c.1 ≠ 0 then acN c.1 else if c.2.1 ≠ (0, 0) ∨ c.2.2.1 = true ∨ c.2.2.2.1 ≠ 0 then 1 else if anC (acy c.1) c.2.2.2.2 = 0 then 0 else 8
def aLF (b : acC) (c : aSh) : Bool × Int :=
 if acN b ≠ 0 then (false, acN b) else
 if c.2.1 = (0, 0) then (if akp c ≠ 0 then (false, akp c) else (aRf c.1 b, 0)) else (if ajJ c ≠ 0 then (false, ajJ c) else (aRf c.1 b, 0))
theorem wr_neg {n : Int} (h : I64 n) : aSF (0 - n) = if n = -9223372036854775808 then n else -n := by
 have e : aSF (0 - n) = if (0 - n) % 18446744073709551616 ≥ 9223372036854775808 then (0 - n) % 18446744073709551616 - 18446744073709551616 else (0 - n) % 18446744073709551616 := by
  simp [aSF, IntKind.wrap, IntKind.bits, IntKind.signed]
 rw [e]
 unfold I64 at h
 split <;> split <;> omega
theorem axJ {c : aSh} (hI : In c.1) (hv : I64 c.2.2.2.1) : ahA c = some (ajJ c) := by
 unfold ahA amQ ajJ
 rw [af6 hI.size hI.num, ab8]
 by_cases hc : acN c.1 = 0
 ·have hg := (acQ c.1).1 hc
  rw [acr (by simp [ine, hc]), if_neg (show ¬ (acN c.1 ≠ 0) from fun h => h hc), aBP hI, ab8, asu hg, akn hI, ab8, agj hg]
  dsimp only
  by_cases h0 : amu c.1 c.2.1.1 c.2.1.2 = 0
  ·rw [if_pos h0, if_pos h0]; rfl
  ·have hN := hg.sys
   have hr := adX c.1 c.2.1
   have hz := adY c.1
   rw [if_neg h0, if_neg h0, acr (by rfl), show (((ack c.1).length : Int) + 1) = (((ack c.1).length + 1 : Nat) : Int) by push_cast; rfl]
   dsimp only
   rw [show (∀ f : Int → Option Int, ck (0 - c.2.2.2.1) f = f (aSF (0 - c.2.2.2.1))) from fun f => rfl, wr_neg hv]
   have key : ∀ (u v : Int) (t t' : Int), (t' = t ∨ (t' = -9223372036854775808 ∧ t = 9223372036854775808)) → (ifb (ine (aeE (acy c.1) u v c.2.2.2.2).2 0) (some (8 : Int)) (ifb (ine (aeE (acy c.1) u v c.2.2.2.2).1 t') (some 8) (some 0))) = some (if aeE (acy c.1) u v c.2.2.2.2 = (t, 0) then 0 else 8) := by
    intro u v t t' ht
    have hb : -9000000000000000000 ≤ (aeE (acy c.1) u v c.2.2.2.2).1 ∧ (aeE (acy c.1) u v c.2.2.2.2).1 ≤ 9000000000000000000 := by
     unfold aeE
     split
     ·simp
     ·rename_i hi
      split
      ·have := aOl hN c.2.2.2.2 u 0 0 (by simp)
       have := (aLd (by simpa using hi)).1
       dsimp only
       omega
      ·simp
    generalize aeE (acy c.1) u v c.2.2.2.2 = p at hb ⊢
    by_cases h2 : p.2 = 0
    ·rw [acr (by rw [h2]; rfl)]
     by_cases h1 : p.1 = t'
     ·have : p = (t, 0) := Prod.ext (by rcases ht with h | h <;> omega) h2
      rw [acr (by rw [h1]; exact bne_self_eq_false' _), if_pos this]
     ·have : ¬ p = (t, 0) := fun e => by
       have e1 : p.1 = t := by rw [e]
       rcases ht with h | h <;> omega
      rw [acD (bne_iff_ne.2 h1), if_neg this]
    ·have : ¬ p = (t, 0) := fun e => h2 (by rw [e])
     rw [acD (bne_iff_ne.2 h2), if_neg this]
   unfold I64 at hv
   cases c.2.2.1 with
   | true =>
     rw [aeG, au8 hN hz hr, ab8, key _ _ _ _ (.inl rfl)]
     rfl
   | false =>
     rw [acU, au8 hN hr hz, ab8, key _ _ (-c.2.2.2.1) _ (by split <;> omega)]
     rfl
 ·rw [acD (by simp [ine, hc]), if_pos hc]
theorem aG6 {c : aSh} (hI : In c.1) : aip c = some (akp c) := by
 unfold aip alh akp
 rw [af6 hI.size hI.num, ab8]
 by_cases hc : acN c.1 = 0
 ·have hg := (acQ c.1).1 hc
  rw [acr (by simp [ine, hc]), if_neg (show ¬ (acN c.1 ≠ 0) from fun h => h hc)]
  by_cases h1 : c.2.1 = (0, 0)
  ·have e1 : (!((aeI c.2.1.1 0) && ((aeI c.2.1.2 0) && true))) = false := by rw [h1]; rfl
   rw [e1, acU]
   cases h2 : c.2.2.1 with
   | true => rw [aeG, if_pos (.inr (.inl rfl))]
   | false =>
     rw [acU]
     by_cases h3 : c.2.2.2.1 = 0
     ·rw [acr (by rw [h3]; rfl), if_neg (by simp [h1, h3]), akn hI, ab8, agj hg, show (((ack c.1).length : Int) + 1) = (((ack c.1).length + 1 : Nat) : Int) by push_cast; rfl]
      dsimp only
      rw [aDh hg.sys, ab8]
      by_cases h4 : anC (acy c.1) c.2.2.2.2 = 0
      ·rw [acr (by rw [h4]; rfl), if_pos h4]
      ·rw [acD (bne_iff_ne.2 h4), if_neg h4]
     ·rw [acD (bne_iff_ne.2 h3), if_pos (.inr (.inr h3))]
  ·have e1 : (!((aeI c.2.1.1 0) && ((aeI c.2.1.2 0) && true))) = true := by
    rw [Prod.ext_iff] at h1
    simp [aeI]
    dsimp only at h1
    omega
   rw [e1, aeG, if_pos (.inl h1)]
 ·rw [acD (by simp [ine, hc]), if_pos hc]
theorem aQC {b : acC} {c : aSh} (hb : In b) (hI : In c.1) (hv : I64 c.2.2.2.1) : ap5 b c = some (aLF b c) := by
 unfold ap5 avB aLF
 rw [af6 hb.size hb.num, ab8]
 by_cases hc : acN b = 0
 ·rw [acr (by simp [ine, hc]), if_neg (show ¬ (acN b ≠ 0) from fun h => h hc)]
  by_cases h1 : c.2.1 = (0, 0)
  ·have e1 : ((aeI c.2.1.1 0) && ((aeI c.2.1.2 0) && true)) = true := by rw [h1]; rfl
   rw [e1, aeG, if_pos h1, aG6 hI, ab8]
   by_cases h2 : akp c = 0
   ·rw [acr (by rw [h2]; rfl), if_neg (by simp [h2]), part_ok hI.size hb.size, ab8]
   ·rw [acD (bne_iff_ne.2 h2), if_pos h2]
  ·have e1 : ((aeI c.2.1.1 0) && ((aeI c.2.1.2 0) && true)) = false := by
    rw [Prod.ext_iff] at h1
    simp [aeI]
    dsimp only at h1
    omega
   rw [e1, acU, if_neg h1, axJ hI hv, ab8]
   by_cases h2 : ajJ c = 0
   ·rw [acr (by rw [h2]; rfl), if_neg (by simp [h2]), part_ok hI.size hb.size, ab8]
   ·rw [acD (bne_iff_ne.2 h2), if_pos h2]
 ·rw [acD (by simp [ine, hc]), if_pos hc]
end Go.Proofs.ZzM
end
noncomputable section
namespace Go.Proofs.ZzM
open Go Go.Am
def ayX (b : acC) (l : List Int) : List (Int × Int) := l.map fun i => (aeF b)[i.toNat]?.getD (0, 0)
theorem aNa {b : acC} (hg : adx b) (hn : ∀ g ∈ b.2.1, I64 g.2.2.2.2.1.1) {l : List Int} (hl : l.length ≤ 1000) (hi : ∀ i ∈ l, 0 ≤ i ∧ i.toNat < (acy b).length) : akd b l = some (ayX b l) := by
 unfold akd arM
 rw [akn (hg.inn hn), ab8, agj hg]
 refine adh l (fun i => ayX b (l.take i)) _ rfl (fun i a hlt ha kn => ?_) (fun kn => ?_)
 ·try dsimp only
  unfold ail
  have hx := hi a (List.mem_of_getElem? ha)
  have hs : (aeF b)[a.toNat]? = some ((aeF b)[a.toNat]'(by rw [aEC hg]; exact hx.2)) := List.getElem?_eq_getElem _
  generalize (aeF b)[a.toNat]'(by rw [aEC hg]; exact hx.2) = x at hs
  have hlen : (ayX b (l.take i)).length ≤ 1000 := by unfold ayX; rw [List.length_map, List.length_take]; omega
  rw [acs hlt, acn ha, aib hx.1 hs, adF (show acS ((ayX b (l.take i)).length + [x].length) = true from acu (show (ayX b (l.take i)).length + 1 ≤ 4294967296 by omega)), aco hlt (by omega), take_succ ha]
  unfold ayX
  rw [List.map_append, List.map_singleton, hs]
  rfl
 ·try dsimp only
  unfold ail
  rw [acL, List.take_length]
theorem src_ok {b : acC} : ∀ s ∈ aeF b, aTw b s := by
 intro s hs
 unfold aeF at hs
 rcases List.mem_append.1 hs with h | h
 ·have := aJl s h; exact .inl this
 ·have := aJA s h; exact .inr this
theorem aQZ {b : acC} (hg : adx b) {l : List Int} (hi : ∀ i ∈ l, 0 ≤ i ∧ i.toNat < (acy b).length) : ∀ s ∈ ayX b l, aTw b s := by
 intro s hs
 obtain ⟨i, h1, rfl⟩ := List.mem_map.1 hs
 have hx := hi i h1
 have hsx : (aeF b)[i.toNat]? = some ((aeF b)[i.toNat]'(by rw [aEC hg]; exact hx.2)) := List.getElem?_eq_getElem _
 rw [hsx]
 exact src_ok _ (List.getElem_mem _)
section
variable {L : List Lk} {N : Nat}
theorem awp (R : Nat → List Int) (good : Int → Bool) : ∀ (k : Nat) (u sum : Int) (out : List Int), (∀ i ∈ out, 0 ≤ i ∧ i.toNat < L.length) → (∀ i ∈ alu L R good k u sum out, 0 ≤ i ∧ i.toNat < L.length) ∧ (alu L R good k u sum out).length ≤ out.length + k
 | 0, u, sum, out, h => ⟨h, by simp [alu]⟩
 | k + 1, u, sum, out, h => by
   unfold alu
   cases hn : aBZ L (R k) good u sum with
   | none =>
     have := awp R good k u sum out h
     exact ⟨this.1, by have := this.2; dsimp only; omega⟩
   | some i =>
     have hi : i < L.length := by
      unfold aBZ at hn
      exact (List.findIdx?_eq_some_iff_getElem.1 hn).1
     have := awp R good k (L[i]?.getD (0, 0, 0)).2.1 (sum + (L[i]?.getD (0, 0, 0)).2.2) (out ++ [(i : Int)]) (fun j hj => by
      rcases List.mem_append.1 hj with h1 | h1
      ·exact h j h1
      ·simp at h1; subst h1; simp; exact hi)
     exact ⟨this.1, by have := this.2; simp at this; dsimp only; omega⟩
theorem aJD (N : Nat) (u v : Int) : (∀ i ∈ (aBQ L N u v).1, 0 ≤ i ∧ i.toNat < L.length) ∧ (aBQ L N u v).1.length ≤ N := by
 unfold aBQ
 split
 ·simp
 ·cases h : (aja L N v N).findIdx? (fun x => gv x u == (afv L N u v).1) with
  | none => simp
  | some k =>
    have hk := (List.findIdx?_eq_some_iff_getElem.1 h).1
    rw [ag8] at hk
    have := awp (L := L) (exL L N v) (fun n => ieq n (afv L N u v).1) k u 0 [] (by simp)
    exact ⟨this.1, by have := this.2; simp at this; dsimp only; omega⟩
end
def axF (B : acC) (n : Int × Int) (upper : Bool) : List Int :=
 if upper then (aBQ (acy B) ((ack B).length + 1) 0 (amu B n.1 n.2)).1 else (aBQ (acy B) ((ack B).length + 1) (amu B n.1 n.2) 0).1
def aom (B : acC) (n : Int × Int) (upper : Bool) : acC := cutP B (ayX B (axF B n upper)) [n]
def certR (B : acC) (n : Int × Int) (upper : Bool) : aSh := (aom B n upper, n, upper, (if upper then (ivR B n).2 else (ivR B n).1), axF (aom B n upper) n upper)
def aju (b : acC) (n : Int × Int) (upper : Bool) : aSh × Int :=
 if (adm b [n]).2 ≠ 0 then (aQa, (adm b [n]).2) else
 if acN (aom (adm b [n]).1 n upper) ≠ 0 then (aQa, acN (aom (adm b [n]).1 n upper)) else
 if ad5 (acy (aom (adm b [n]).1 n upper)) ((ack (aom (adm b [n]).1 n upper)).length + 1) then (certR (adm b [n]).1 n upper, 0) else (aQa, 9)
theorem aNY {ρ : Type} : @alj ρ = @ac2 ρ := rfl
theorem aOX {ρ : Type} (K : Option ρ) : acp (fun (v23 : Int) kk25 => ali (0 : Int) v23 (fun u24 => kk25 u24) (fun _ => K)) (0 : Int) = K := by
 refine afi (fun x => x = 0) (fun _ => 0) (fun x hx => .inl fun kn => ?_) rfl
 rw [hx]
 rfl
theorem aLP {B : acC} (h : adx B) (hn : ∀ g ∈ B.2.1, I64 g.2.2.2.2.1.1) (n : Int × Int) (upper : Bool) : ahB (B, aBS B) n upper = some (axF B n upper) := by
 unfold ahB amR axF
 rw [aBG h hn, ab8, show (B, aBS B).2 = aBS B from rfl, ayU]
 cases upper with
 | true => rw [aeG, aM4 h.sys (adY B) (adX B n), ab8]; rfl
 | false => rw [acU, aM4 h.sys (adX B n) (adY B), ab8]; rfl
theorem aNW {B : acC} (h : adx B) (n : Int × Int) (upper : Bool) : (∀ i ∈ axF B n upper, 0 ≤ i ∧ i.toNat < (acy B).length) ∧ (axF B n upper).length ≤ 60 := by
 have hN := h.sys.n60
 unfold axF
 split
 ·have := aJD (L := acy B) ((ack B).length + 1) 0 (amu B n.1 n.2)
  exact ⟨this.1, by have := this.2; omega⟩
 ·have := aJD (L := acy B) ((ack B).length + 1) (amu B n.1 n.2) 0
  exact ⟨this.1, by have := this.2; omega⟩
theorem aAS (w : List Int) : ∀ (l : List Cmp) (i : Nat), ∀ c ∈ ase w i l, c ∈ l
 | [], i, c, h => by simp [ase] at h
 | a :: l, i, c, h => by
   simp only [ase] at h
   split at h
   ·rcases List.mem_cons.1 h with h | h
    ·rw [h]; simp
    ·exact List.mem_cons_of_mem _ (aAS w l (i + 1) c h)
   ·exact List.mem_cons_of_mem _ (aAS w l (i + 1) c h)
theorem aSu {b : acC} (h : In b) (ss : List (Int × Int)) {looks : List (Int × Int)} (hl : looks.length ≤ 1000) : In (cutP b ss looks) := by
 obtain ⟨hs, hn⟩ := h
 have g1 := hs.gauges; have g2 := hs.uses; have g3 := hs.loans; have g4 := hs.compares
 unfold cutP
 refine ⟨⟨?_, ?_, ?_, ?_, hl, fun c hc => hs.piles c (aAS _ _ _ c hc)⟩, fun g hg => hn g (List.mem_filter.1 hg).1⟩
 ·exact Nat.le_trans (List.length_filter_le _ _) g1
 ·exact Nat.le_trans (List.length_filter_le _ _) g2
 ·exact Nat.le_trans (List.length_filter_le _ _) g3
 ·exact Nat.le_trans (aAT _ _ _) g4
theorem aOa {b : acC} (hI : In b) (n : Int × Int) (upper : Bool) : ano b n upper = some (aju b n upper) := by
 unfold ano arU aju
 rw [aNY]
 refine (akv hI (ns := [n]) (by simp) (fun e => some (aQa, e)) (fun e he => by rw [adF (by simp [ine, he])]; rfl) (fun z he => by rw [adF (by simp [ine, he])]; rfl) (fun _ _ _ => rfl)).trans ?_
 split
 ·rfl
 ·rename_i e
  have hr := (agC hI (by simpa using e)).1
  dsimp only
  generalize (adm b [n]).1 = B at hr ⊢
  have hci := aNW hr.good n upper
  have hpi : In (aom B n upper) := aSu (hr.good.inn hr.num) _ (by simp)
  rw [ann, show ((((ack B).length : Int) + 1, acy B) : Sys) = aBS B from rfl, aLP hr.good hr.num, ab8, aNa hr.good hr.num (by omega) hci.1, ab8,
   cut_ok hr.good.size (by unfold ayX; rw [List.length_map]; omega) (by simp) (aQZ hr.good hci.1), ab8, show cutP B (ayX B (axF B n upper)) [n] = aom B n upper from rfl, af6 hpi.size hpi.num, ab8]
  by_cases hc : acN (aom B n upper) = 0
  ·have hg := (acQ _).1 hc
   rw [acr (by simp [ine, hc]), if_neg (show ¬ (acN (aom B n upper) ≠ 0) from fun h => h hc)]
   refine (aOX _).trans ?_
   rw [akn hpi, ab8, agj hg, acr (by rfl)]
   dsimp only
   rw [show ((((ack (aom B n upper)).length : Int) + 1, acy (aom B n upper)) : Sys) = aBS (aom B n upper) from rfl, ayU (aom B n upper), au7 hg.sys, ab8]
   cases ho : ad5 (acy (aom B n upper)) ((ack (aom B n upper)).length + 1) with
   | false => rw [if_neg (by simp)]; rfl
   | true =>
     rw [if_pos rfl, ← ayU (aom B n upper), acr (by rfl), aD4 hr, ab8, aLP hg hpi.num, ab8]
     cases upper with
     | true => rw [aeG, auJ hr, ab8]; rfl
     | false => rfl
  ·rw [acD (by simp [ine, hc]), if_pos hc, acD (by simp [ine, hc])]
   rfl
theorem aNT {L : List Lk} {N : Nat} (h : afY L N) (ho : ad5 L N = true) : apn ((N : Int), L) = some ([], 5) := by
 have hN := h.n60
 unfold apn az8
 rw [ahF h, ab8, acr (by rfl), arp h.links h.n1 (by omega), ab8, if_pos ho]
 rfl
theorem aKh {b : acC} (hg : adx b) (hn : ∀ g ∈ b.2.1, I64 g.2.2.2.2.1.1) (ho : ad5 (acy b) ((ack b).length + 1) = true) : auR b = some (aQa, 5) := by
 unfold auR azQ
 rw [akn (hg.inn hn), ab8, agj hg, acr (by rfl), show ((((ack b).length : Int) + 1, acy b), aeF b, (0 : Int)).1 = aBS b from rfl, ayU, aNT hg.sys ho, ab8]
 rfl
end Go.Proofs.ZzM
end
noncomputable section
namespace Go.Proofs.ZzM
open Go Go.Am
theorem aNX {b : acC} (h : In b) (n : Int × Int) (upper : Bool) : In (aju b n upper).1.1 := by
 have h0 : In alB := ⟨⟨by simp [alB], by simp [alB], by simp [alB], by simp [alB], by simp [alB], by simp [alB]⟩, by simp [alB]⟩
 unfold aju
 by_cases e : (adm b [n]).2 = 0
 ·rw [if_neg (by simp [e])]
  have hr := (agC h e).1
  split
  ·exact h0
  ·split
   ·exact aSu (hr.good.inn hr.num) _ (by simp)
   ·exact h0
 ·rw [if_pos e]; exact h0
theorem y1 : amt exB (2, 10) = ((984, 1011), 0) := by decide +kernel
theorem y2 : amt exB (1, 30) = ((964, 1005), 0) := by decide +kernel
theorem y3 : aG7 exB (1, 10) (2, 10) = ((-6, 11), 0) := by decide +kernel
theorem y4 : aTA exB 10 [1, 2] = ((1979, 2018), 0) := by decide +kernel
theorem y5 : aQI exB (2, 0) (990, 1010) = (3, 0) := by decide +kernel
theorem y6 : (aju exB (2, 10) true).2 = 0 ∧ (aju exB (2, 10) true).1.2.2.2.1 = 1011 := by decide +kernel
theorem y7 : aEw exB (2, 10) exC = (10, 0) := by decide +kernel
theorem y8 : ayO exB (2, 10) (900, 1100) exC = (true, 0) := by decide +kernel
theorem y9 : aLF exB (aju exB (2, 10) true).1 = (true, 0) := by decide +kernel
theorem y10 : acN exB = 0 ∧ ad5 (acy exB) ((ack exB).length + 1) = true := by decide +kernel
theorem y11 : ajJ (aju exB (2, 10) true).1 = 0 := by decide +kernel
theorem aDq : afK = some true := by
 unfold afK arE apl aot
 have hc := aNX apt (2, 10) true
 have hv : I64 (aju exB (2, 10) true).1.2.2.2.1 := by rw [y6.2]; unfold I64; omega
 rw [ab8]
 rw [show ((((0 : Int), (2 : Int)), [((1 : Int), (0 : Int), (1000 : Int), ((-5 : Int), (5 : Int)), ((1 : Int), (10 : Int)), (1 : Int)), ((2 : Int), (0 : Int), (1000 : Int), ((-50 : Int), (50 : Int)), ((1 : Int), (4 : Int)), (0 : Int))], [((1 : Int), (10 : Int))], [((1 : Int), ((20 : Int), (29 : Int)), (3 : Int))], [((7 : Int), (10 : Int), [(1 : Int)], [(2 : Int)], (-20 : Int), (1 : Int), (100 : Int), (200 : Int))], ([] : List (Int × Int))) : acC) = exB from rfl]
 rw [ast apt, ab8, ast apt, ab8, aOb apt, ab8, aTz apt _ (by decide), ab8, aSf apt, ab8, aOa apt, ab8, y1, y2, y3, y4, y5, y6.1, y6.2]
 rw [show ahy exB ((2 : Int), (10 : Int)) ((8 : Int), (10 : Int), [(1 : Int)], [(2 : Int)], (0 : Int), (0 : Int), (0 : Int), (0 : Int)) = some (aEw exB (2, 10) exC) from aG1 apt _ (c := exC) (by decide) (by decide),
  show ake exB ((2 : Int), (10 : Int)) ((900 : Int), (1100 : Int)) ((8 : Int), (10 : Int), [(1 : Int)], [(2 : Int)], (0 : Int), (0 : Int), (0 : Int), (0 : Int)) = some (ayO exB (2, 10) (900, 1100) exC) from aN6 apt _ _ (c := exC) (by decide) (by decide),
  aQC apt hc hv, aKh ((acQ _).1 y10.1) apt.num y10.2, axJ hc hv, y7, y8, y9, y11]
 rfl
end Go.Proofs.ZzM
end
noncomputable section
namespace Go.Proofs.ZzM
open Go Go.Am
theorem aQt {ρ : Type} : @arW ρ = @ac2 ρ := rfl
def aMj (l : List Int) (m : Int) : Int := l.foldl min m
theorem aO8 : ∀ (l : List Int) (m : Int), aMj l m ≤ m ∧ (∀ x ∈ l, aMj l m ≤ x) ∧ (aMj l m = m ∨ aMj l m ∈ l)
 | [], m => ⟨Int.le_refl _, fun x h => by simp at h, .inl rfl⟩
 | a :: l, m => by
   obtain ⟨h1, h2, h3⟩ := aO8 l (min m a)
   unfold aMj at *
   rw [List.foldl_cons]
   refine ⟨by omega, fun x hx => ?_, ?_⟩
   ·rcases List.mem_cons.1 hx with rfl | hx
    ·omega
    ·exact h2 x hx
   ·rcases h3 with h3 | h3
    ·by_cases h : m ≤ a
     ·left; omega
     ·right; rw [h3]; simp; omega
    ·right; exact List.mem_cons_of_mem _ h3
theorem aSi {b : acC} (hI : In b) (n : Int × Int) {l : List Cmp} (hl : 0 < l.length ∧ l.length ≤ 5) (hc : ∀ c ∈ l, c.2.2.1.length ≤ 1000 ∧ c.2.2.2.1.length ≤ 1000) :
 ∃ r : Int × Int, ap6 b n l = some r ∧ (r.2 = 0 → (adm b [n]).2 = 0 ∧ (∀ c ∈ l, (acR (adm b [n]).1 c).2 = 0) ∧ ∃ i : Nat, i < l.length ∧ r.1 = i ∧ (∀ (j : Nat) (d e : Cmp), l[i]? = some d → l[j]? = some e → af8 (ae9 (adm b [n]).1 n d) ≤ af8 (ae9 (adm b [n]).1 n e)) ∧ ∀ (j : Nat) (d e : Cmp), j < i → l[i]? = some d → l[j]? = some e → af8 (ae9 (adm b [n]).1 n d) ≠ af8 (ae9 (adm b [n]).1 n e)) := by
 unfold ap6 ayD
 rw [aQt]
 have hopen := fun K => akv (ρ := Int × Int) hI (ns := [n]) (by simp) (E0 := fun r1 => ifb (ine r1 (0 : Int)) (some ((0 : Int), r1)) (ifb (ieq (acv l) (0 : Int)) (some ((0 : Int), (1 : Int))) (acT (igt (acv l) (20 : Int)) (some ((0 : Int), (2 : Int)))))) (E1 := fun z7 => ifb (ine z7.1 (0 : Int)) (some ((0 : Int), z7.1)) (ifb (ieq (acv l) (0 : Int)) (some ((0 : Int), (1 : Int))) (acT (igt (acv l) (20 : Int)) (some ((0 : Int), (2 : Int))))))
  (E2 := fun z8 r9 => ifb (ine r9.2.2 (0 : Int)) (some ((0 : Int), r9.2.2)) (ifb (ieq (acv l) (0 : Int)) (some ((0 : Int), (1 : Int))) (acT (igt (acv l) (20 : Int)) (some ((0 : Int), (2 : Int)))))) (E3 := fun _ _ _ => some ((0 : Int), (9 : Int))) (K := K)
  (fun e => some ((0 : Int), e)) (fun e he => by rw [acD (by simp [ine, he])]) (fun z he => by rw [acD (by simp [ine, he])]) (fun _ _ _ => rfl)
 by_cases ho : (adm b [n]).2 = 0
 case neg => exact ⟨(0, (adm b [n]).2), (hopen _).trans (by rw [if_pos ho]), fun h => absurd h ho⟩
 have hr := (agC hI ho).1
 generalize hB : (adm b [n]).1 = B at hr
 -- the loop: an error, or all worsts
 let worsts : List Int := l.map fun c => af8 (ae9 B n c)
 have hin : ∀ K0 : Int × Int × List Int → Option (Int × Int), ∀ K1 : List Int → Option (Int × Int), acp (fun (v26 : (Val (.pair tI (.slice tI)))) kk29 => ah6 (B, aBS B) l (acv l) n.1 n.2 v26.1 v26.2 (fun u27 u28 => kk29 (u27, u28)) K0 K1) ((0 : Int), []) =
  match l.findIdx? (fun c => decide ((acR B c).2 ≠ 0)) with | some i => K0 (0, (acR B (l[i]?.getD cmp0)).2, (l.take i).map fun c => af8 (ae9 B n c)) | none => K1 worsts := by
  intro K0 K1
  refine afi (fun v => ∃ i : Nat, i ≤ l.length ∧ v = ((i : Int), (l.take i).map fun c => af8 (ae9 B n c)) ∧ ∀ j c, j < i → l[j]? = some c → (acR B c).2 = 0) (fun v => l.length - v.1.toNat) ?_ ⟨0, by omega, rfl, fun j c h => by omega⟩
  rintro v ⟨i, hi, rfl, hall⟩
  rcases Nat.lt_or_ge i l.length with h2 | h2
  ·have hg : l[i]? = some l[i] := List.getElem?_eq_getElem h2
   have hcc := hc l[i] (List.getElem_mem _)
   by_cases hp : (acR B l[i]).2 = 0
   ·refine .inr ⟨((i + 1 : Nat), (l.take (i + 1)).map fun c => af8 (ae9 B n c)), ⟨i + 1, h2, by simp, fun j c hj hjc => by
     rcases Nat.lt_succ_iff_lt_or_eq.1 hj with h | rfl
     ·exact hall j c h hjc
     ·rw [hg] at hjc; cases hjc; exact hp⟩, by simp; omega, fun kn => ?_⟩
    dsimp only
    unfold ah6
    rw [acs h2, acn hg, show (n.1, n.2) = n from rfl, auA hr n hcc.1 hcc.2, ab8]
    unfold awi
    rw [if_neg (by simp [hp]), acr (by rfl), aLL (aEy hp), ab8, adF (acu (by rw [List.length_map, List.length_take]; simp only [List.length_singleton]; omega)), aco h2 (by omega), take_succ hg, List.map_append]
    rfl
   ·refine .inl fun kn => ?_
    have hf : l.findIdx? (fun c => decide ((acR B c).2 ≠ 0)) = some i := by
     rw [List.findIdx?_eq_some_iff_getElem]
     exact ⟨h2, decide_eq_true hp, fun j hj => by have := hall j _ hj (List.getElem?_eq_getElem (by omega)); simp [this]⟩
    rw [hf]
    dsimp only
    unfold ah6
    rw [acs h2, acn hg, show (n.1, n.2) = n from rfl, auA hr n hcc.1 hcc.2, ab8]
    unfold awi
    rw [if_pos hp, acD (bne_iff_ne.2 hp), hg]
    rfl
  ·refine .inl fun kn => ?_
   obtain rfl : i = l.length := by omega
   have hf : l.findIdx? (fun c => decide ((acR B c).2 ≠ 0)) = none := by
    rw [List.findIdx?_eq_none_iff]
    intro c hcm
    obtain ⟨j, hj, rfl⟩ := List.mem_iff_getElem.1 hcm
    have := hall j _ hj (List.getElem?_eq_getElem hj)
    simp [this]
   rw [hf]
   dsimp only
   unfold ah6
   rw [acL, List.take_length]
 have hgo : ∀ r, (match l.findIdx? (fun c => decide ((acR B c).2 ≠ 0)) with | some i => some ((0 : Int), (acR B (l[i]?.getD cmp0)).2) | none => some (((match worsts.findIdx? (· == aMj worsts (worsts[0]?.getD 0)) with | some j => (j : Int) | none => -1) : Int), (0 : Int))) = some r → ap6 b n l = some r := by
  intro r hrr
  unfold ap6 ayD
  rw [aQt]
  refine (hopen _).trans ?_
  rw [if_neg (by simp [ho])]
  dsimp only
  rw [acO, acr (beq_eq_false_iff_ne.2 (by omega)), acr (decide_eq_false (by omega)), hB, ann, show ((((ack B).length : Int) + 1, acy B) : Sys) = aBS B from rfl, ← acO l]
  refine (hin _ _).trans ?_
  rw [← hrr]
  cases hf : l.findIdx? (fun c => decide ((acR B c).2 ≠ 0)) with
  | some i => rfl
  | none =>
    dsimp only
    have hwl : worsts.length = l.length := by simp [worsts]
    have hw0 : worsts[0]? = some (worsts[0]?.getD 0) := by rw [List.getElem?_eq_getElem (by omega)]; rfl
    rw [acO, acr (decide_eq_false (by omega)), adF (decide_eq_true (by show (0 : Int) < (worsts.length : Int); omega)), aky hw0]
    generalize worsts[0]?.getD 0 = w0 at hw0
    refine afi (fun v => ∃ i : Nat, 1 ≤ i ∧ i ≤ worsts.length ∧ v = (aMj (worsts.take i) w0, (i : Int))) (fun v => worsts.length - v.2.toNat) ?_ ⟨1, by omega, by omega, by
     rw [show worsts.take 1 = [w0] by
      rw [take_succ (i := 0) hw0]; rfl]
     simp [aMj]⟩
    rintro v ⟨i, h1, h2, rfl⟩
    rcases Nat.lt_or_ge i worsts.length with h3 | h3
    ·have hg : worsts[i]? = some worsts[i] := List.getElem?_eq_getElem h3
     refine .inr ⟨(aMj (worsts.take (i + 1)) w0, ((i + 1 : Nat) : Int)), ⟨i + 1, by omega, h3, rfl⟩, by simp; omega, fun kn => ?_⟩
     dsimp only
     unfold amT
     rw [acs h3, aMt, acn hg, aco h3 (by omega), awm, take_succ hg]
     unfold aMj
     rw [List.foldl_append]
     rfl
    ·refine .inl fun kn => ?_
     obtain rfl : i = worsts.length := by omega
     dsimp only
     unfold amT
     rw [acL, List.take_length]
     dsimp only
     rw [aJW (by omega), ab8]
     rfl
 cases hf : l.findIdx? (fun c => decide ((acR B c).2 ≠ 0)) with
 | some i =>
   obtain ⟨h1, h2, _⟩ := List.findIdx?_eq_some_iff_getElem.1 hf
   refine ⟨_, hgo _ (by rw [hf]), fun h => ?_⟩
   dsimp only at h
   rw [List.getElem?_eq_getElem h1] at h
   exact absurd h (of_decide_eq_true h2)
 | none =>
   refine ⟨_, hgo _ (by rw [hf]), fun _ => ⟨ho, ?_, ?_⟩⟩
   ·intro c hcm
    have := List.findIdx?_eq_none_iff.1 hf c hcm
    simpa using this
   ·have hwl : worsts.length = l.length := by simp [worsts]
    have hw0 : worsts[0]? = some (worsts[0]?.getD 0) := by rw [List.getElem?_eq_getElem (by omega)]; rfl
    generalize worsts[0]?.getD 0 = w0 at hw0
    obtain ⟨m1, m2, m3⟩ := aO8 worsts w0
    have hmem : aMj worsts w0 ∈ worsts := by
     rcases m3 with h | h
     ·rw [h]; exact List.mem_of_getElem? hw0
     ·exact h
    obtain ⟨k, hk, ek⟩ := List.mem_iff_getElem.1 hmem
    cases hfi : worsts.findIdx? (· == aMj worsts w0) with
    | none => have := List.findIdx?_eq_none_iff.1 hfi _ hmem; simp at this
    | some i =>
      obtain ⟨h1, h2, h3⟩ := List.findIdx?_eq_some_iff_getElem.1 hfi
      have wi : ∀ j d, l[j]? = some d → worsts[j]? = some (af8 (ae9 B n d)) := fun j d hd => by simp only [worsts]; rw [List.getElem?_map, hd]; rfl
      refine ⟨i, by omega, rfl, fun j d e hd he => ?_, fun j d e hj hd he => ?_⟩
      ·have a1 := wi i d hd
       have a2 := wi j e he
       rw [List.getElem?_eq_getElem h1] at a1
       have a3 : worsts[i] = aMj worsts w0 := eq_of_beq h2
       have a4 := m2 _ (List.mem_of_getElem? a2)
       have a5 : worsts[i] = af8 (ae9 B n d) := Option.some.inj a1
       omega
      ·have a1 := wi i d hd
       have a2 := wi j e he
       rw [List.getElem?_eq_getElem h1] at a1
       rw [List.getElem?_eq_getElem (by omega)] at a2
       have a3 : worsts[i] = aMj worsts w0 := eq_of_beq h2
       have a5 : worsts[i] = af8 (ae9 B n d) := Option.some.inj a1
       have a6 : worsts[j] = af8 (ae9 B n e) := Option.some.inj a2
       have a7 := h3 j hj
       intro e0
       apply a7
       rw [beq_iff_eq, a6, ← e0, ← a5, a3]
theorem aQs {b : acC} (hn : ∀ g ∈ b.2.1, I64 g.2.2.2.2.1.1) (n : Int × Int) (l : List Cmp) : akb b n l = some true := by
 unfold akb ajS
 rw [few_ok, ab8, aDq]
 by_cases hf : fewP b = true
 case neg => rw [Bool.eq_false_iff.2 hf]; rfl
 have hI : In b := ⟨aRG hf, hn⟩
 rw [hf, acr (by rfl), acO]
 by_cases h0 : l.length = 0
 ·rw [acD (beq_iff_eq.2 (by omega)), ab8]
 rw [acr (beq_eq_false_iff_ne.2 (by omega))]
 by_cases h5 : 5 < l.length
 ·rw [acD (decide_eq_true (by omega)), ab8]
 rw [acr (decide_eq_false (by omega))]
 have brief_loop : ∀ K : Option Bool, ((∀ c ∈ l, c.2.2.1.length ≤ 1000 ∧ c.2.2.2.1.length ≤ 1000) → K = some true) → acp (fun (v28 : Int) kk30 => aeX l v28 (fun u29 => kk30 u29) (fun z9 => some z9) (fun _ => K)) (0 : Int) = some true := by
  intro K hK
  refine (agq l (fun c => !au4 c) (fun _ => some true) (some true) K (fun _ => rfl) (fun i c hi hc kn => ?_) (fun kn => ?_)).trans ?_
  ·try dsimp only
   unfold aeX
   rw [acs hi, acn hc, aJN, ab8, aDq, ab8, aco hi (by omega), adM]
  ·try dsimp only
   unfold aeX
   rw [acL]
  ·cases hb : l.any fun c => !au4 c with
   | true => rfl
   | false =>
     refine hK fun c hc => ?_
     have := List.any_eq_false.1 hb c hc
     simp [au4] at this
     omega
 refine brief_loop _ fun hc => ?_
 obtain ⟨r, hr, hr1⟩ := aSi hI n (l := l) (by omega) hc
 rw [hr, ab8, ast hI, ab8]
 by_cases e : r.2 = 0
 case neg => rw [acD (bne_iff_ne.2 e), ab8]
 obtain ⟨ho, hp, i, hi, ei, hmin, hfirst⟩ := hr1 e
 have eI : amt b n = (ivR (adm b [n]).1 n, 0) := by unfold amt; rw [if_neg (by simp [ho])]
 have hA := aNj hI ho
 have hnd := hA.nodes n (by simp)
 have eW : ∀ c ∈ l, aEw b n c = (af8 (ae9 (adm b [n]).1 n c), 0) := fun c hcm => by unfold aEw; rw [if_neg (by simp [ho]), if_neg (by simp [hp c hcm])]
 have hR := hA.room
 generalize (adm b [n]).1 = B at hR hnd hp hmin hfirst eI eW
 have hg : l[i]? = some l[i] := List.getElem?_eq_getElem hi
 have hgm := hc _ (List.mem_of_getElem? hg)
 have bd := iv_bd hR n
 rw [acr (by rw [e]; rfl), eI, acr (by rfl), ei, acr (decide_eq_false (by omega)), acr (decide_eq_false (by omega)), acn hg, aG1 hI n hgm.1 hgm.2, ab8, eW _ (List.mem_of_getElem? hg), ab8]
 have pass : ∀ K : Option Bool, acp (fun (v25 : Int) kk27 => aeW l (i : Int) (af8 (ae9 B n l[i])) b.1.1 b.1.2 b.2.1 b.2.2.1 b.2.2.2.1 b.2.2.2.2.1 b.2.2.2.2.2 n.1 n.2 (ivR B n).1 (ivR B n).2 v25 (fun u26 => kk27 u26) (fun z22 => some z22) (fun _ => K)) (0 : Int) = K := by
  intro K
  refine (afS l (fun _ => false) (fun _ => K) K (fun j c hj hcj kn => ?_) (fun kn => ?_)).trans (by rw [List.findIdx?_eq_none_iff.2 (by simp)])
  ·try dsimp only
   unfold aeW
   have hm := List.mem_of_getElem? hcj
   have hcm := hc c hm
   have w1 := hmin j _ c hg hcj
   have w2 : af8 (ae9 B n c) ≤ (ivR B n).2 - (ivR B n).1 ∧ 0 ≤ af8 (ae9 B n c) := by
    have hb := aOK (aok (hp c hm))
    obtain ⟨d, d1, d2, d3⟩ := aQR (ae9 B n c) hb.2.1 (fun d q1 q2 => aLO hR hnd (hp c hm) q1 q2)
    have a1 := aQT hR hnd (hp c hm) d
    have a2 := aLO hR hnd (hp c hm) d1 d2
    omega
   rw [acs hj, acn hcj, show ahy ((b.1.1, b.1.2), b.2.1, b.2.2.1, b.2.2.2.1, b.2.2.2.2.1, b.2.2.2.2.2) (n.1, n.2) c = ahy b n c from rfl, aG1 hI n hcm.1 hcm.2, ab8, eW c hm, acr (by rfl), acr (decide_eq_false (by dsimp only; omega))]
   have tail : (ck ((ivR B n).2 - (ivR B n).1) fun n20 => ifb (igt (af8 (ae9 B n c), (0 : Int)).1 n20) (some false) (ifb (ilt (af8 (ae9 B n c), (0 : Int)).1 (0 : Int)) (some false) (ck ((j : Int) + (1 : Int)) fun n21 => kn n21))) = kn ((j : Int) + 1) := by
    rw [acx (by omega) (by omega), acr (decide_eq_false (by dsimp only; omega)), acr (decide_eq_false (by dsimp only; omega)), aco hj (by omega)]
   rw [if_neg (by simp)]
   by_cases hji : j < i
   ·have w3 := hfirst j _ c hji hg hcj
    rw [acD (decide_eq_true (by omega)), acr (beq_eq_false_iff_ne.2 (by dsimp only; omega))]
    exact tail
   ·rw [acr (decide_eq_false (by omega))]
    exact tail
  ·try dsimp only
   unfold aeW
   rw [acL]
 refine (pass _).trans ?_
 rfl
end Go.Proofs.ZzM
end