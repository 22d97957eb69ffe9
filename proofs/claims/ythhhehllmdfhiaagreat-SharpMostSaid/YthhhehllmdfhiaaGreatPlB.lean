/- lemmas -/
import Derived.Test.YthhhehllmdfhiaaGreatPlA
import Derived.Test.YthhhehllmdfhiaaGreatMdTA
set_option linter.all false
set_option linter.unusedSectionVars false
set_option linter.unusedVariables false
set_option linter.unusedSimpArgs false
noncomputable section
namespace Go.Proofs.ZzM
open Go Go.Am
structure aOB (B : acv) : Prop where
 good : ado B
 op : adF (acs B) ((acg B).length + 1) = true
 num : ∀ g ∈ B.2.1, I64 g.2.2.2.2.1.1
theorem agA {b : acv} (hI : In b) {ns : List (Int × Int)} (e : (ads b ns).2 = 0) : aOB (ads b ns).1 ∧ (ads b ns).1 = (aeA b ns).1 ∧ (aeA b ns).2 = 0 ∧ ado b := by
 unfold ads at e ⊢
 by_cases hc : acz b = 0
 ·rw [if_neg (by simp [hc])] at e ⊢
  by_cases hr : (aeA b ns).2 = 0
  ·rw [if_neg (by simp [hr])] at e ⊢
   cases ho : adF (acs (aeA b ns).1) ((acg (aeA b ns).1).length + 1) with
   | true =>
     rw [if_pos rfl]
     exact ⟨⟨aze ((acr b).1 hc) hr, ho, by rw [amA hr]; exact hI.num⟩, rfl, hr, (acr b).1 hc⟩
   | false => rw [ho] at e; simp at e
  ·rw [if_pos hr] at e; exact absurd e hr
 ·rw [if_pos hc] at e; exact absurd e hc
theorem adM (B : acv) (n : Int × Int) : 0 ≤ amy B n.1 n.2 ∧ amy B n.1 n.2 < ((acg B).length + 1 : Nat) := by
 unfold amy
 cases h : agw (acg B) n.1 n.2 with
 | none => dsimp only; omega
 | some j => have := (ag0 h).1; dsimp only; omega
theorem aBW {B : acv} (h : ado B) (hn : ∀ g ∈ B.2.1, I64 g.2.2.2.2.1.1) (s : Sys) (n : Int × Int) : afa (B, s) n = some (amy B n.1 n.2) := by
 unfold afa arR
 rw [show ady (B, s).1 n = ady B n from rfl, apP (h.inn hn), ab4, anG h]
 split
 ·rename_i e; rw [e]
 ·rfl
theorem aJ3 {B : acv} {L : List Lk} {N : Nat} (h : afu L N) {to from' : Int} (h1 : 0 ≤ to ∧ to < N) (h2 : 0 ≤ from' ∧ from' < N) : ac2 (B, (N : Int), L) to from' = some (afv L N from' to).1 := by
 unfold ac2 ali
 rw [show (B, (N : Int), L).2 = ((N : Int), L) from rfl, ayX h h2 h1, ab4]
def aDy (B : acv) : Sys := (((acg B).length : Int) + 1, acs B)
def aOx (B : acv) (s t : Int) : Int := dst (acs B) ((acg B).length + 1) s t
def ivR (B : acv) (n : Int × Int) : Int × Int := (-(aOx B (amy B n.1 n.2) 0), aOx B 0 (amy B n.1 n.2))
theorem ay1 (B : acv) : aDy B = ((((acg B).length + 1 : Nat) : Int), acs B) := by unfold aDy; push_cast; rfl
theorem adH (B : acv) : 0 ≤ (0 : Int) ∧ (0 : Int) < ((acg B).length + 1 : Nat) := by omega
section
variable {B : acv} (h : aOB B)
include h
theorem apF {s t : Int} (hs : 0 ≤ s ∧ s < ((acg B).length + 1 : Nat)) (ht : 0 ≤ t ∧ t < ((acg B).length + 1 : Nat)) : -9007199254740992 ≤ aOx B s t ∧ aOx B s t ≤ 9007199254740992 :=
 aMZ h.good.sys h.good.tied h.op hs ht
theorem aqk {to from' : Int} (h1 : 0 ≤ to ∧ to < ((acg B).length + 1 : Nat)) (h2 : 0 ≤ from' ∧ from' < ((acg B).length + 1 : Nat)) : ac2 (B, aDy B) to from' = some (aOx B from' to) := by
 rw [ay1, aJ3 h.good.sys h1 h2, aqn h.good.sys h.good.tied h2 h1, if_pos h.op]
 rfl
theorem aEh (n : Int × Int) : ae9 (B, aDy B) n = some (-(aOx B (amy B n.1 n.2) 0)) := by
 unfold ae9 alh
 have hb := apF h (adM B n) (adH B)
 rw [aBW h.good h.num, ab4, aqk h (adH B) (adM B n), ab4, acu (by omega) (by omega)]
 congr 1
 omega
theorem auK (n : Int × Int) : aft (B, aDy B) n = some (aOx B 0 (amy B n.1 n.2)) := by
 unfold aft ah4
 rw [aBW h.good h.num, ab4, aqk h (adM B n) (adH B), ab4]
theorem anp (n : Int × Int) : aew (B, aDy B) n = some (ivR B n) := by
 unfold aew ah3
 rw [aEh h, ab4, auK h, ab4]
 rfl
end
def amx (b : acv) (n : Int × Int) : (Int × Int) × Int := if (ads b [n]).2 ≠ 0 then ((0, 0), (ads b [n]).2) else (ivR (ads b [n]).1 n, 0)
theorem anF {b : acv} (hI : In b) (n : Int × Int) : ag7 b n = some (amx b n) := by
 unfold ag7 aoU amx
 refine (amD hI (ns := [n]) (by simp) (fun e => some (((0, 0) : Int × Int), e)) (fun e he => by rw [adP (by simp [ine, he])]) (fun z he => by rw [adP (by simp [ine, he])]) (fun _ _ _ => rfl)).trans ?_
 split
 ·rfl
 ·rename_i e
  have hr := (agA hI (by simpa using e)).1
  dsimp only
  rw [apv, show ((((acg (ads b [n]).1).length : Int) + 1, acs (ads b [n]).1) : Sys) = aDy (ads b [n]).1 from rfl, anp hr, ab4]
theorem aOr {ρ : Type} : @alq ρ = @ac9 ρ := rfl
theorem aRR {ρ : Type} : @aoT ρ = @ac9 ρ := rfl
def btR (B : acv) (m n : Int × Int) : Int × Int := (-(aOx B (amy B m.1 m.2) (amy B n.1 n.2)), aOx B (amy B n.1 n.2) (amy B m.1 m.2))
def aHl (b : acv) (m n : Int × Int) : (Int × Int) × Int := if (ads b [m, n]).2 ≠ 0 then ((0, 0), (ads b [m, n]).2) else (btR (ads b [m, n]).1 m n, 0)
theorem aOv {b : acv} (hI : In b) (m n : Int × Int) : anu b m n = some (aHl b m n) := by
 unfold anu arZ aHl
 rw [aOr]
 refine (amD hI (ns := [m, n]) (by simp) (fun e => some (((0, 0) : Int × Int), e)) (fun e he => by rw [adP (by simp [ine, he])]) (fun z he => by rw [adP (by simp [ine, he])]) (fun _ _ _ => rfl)).trans ?_
 split
 ·rfl
 ·rename_i e
  have hr := (agA hI (by simpa using e)).1
  dsimp only
  generalize (ads b [m, n]).1 = B at hr ⊢
  have hb := apF hr (adM B m) (adM B n)
  rw [apv, show ((((acg B).length : Int) + 1, acs B) : Sys) = aDy B from rfl, aBW hr.good hr.num, ab4, aBW hr.good hr.num, ab4, aqk hr (adM B n) (adM B m), ab4,
   acu (by omega) (by omega), aqk hr (adM B m) (adM B n), ab4]
  unfold btR
  rw [Int.zero_sub]
def adI (s l : Int × Int) : Int := if l.1 ≤ s.1 ∧ s.2 ≤ l.2 then 1 else if s.2 < l.1 ∨ l.2 < s.1 then 2 else 3
theorem aDv (s l : Int × Int) : ake s l = some (adI s l) := by
 unfold ake arP adI
 simp only [adX, ile, ilt, decide_eq_true_eq]
 by_cases h1 : l.1 ≤ s.1 <;> by_cases h2 : s.2 ≤ l.2 <;> by_cases h3 : s.2 < l.1 <;> by_cases h4 : l.2 < s.1 <;> simp [h1, h2, h3, h4]
def aKb (b : acv) (n l : Int × Int) : Int × Int := if (ads b [n]).2 ≠ 0 then (0, (ads b [n]).2) else if l.2 < l.1 then (0, 1) else (adI (ivR (ads b [n]).1 n) l, 0)
theorem aHh {b : acv} (hI : In b) (n l : Int × Int) : apx b n l = some (aKb b n l) := by
 unfold apx azX aKb
 rw [aRR]
 refine (amD hI (ns := [n]) (by simp) (fun e => some ((0 : Int), e)) (fun e he => by rw [acB (by simp [ine, he])]) (fun z he => by rw [acB (by simp [ine, he])]) (fun _ _ _ => rfl)).trans ?_
 split
 ·rfl
 ·rename_i e
  have hr := (agA hI (by simpa using e)).1
  dsimp only
  by_cases hl : l.2 < l.1
  ·rw [acB (by simp [igt, hl]), if_pos hl]
  ·rw [aco (by simp [igt]; omega), if_neg hl, apv, show ((((acg (ads b [n]).1).length : Int) + 1, acs (ads b [n]).1) : Sys) = aDy (ads b [n]).1 from rfl, anp hr, ab4, aDv, ab4]
end Go.Proofs.ZzM
end
noncomputable section
namespace Go.Proofs.ZzM
open Go Go.Am
def aB4 (x y : List Int) : List Int × List Int × Int := if !ajn x then ([], [], 1) else if !ajn y then ([], [], 1) else (adb x y, adb y x, 0)
theorem aKf {x y : List Int} (hx : x.length ≤ 100000) (hy : y.length ≤ 100000) : amt x y = some (aB4 x y) := by
 unfold amt awd aB4
 rw [auD (by omega), ab4]
 cases ajn x with
 | false => rfl
 | true =>
   rw [auD (by omega), ab4]
   cases ajn y with
   | false => rfl
   | true =>
     rw [alx (by omega) (by omega), ab4, alx (by omega) (by omega), ab4]
     rfl
end Go.Proofs.ZzM
end
noncomputable section
namespace Go.Proofs.ZzM
open Go Go.Am
theorem aJE (ls : List (List Int)) (i : Nat) : (ls.take i).flatten.length ≤ ls.flatten.length := by
 conv => rhs; rw [← List.take_append_drop i ls, List.flatten_append, List.length_append]
 omega
theorem ajP {ls : List (List Int)} (hl : ls.length ≤ 1000000) (hf : ls.flatten.length ≤ 1000000) : acG ls = some ls.flatten := by
 have hk : ∀ n : Nat, n ≤ 4000000 → ∀ (f : Int → Option (List Int)), ck (n : Int) f = f n := fun n h f => acu (by omega) (by omega) f
 have second : acm (fun (v9 : (Val (.pair tI (.slice tI)))) kk12 => acK ls (acD ls) v9.1 v9.2 (fun u10 u11 => kk12 (u10, u11)) (fun z8 => some z8)) ((0 : Int), ([] : List Int)) = some ls.flatten := by
  refine adg ls (fun i => (ls.take i).flatten) (some ls.flatten) (f := fun (v9 : (Val (.pair tI (.slice tI)))) kk12 => acK ls (acD ls) v9.1 v9.2 (fun u10 u11 => kk12 (u10, u11)) (fun z8 => some z8)) rfl (fun i x hi hx kn => ?_) (fun kn => ?_)
  ·try dsimp only
   unfold acK
   have h1 := aJE ls (i + 1)
   rw [take_succ hx, List.flatten_append, List.length_append] at h1
   simp only [List.flatten_cons, List.flatten_nil, List.append_nil] at h1
   rw [acp hi, acj hx, acl hi (by omega), take_succ hx, List.flatten_append]
   have : acP ((List.take i ls).flatten.length + x.length) = true := acq (by omega)
   rw [adP this]
   simp
  ·try dsimp only
   unfold acK
   rw [acN]
   simp
 unfold acG af1
 refine afk (fun x : Int × Int => ∃ i : Nat, i ≤ ls.length ∧ x = (((ls.take i).flatten.length : Int), (i : Int))) (fun x => ls.length - x.2.toNat) ?_ ⟨0, by omega, rfl⟩
 rintro x ⟨i, hi, rfl⟩
 rcases Nat.lt_or_ge i ls.length with h2 | h2
 ·refine .inr ⟨(((ls.take (i + 1)).flatten.length : Int), (i : Int) + 1), ⟨i + 1, h2, by simp⟩, by simp; omega, fun kn => ?_⟩
  obtain ⟨x, hx⟩ : ∃ x, ls[i]? = some x := ⟨_, List.getElem?_eq_getElem h2⟩
  have h1 := aJE ls (i + 1)
  rw [take_succ hx, List.flatten_append, List.length_append] at h1
  simp only [List.flatten_cons, List.flatten_nil, List.append_nil] at h1
  try dsimp only
  unfold adz
  rw [acp h2, acj hx, acQ]
  have e1 : (((List.take i ls).flatten.length : Int) + (x.length : Int)) = ((List.take i ls).flatten.length + x.length : Nat) := by omega
  rw [e1, hk _ (by omega)]
  have : ilt ((((List.take i ls).flatten.length + x.length : Nat)) : Int) 0 = false := by simp [ilt]; omega
  rw [aco this, acl h2 (by omega), take_succ hx]
  simp
 ·refine .inl fun kn => ?_
  obtain rfl : i = ls.length := by omega
  try dsimp only
  unfold adz
  rw [acN, List.take_length]
  have e2 : ilt ((ls.flatten.length : Nat) : Int) 0 = false := decide_eq_false (by omega)
  dsimp only
  rw [aco e2, Int.sub_zero, hk _ (by omega)]
  rcases Nat.eq_zero_or_pos ls.flatten.length with h0 | h0
  ·have : igt (ls.flatten.length : Int) 0 = false := decide_eq_false (by omega)
   rw [aco this]
   exact second
  ·have : igt (ls.flatten.length : Int) 0 = true := decide_eq_true (by omega)
   rw [acB this]
   have : ((ilt (0 : Int) (ls.flatten.length : Int)) && (acP (Int.toNat (ls.flatten.length : Int)))) = true := by
    rw [Int.toNat_natCast, acq (by omega), Bool.and_true]
    exact decide_eq_true (by omega)
   rw [adP this]
   have : ile 0 (adK (List.replicate (Int.toNat (ls.flatten.length : Int)) (0 : Int))) = true := decide_eq_true (Int.natCast_nonneg _)
   rw [adP this]
   exact second
def onP (day : Int) (ids : List Int) : List (Int × Int) := ids.map fun id => (id, day)
theorem aOU {day : Int} {ls : List (List Int)} (hl : ls.length ≤ 1000000) (hf : ls.flatten.length ≤ 1000000) : auP day ls = some (onP day ls.flatten) := by
 unfold auP azL
 rw [ajP hl hf, ab4]
 refine adg ls.flatten (fun i => onP day (ls.flatten.take i)) _ rfl (fun i x hi hx kn => ?_) (fun kn => ?_)
 ·try dsimp only
  unfold akE
  rw [acp hi, acj hx, acl hi (by omega), take_succ hx]
  have : acP (List.length (onP day (ls.flatten.take i)) + List.length ([(x, day)])) = true := acq (by simp [onP]; omega)
  rw [adP this]
  simp [onP]
 ·try dsimp only
  unfold akE
  rw [acN, List.take_length]
theorem aRm {l : List Int} (hl : l.length ≤ 100000) (m : Int) : ayR l m = some (ajn l && decide ((l.length : Int) ≤ m)) := by
 unfold ayR aFp
 rw [aKf hl (by simp), ab4]
 have e0 : ajn [] = true := by decide
 unfold aB4
 rw [e0, acQ]
 cases ajn l <;> rfl
theorem aS7 (n : Int) : auQ n = some (aLz n) := by
 unfold auQ azQ aLz inP
 rw [adX]
 by_cases h : 0 ≤ n
 ·rw [if_pos (by simpa [ige] using h)]; simp [h]
 ·rw [if_neg (by simpa [ige] using h)]; simp [h]
theorem aRW {ρ α : Type} (l : List α) (i : Int) (f : α → Option ρ) : acX ((ile (0 : Int) i) && (ilt i (adK l))) (afz l (Int.toNat i) f) = adU l i f := by
 unfold adU
 by_cases h0 : 0 ≤ i
 ·by_cases h1 : i < l.length
  ·have e : ((ile (0 : Int) i) && (ilt i (adK l))) = true := by simp [ile, ilt, h0, h1]
   rw [adP e]
   simp only [h0, decide_true]
   unfold afz
   rfl
  ·have e : ((ile (0 : Int) i) && (ilt i (adK l))) = false := by simp [ile, ilt, h1]
   rw [e]
   simp only [h0, decide_true]
   rw [List.getElem?_eq_none (by omega)]
   rfl
 ·have e : ((ile (0 : Int) i) && (ilt i (adK l))) = false := by simp [ile, ilt, h0]
  rw [e]
  simp only [h0, decide_false]
  rfl
theorem aTf {ρ : Type} (ns : List (Int × Int)) (n : Int) : @amV ρ ns n = @ac9 ρ n ns := by
 funext v0 v1 v2 v3 v4 v5 v6 v7 kn k0 k1
 unfold amV ac9
 rw [aRW]
def aMa (B : acv) (ns : List (Int × Int)) (s : Int × Int) : Int × Int := ns.foldl (fun s n => (s.1 + (ivR B n).1, s.2 + (ivR B n).2)) s
def pileR (B : acv) (f : Int × Int) (ns : List (Int × Int)) : Int × Int := aMa B ns (((ns.length : Int) - 1) * f.1, ((ns.length : Int) - 1) * f.2)
def aTX (b : acv) (day : Int) (ids : List Int) : (Int × Int) × Int :=
 if acz b ≠ 0 then ((0, 0), acz b) else if ids.length = 0 ∨ ajn ids = false ∨ aLz day = false then ((0, 0), 1) else
 if (ads b (onP day ids)).2 ≠ 0 then ((0, 0), (ads b (onP day ids)).2) else (pileR (ads b (onP day ids)).1 b.1 (onP day ids), 0)
theorem aKp (B : acv) (x y : List (Int × Int)) (s : Int × Int) : aMa B (x ++ y) s = aMa B y (aMa B x s) := by unfold aMa; rw [List.foldl_append]
theorem aOQ {B : acv} (h : aOB B) : ∀ (ns : List (Int × Int)) (s : Int × Int) (m : Int), -m ≤ s.1 ∧ s.1 ≤ m → -m ≤ s.2 ∧ s.2 ≤ m →
 (-(m + ns.length * 9007199254740992) ≤ (aMa B ns s).1 ∧ (aMa B ns s).1 ≤ m + ns.length * 9007199254740992) ∧ (-(m + ns.length * 9007199254740992) ≤ (aMa B ns s).2 ∧ (aMa B ns s).2 ≤ m + ns.length * 9007199254740992)
 | [], s, m, h1, h2 => by unfold aMa; simp; omega
 | n :: t, s, m, h1, h2 => by
   have b1 := apF h (adM B n) (adH B)
   have b2 := apF h (adH B) (adM B n)
   have := aOQ h t (s.1 + (ivR B n).1, s.2 + (ivR B n).2) (m + 9007199254740992) (by unfold ivR; dsimp only; omega) (by unfold ivR; dsimp only; omega)
   show (-(m + ((n :: t).length : Nat) * 9007199254740992) ≤ (aMa B t _).1 ∧ _) ∧ _
   unfold aMa at this ⊢
   simp only [List.foldl_cons, List.length_cons]
   push_cast
   omega
theorem aTW {b : acv} (hI : In b) (day : Int) {ids : List Int} (hl : ids.length ≤ 1000) : ayS b day ids = some (aTX b day ids) := by
 unfold ayS aFP aTX
 rw [af5 hI.size hI.num, ab4, aRm (by omega), ab4, aS7, ab4, acQ]
 by_cases hc : acz b = 0
 ·rw [aco (by simp [ine, hc]), if_neg (show ¬ (acz b ≠ 0) from fun h => h hc)]
  by_cases h0 : ids.length = 0
  ·rw [acB (by simp [ieq, h0]), if_pos (.inl h0)]
  ·rw [aco (beq_eq_false_iff_ne.2 (by omega))]
   by_cases h1 : ajn ids = true
   ·have hp := (aHR ids).1 h1
    have e1 : (ajn ids && decide ((ids.length : Int) ≤ 6)) = true := by rw [h1]; simp; omega
    rw [e1, aco (by rfl)]
    by_cases h2 : aLz day = true
    ·have hg := (acr b).1 hc
     rw [aco (by rw [h2]; rfl), if_neg (by simp [h0, h1, h2]), aOU (by simp) (by simp; omega), ab4]
     have hlen : (onP day ids).length = ids.length := by simp [onP]
     rw [show ([ids] : List (List Int)).flatten = ids by simp, aTf, ← af5 hI.size hI.num]
     refine (amD hI (ns := onP day ids) (by omega) (fun e => some (((0, 0) : Int × Int), e)) (fun e he => by rw [acB (by simp [ine, he])]) (fun z he => by rw [acB (by simp [ine, he])]) (fun _ _ _ => rfl)).trans ?_
     split
     ·rfl
     ·rename_i e
      have hr := (agA hI (by simpa using e)).1
      have hf := hg.film
      dsimp only
      generalize (ads b (onP day ids)).1 = B at hr ⊢
      have hm : ∀ x : Int, 0 ≤ x → x ≤ 1000000 → 0 ≤ ((ids.length : Int) - 1) * x ∧ ((ids.length : Int) - 1) * x ≤ 10000000 := by
       intro x h0 h1
       have : ((ids.length : Int) - 1) * x ≤ 5 * 1000000 := Int.mul_le_mul (by omega) h1 h0 (by omega)
       exact ⟨Int.mul_nonneg (by omega) h0, by omega⟩
      have m1 := hm b.1.1 (by omega) (by omega)
      have m2 := hm b.1.2 (by omega) (by omega)
      rw [acu (by omega) (by omega), acu (by omega) (by omega), acu (by omega) (by omega), apv, show ((((acg B).length : Int) + 1, acs B) : Sys) = aDy B from rfl]
      unfold pileR
      rw [hlen]
      refine adg (onP day ids) (fun i => aMa B ((onP day ids).take i) (((ids.length : Int) - 1) * b.1.1, ((ids.length : Int) - 1) * b.1.2)) _ rfl (fun i n hi hn kn => ?_) (fun kn => ?_)
      ·try dsimp only
       unfold amU
       have b1 := apF hr (adM B n) (adH B)
       have b2 := apF hr (adH B) (adM B n)
       have bs := aOQ hr ((onP day ids).take i) (((ids.length : Int) - 1) * b.1.1, ((ids.length : Int) - 1) * b.1.2) 10000000 (by dsimp only; omega) (by dsimp only; omega)
       have bl : (((onP day ids).take i).length : Int) ≤ 6 := by rw [List.length_take]; omega
       rw [acp hi, acj hn, anp hr, ab4, take_succ hn, aKp]
       generalize aMa B ((onP day ids).take i) (((ids.length : Int) - 1) * b.1.1, ((ids.length : Int) - 1) * b.1.2) = s at bs ⊢
       unfold ivR
       dsimp only
       rw [acu (by omega) (by omega), acu (by omega) (by omega), acl hi (by omega)]
       rfl
      ·try dsimp only
       unfold amU
       rw [acN, List.take_length]
    ·have h2' : aLz day = false := by simpa using h2
     rw [h2', acB (by rfl), if_pos (.inr (.inr rfl))]
   ·have h1' : ajn ids = false := by simpa using h1
    rw [h1', acB (by rfl), if_pos (.inr (.inl rfl))]
 ·rw [acB (by simp [ine, hc]), if_pos hc]
theorem akd {α : Type} (p : α → Bool) (l : List α) (i : Nat) : ((l.take i).filter p).length ≤ l.length := by
 have h1 := List.length_filter_le p (l.take i)
 rw [List.length_take] at h1
 omega
end Go.Proofs.ZzM
end
noncomputable section
namespace Go.Proofs.ZzM
open Go Go.Am
def aOV (f : Int → Int → Int) (z : Int) (l : List Int) (d : Int) : Int := match l with | [] => z | x :: _ => f x d
def akr (f : Int → Int → Int) (z : Int) (c : Cmp) : Int := aOV f z (adb c.2.2.1 c.2.2.2.1) c.2.1 - aOV f z (adb c.2.2.2.1 c.2.2.1) c.2.1
structure aT1 (b : acv) (f : Int → Int → Int) (z : Int) (g : acS) : Prop where
 hi : f g.1 g.2.1 ≤ z + (g.2.2.1 + g.2.2.2.1.2)
 lo : z + (g.2.2.1 + g.2.2.2.1.1) ≤ f g.1 g.2.1
 down : ∀ d e, g.2.1 ≤ d → d ≤ e → f g.1 e ≤ f g.1 d
 loss : ∀ d e, g.2.1 ≤ d → d ≤ e → f g.1 d ≤ f g.1 e + agV b g d e
structure aEN (b : acv) (f : Int → Int → Int) (z : Int) : Prop where
 gauge : ∀ g ∈ b.2.1, aT1 b f z g
 cmp : ∀ c ∈ b.2.2.2.2.1, (ad3 b c).1 ≤ akr f z c ∧ akr f z c ≤ (ad3 b c).2
theorem aJH {b : acv} (h : ado b) {p : Int → Int} (hg : ∀ g ∈ b.2.1, akp b p g) : ∃ f : Int → Int → Int, (∀ g ∈ b.2.1, aT1 b f (p 0) g) ∧ ∀ g ∈ b.2.1, ∀ d ∈ acy b g, f g.1 d = p (aeE b g.1 d) := by
 let f : Int → Int → Int := fun id d => match ahy b id with | some g => fill b p g d | none => 0
 have hfv : ∀ g ∈ b.2.1, ∀ d, f g.1 d = fill b p g d := fun g hgm d => by
  show (match ahy b g.1 with | some g => fill b p g d | none => 0) = _
  rw [asl h.ids hgm]
 refine ⟨f, fun g hgm => ?_, fun g hgm d hd => by rw [hfv g hgm]; exact ayP h hgm (hg g hgm) hd⟩
 have gf := hg g hgm
 have e0 : f g.1 g.2.1 = p (aeE b g.1 g.2.1) := by rw [hfv g hgm]; exact ayP h hgm gf (aiv g)
 refine ⟨by rw [e0]; exact gf.hi, by rw [e0]; exact gf.lo, fun d e h0 hde => ?_, fun d e h0 hde => ?_⟩
 ·rw [hfv g hgm, hfv g hgm]
  exact (auM h hgm gf h0 hde).1
 ·rw [hfv g hgm, hfv g hgm]
  exact (auM h hgm gf h0 hde).2
theorem aHC {b : acv} {f : Int → Int → Int} {p : Int → Int} (hm : ∀ g ∈ b.2.1, ∀ d ∈ acy b g, f g.1 d = p (aeE b g.1 d)) {l : List Int} {day : Int} (hl : ∀ x ∈ l, ∃ g ∈ b.2.1, g.1 = x ∧ day ∈ acy b g) : p (ayp b l day) = aOV f (p 0) l day := by
 cases l with
 | nil => rfl
 | cons x t =>
   obtain ⟨g, q1, rfl, q3⟩ := hl x (by simp)
   exact (hm g q1 day q3).symm
theorem aBy {b : acv} {f : Int → Int → Int} {p : Int → Int} (hm : ∀ g ∈ b.2.1, ∀ d ∈ acy b g, f g.1 d = p (aeE b g.1 d)) {c : Cmp}
 (hl : ∀ x, x ∈ adb c.2.2.1 c.2.2.2.1 ∨ x ∈ adb c.2.2.2.1 c.2.2.1 → ∃ g ∈ b.2.1, g.1 = x ∧ c.2.1 ∈ acy b g) : p (cx b c) - p (cy b c) = akr f (p 0) c := by
 unfold akr
 rw [awy, awx, aHC hm (fun x hx => hl x (.inl hx)), aHC hm (fun x hx => hl x (.inr hx))]
theorem aDJ {b : acv} (h : ado b) (f : Int → Int → Int) (z : Int) {l : List Int} {day : Int} (hl : ∀ x ∈ l, ∃ g ∈ b.2.1, g.1 = x ∧ day ∈ acy b g) : azj b f z (ayp b l day) = aOV f z l day := by
 rw [awF h f z hl]
 unfold aOV
 cases l <;> rfl
theorem azi {b : acv} (h : ado b) {f : Int → Int → Int} {z : Int} {c : Cmp} (hl : ∀ x, x ∈ adb c.2.2.1 c.2.2.2.1 ∨ x ∈ adb c.2.2.2.1 c.2.2.1 → ∃ g ∈ b.2.1, g.1 = x ∧ c.2.1 ∈ acy b g) : azj b f z (cx b c) - azj b f z (cy b c) = akr f z c := by
 unfold akr
 rw [awy, awx, aDJ h f z (fun x hx => hl x (.inl hx)), aDJ h f z (fun x hx => hl x (.inr hx))]
theorem aDI {b : acv} (h : ado b) {f : Int → Int → Int} {z : Int} {g : acS} (hg : g ∈ b.2.1) (hh : aT1 b f z g) : akp b (azj b f z) g := by
 have q : ∀ d ∈ acy b g, azj b f z (aeE b g.1 d) = f g.1 d := fun d hd => aor h f z hg hd
 have e0 := q g.2.1 (aiv g)
 refine ⟨?_, ?_, fun d e hd he hde => ?_, fun d e hd he hde => ?_⟩
 ·rw [e0, aix]; exact hh.hi
 ·rw [e0, aix]; exact hh.lo
 ·rw [q d hd, q e he]; exact hh.down d e (h.day hg hd).1 hde
 ·rw [q d hd, q e he]; exact hh.loss d e (h.day hg hd).1 hde
section
variable {b : acv} {c : Cmp}
theorem aMk (h : ado b) {p : Int → Int} (hp : Pot (acs b) p) : ∃ f, aEN b f (p 0) ∧ ∀ g ∈ b.2.1, ∀ d ∈ acy b g, f g.1 d = p (aeE b g.1 d) := by
 obtain ⟨hg, hc⟩ := (aE4 h).1 hp
 obtain ⟨f, hf, hm⟩ := aJH h hg
 refine ⟨f, ⟨hf, fun c hcm => ?_⟩, hm⟩
 have := aBy hm (c := c) (fun x hx => aju h hcm hx)
 have := hc c hcm
 omega
theorem aMJ (h : ado b) {f : Int → Int → Int} {z : Int} (hh : aEN b f z) : Pot (acs b) (azj b f z) := by
 refine (aE4 h).2 ⟨fun g hg => aDI h hg (hh.gauge g hg), fun c hc => ?_⟩
 have := azi (f := f) (z := z) h (c := c) (fun x hx => aju h hc hx)
 have := hh.cmp c hc
 omega
theorem aM0 (h : ado b) {d : Cmp} (hd : d ∈ b.2.2.2.2.1) : ∀ x, x ∈ adb d.2.2.1 d.2.2.2.1 ∨ x ∈ adb d.2.2.2.1 d.2.2.1 → ∃ g ∈ (acn b c).2.1, g.1 = x ∧ d.2.1 ∈ acy (acn b c) g := by
 intro x hx
 obtain ⟨g, q1, q2, q3⟩ := aju h hd hx
 exact ⟨g, q1, q2, aiV q3⟩
theorem aP2 (h : ado b) (h' : ado (acn b c)) {p : Int → Int} (hp : Pot (acF (acn b c)) p) : ∃ f, aEN b f (p 0) ∧ p (cx (acn b c) c) - p (cy (acn b c) c) = akr f (p 0) c := by
 obtain ⟨hg, hc⟩ := (ayO h').1 hp
 obtain ⟨f, hf, hm⟩ := aJH h' hg
 refine ⟨f, ⟨fun g hgm => ?_, fun d hd => ?_⟩, aBy hm fun x hx => aju h' ajp hx⟩
 ·have := hf g hgm
  exact ⟨this.hi, this.lo, this.down, this.loss⟩
 ·have := aBy hm (c := d) (aM0 h hd)
  have := hc d hd
  omega
theorem aJw (h : ado b) (h' : ado (acn b c)) {f : Int → Int → Int} {z : Int} (hh : aEN b f z) : Pot (acF (acn b c)) (azj (acn b c) f z) ∧ azj (acn b c) f z (cx (acn b c) c) - azj (acn b c) f z (cy (acn b c) c) = akr f z c := by
 refine ⟨(ayO h').2 ⟨fun g hg => aDI h' hg ?_, fun d hd => ?_⟩, azi h' fun x hx => aju h' ajp hx⟩
 ·have := hh.gauge g hg
  exact ⟨this.hi, this.lo, this.down, this.loss⟩
 ·have := azi (f := f) (z := z) h' (c := d) (aM0 h hd)
  have := hh.cmp d hd
  omega
theorem azw (h : ado b) : adF (acs b) ((acg b).length + 1) = true ↔ ∃ f z, aEN b f z := by
 have := h.sys.n60
 rw [aeD h.sys.links (by omega)]
 constructor
 ·rintro ⟨p, hp⟩
  obtain ⟨f, hf, _⟩ := aMk h hp
  exact ⟨f, _, hf⟩
 ·rintro ⟨f, z, hh⟩
  exact ⟨_, aMJ h hh⟩
theorem d_max (h : ado b) (h' : ado (acn b c)) {f : Int → Int → Int} {z : Int} (hh : aEN b f z) : dLo b c ≤ akr f z c ∧ akr f z c ≤ dHi b c := by
 have ho : adF (acF (acn b c)) ((acg (acn b c)).length + 1) = true := by rw [ahw h h']; exact (azw h).2 ⟨f, z, hh⟩
 obtain ⟨hp, hd⟩ := aJw h h' hh
 have a1 := ass (afK h') (afR h') ho (aob h') (aoa h') hp
 have a2 := ass (afK h') (afR h') ho (aoa h') (aob h') hp
 unfold dLo dHi
 omega
theorem d_all (h : ado b) (h' : ado (acn b c)) (ho : adF (acs b) ((acg b).length + 1) = true) {t : Int} (h1 : dLo b c ≤ t) (h2 : t ≤ dHi b c) : ∃ f z, aEN b f z ∧ akr f z c = t := by
 rw [← ahw h h'] at ho
 obtain ⟨p, hp, hd⟩ := aQk (afK h') (afR h') ho (aob h') (aoa h') h1 h2
 obtain ⟨f, hf, he⟩ := aP2 h h' hp
 exact ⟨f, _, hf, by rw [← he]; exact hd⟩
theorem aTH (h : ado b) (h' : ado (acn b c)) (ho : adF (acs b) ((acg b).length + 1) = true) : dLo b c ≤ dHi b c := by
 rw [← ahw h h'] at ho
 exact aBw (afK h') (afR h') ho (aob h') (aoa h')
theorem ayA (b : acv) (c : Cmp) : (ad3 b c).1 = c.2.2.2.2.1 - aid b c ∧ (ad3 b c).2 = c.2.2.2.2.1 - awe b c := by
 unfold ad3 aid awe
 constructor
 ·simp only; omega
 ·simp only; omega
theorem auJ {d : Cmp} {f : Int → Int → Int} {z : Int} : aEN (acn b d) f z ↔ aEN b f z ∧ (ad3 b d).1 ≤ akr f z d ∧ akr f z d ≤ (ad3 b d).2 := by
 constructor
 ·intro h
  exact ⟨⟨fun g hg => by have := h.gauge g hg; exact ⟨this.hi, this.lo, this.down, this.loss⟩, fun c hc => h.cmp c (List.mem_append.2 (.inl hc))⟩, h.cmp d ajp⟩
 ·rintro ⟨h, hd⟩
  refine ⟨fun g hg => by have := h.gauge g hg; exact ⟨this.hi, this.lo, this.down, this.loss⟩, fun c hc => ?_⟩
  rcases List.mem_append.1 (show c ∈ b.2.2.2.2.1 ++ [d] from hc) with hc | hc
  ·exact h.cmp c hc
  ·rw [List.mem_singleton] at hc
   subst hc
   exact hd
structure Pred (b : acv) (c : Cmp) (s : Int × Int) : Prop where
 good : ado b
 good2 : ado (acn b (ab7 c))
 order : awe b c ≤ aid b c
 has : ∃ f z, aEN b f z
 ends : s.1 - awe b c ≤ s.2 - aid b c
 bd : -9007199254740992 ≤ s.1 - awe b c ∧ s.2 - aid b c ≤ 9007199254740992
 all : ∀ f z, aEN b f z → s.1 - awe b c ≤ akr f z c ∧ akr f z c ≤ s.2 - aid b c
 each : ∀ t, s.1 - awe b c ≤ t → t ≤ s.2 - aid b c → ∃ f z, aEN b f z ∧ akr f z c = t
theorem aku (hp : (acw b c).2 = 0) : Pred b c (acw b c).1 := by
 obtain ⟨h, h'⟩ := agr hp
 rw [aB2 h h'] at hp ⊢
 by_cases ho : adF (acs b) ((acg b).length + 1) = true
 ·rw [if_pos ho] at hp ⊢
  obtain ⟨h1, h2⟩ := aKr hp
  rw [h2]
  have e1 : awe b (ab7 c) = awe b c := rfl
  have e2 : aid b (ab7 c) = aid b c := rfl
  rw [e1, e2] at *
  have s1 : dLo b (ab7 c) + awe b c - awe b c = dLo b (ab7 c) := by omega
  have s2 : dHi b (ab7 c) + aid b c - aid b c = dHi b (ab7 c) := by omega
  refine ⟨h, h', h1, (azw h).1 ho, ?_, ?_, fun f z hh => ?_, fun t t1 t2 => ?_⟩
  ·simp only
   rw [s1, s2]
   exact aTH h h' ho
  ·simp only
   rw [s1, s2]
   rw [← ahw h h'] at ho
   have a1 := aMZ (afK h') (afR h') ho (aob h') (aoa h')
   have a2 := aMZ (afK h') (afR h') ho (aoa h') (aob h')
   unfold dLo dHi
   omega
  ·simp only
   rw [s1, s2]
   exact d_max (c := ab7 c) h h' hh
  ·simp only at t1 t2
   rw [s1] at t1
   rw [s2] at t2
   exact d_all (c := ab7 c) h h' ho t1 t2
 ·rw [if_neg ho] at hp
  simp at hp
end
end Go.Proofs.ZzM
end
noncomputable section
namespace Go.Proofs.ZzM
open Go Go.Am
theorem aET {b : acv} (h : ado b) : (aeM b).length = (acs b).length := by
 have g0 : ∀ i, ((b.2.1.take i).mapIdx (adA b)).flatten.length = ((b.2.1.take i).flatMap (ac6 b)).length := by
  intro i
  induction i with
  | zero => simp
  | succ i ih =>
    rcases Nat.lt_or_ge i b.2.1.length with hi | hi
    ·have hg : b.2.1[i]? = some b.2.1[i] := List.getElem?_eq_getElem hi
     rw [ahW _ hg, take_succ hg, List.flatMap_append, List.flatten_append, List.length_append, List.length_append, ih]
     congr 1
     unfold adA ac6
     simp only [List.flatMap_cons, List.flatMap_nil, List.append_nil, List.flatten_cons, List.flatten_nil, List.length_append]
     rw [agK _ _ (fun _ => rfl), agK _ _ (fun _ => rfl)]
     rfl
    ·rw [List.take_of_length_le (by omega)] at ih ⊢
     exact ih
 have c0 := aOq (b := b) b.2.2.2.2.1.length (Nat.le_refl _)
 have g1 := g0 b.2.1.length
 rw [List.take_length] at c0 g1
 unfold aeM acs
 rw [List.length_append, List.length_append, g1, c0.1, c0.2]
theorem aJx {b : acv} : ∀ s ∈ (b.2.1.mapIdx (adA b)).flatten, (s.1 = 1 ∨ s.1 = 2) ∧ 0 ≤ s.2 ∧ s.2 < b.2.1.length := by
 intro s hs
 obtain ⟨l, hl, hm⟩ := List.mem_flatten.1 hs
 obtain ⟨i, hi, rfl⟩ := List.mem_iff_getElem.1 hl
 rw [List.length_mapIdx] at hi
 rw [List.getElem_mapIdx] at hm
 unfold adA at hm
 rcases List.mem_append.1 hm with h | h
 ·simp at h; subst h; exact ⟨.inl rfl, by dsimp only; omega, by dsimp only; omega⟩
 ·obtain ⟨_, _, h⟩ := List.mem_flatMap.1 h
  simp at h; subst h; exact ⟨.inr rfl, by dsimp only; omega, by dsimp only; omega⟩
theorem aJO {l : List Cmp} : ∀ s ∈ (l.mapIdx fun i (_ : Cmp) => [((3 : Int), (i : Int)), ((3 : Int), (i : Int))]).flatten, s.1 = 3 ∧ 0 ≤ s.2 ∧ s.2 < l.length := by
 intro s hs
 obtain ⟨m, hl, hm⟩ := List.mem_flatten.1 hs
 obtain ⟨i, hi, rfl⟩ := List.mem_iff_getElem.1 hl
 rw [List.length_mapIdx] at hi
 rw [List.getElem_mapIdx] at hm
 simp at hm; subst hm
 exact ⟨rfl, by dsimp only; omega, by dsimp only; omega⟩
theorem aRJ (b : acv) (c : Cmp) : ∃ S : List (Int × Int), aeM (acn b c) = S ++ [(3, (b.2.2.2.2.1.length : Int)), (3, (b.2.2.2.2.1.length : Int))] ∧ ∀ s ∈ S, ¬ (s.1 = 3 ∧ s.2 = (b.2.2.2.2.1.length : Int)) := by
 refine ⟨((acn b c).2.1.mapIdx (adA (acn b c))).flatten ++ (b.2.2.2.2.1.mapIdx fun i (_ : Cmp) => [((3 : Int), (i : Int)), ((3 : Int), (i : Int))]).flatten, ?_, fun s hs => ?_⟩
 ·unfold aeM
  rw [show (acn b c).2.2.2.2.1 = b.2.2.2.2.1 ++ [c] from rfl, List.mapIdx_append, List.flatten_append, List.append_assoc]
  simp
 ·rcases List.mem_append.1 hs with h | h
  ·have := aJx s h; omega
  ·have := aJO s h; omega
theorem awi (b : acv) (c : Cmp) (h : ado (acn b c)) : acs (acn b c) = acF (acn b c) ++ [(cy (acn b c) c, cx (acn b c) c, (ad3 (acn b c) c).2), (cx (acn b c) c, cy (acn b c) c, -(ad3 (acn b c) c).1)] := by
 rw [aBb]
 unfold acs
 rw [show (acn b c).2.2.2.2.1 = b.2.2.2.2.1 ++ [c] from rfl, List.flatMap_append, List.append_assoc]
 simp [acU]
def aQ8 (b : acv) (c : Cmp) (s t : Int) : Int := dst (acF (acn b c)) ((acg (acn b c)).length + 1) s t
abbrev End : Type := Int × Int × Int
abbrev ahF : Type := (Int × Int) × End × End
def aSO (b : acv) (c : Cmp) (s t : Int) : End :=
 (aQ8 b c s t, aQ8 b c s (cy (acn b c) c) + (ad3 b c).2 + aQ8 b c (cx (acn b c) c) t, aQ8 b c s (cx (acn b c) c) - (ad3 b c).1 + aQ8 b c (cy (acn b c) c) t)
def worth0 : ahF := ((0, 0), (0, 0, 0), (0, 0, 0))
def acW (b : acv) (n : Int × Int) (c : Cmp) : ahF :=
 ((acw b c).1, aSO b (ab7 c) 0 (amy (acn b (ab7 c)) n.1 n.2), aSO b (ab7 c) (amy (acn b (ab7 c)) n.1 n.2) 0)
def aGL (b : acv) (n : Int × Int) (c : Cmp) : ahF × Int := if (acw b c).2 ≠ 0 then (worth0, (acw b c).2) else (acW b n c, 0)
theorem aos {b : acv} {c : Cmp} (h : (acw b c).2 = 0) : adF (acs b) ((acg b).length + 1) = true := by
 obtain ⟨g1, g2⟩ := agr h
 rw [aB2 g1 g2] at h
 by_cases ho : adF (acs b) ((acg b).length + 1) = true
 ·exact ho
 ·rw [if_neg ho] at h; cases h
section
variable {b : acv} {c : Cmp} (h : ado b) (h' : ado (acn b c)) (ho : adF (acs b) ((acg b).length + 1) = true)
include h h' ho
theorem aly {s t : Int} (hs : 0 ≤ s ∧ s < ((acg (acn b c)).length + 1 : Nat)) (ht : 0 ≤ t ∧ t < ((acg (acn b c)).length + 1 : Nat)) : -9007199254740992 ≤ aQ8 b c s t ∧ aQ8 b c s t ≤ 9007199254740992 :=
 aMZ (afK h') (afR h') (by rw [ahw h h']; exact ho) hs ht
theorem ami (B : acv) {s t : Int} (hs : 0 ≤ s ∧ s < ((acg (acn b c)).length + 1 : Nat)) (ht : 0 ≤ t ∧ t < ((acg (acn b c)).length + 1 : Nat)) : ac2 (B, (((acg (acn b c)).length : Int) + 1, acF (acn b c))) t s = some (aQ8 b c s t) := by
 rw [show (((acg (acn b c)).length : Int) + 1) = (((acg (acn b c)).length + 1 : Nat) : Int) by push_cast; rfl, aJ3 (afK h') ht hs, aqn (afK h') (afR h') hs ht, if_pos (by rw [ahw h h']; exact ho)]
 rfl
theorem aOZ : (-4503599627370496 ≤ (ad3 b c).1 ∧ (ad3 b c).1 ≤ 4503599627370496) ∧ (-4503599627370496 ≤ (ad3 b c).2 ∧ (ad3 b c).2 ≤ 4503599627370496) := by
 have hs := h'.sys
 have e := awi b c h'
 have m1 := hs.most (cy (acn b c) c, cx (acn b c) c, (ad3 (acn b c) c).2) (by rw [e]; simp)
 have m2 := hs.most (cx (acn b c) c, cy (acn b c) c, -(ad3 (acn b c) c).1) (by rw [e]; simp)
 have e2 : ad3 (acn b c) c = ad3 b c := rfl
 rw [e2] at m1 m2
 dsimp only at m1 m2
 omega
theorem aMW (B : acv) {s t : Int} (hs : 0 ≤ s ∧ s < ((acg (acn b c)).length + 1 : Nat)) (ht : 0 ≤ t ∧ t < ((acg (acn b c)).length + 1 : Nat)) :
 aiR t s (B, (((acg (acn b c)).length : Int) + 1, acF (acn b c))) (cy (acn b c) c) (ad3 b c) (cx (acn b c) c) = some (aSO b c s t) := by
 have hx := aob h'
 have hy := aoa h'
 have b1 := aly h h' ho hs ht
 have b2 := aly h h' ho hs hy
 have b3 := aly h h' ho hx ht
 have b4 := aly h h' ho hs hx
 have b5 := aly h h' ho hy ht
 have b6 := aOZ h h' ho
 unfold aiR aoN
 rw [ami h h' ho B hs ht, ab4, ami h h' ho B hs hy, ab4, acu (by omega) (by omega), ami h h' ho B hx ht, ab4, acu (by omega) (by omega), ami h h' ho B hs hx, ab4, acu (by omega) (by omega), ami h h' ho B hy ht, ab4, acu (by omega) (by omega)]
 rfl
end
theorem aHQ {B : acv} (h : ado B) (hn : ∀ g ∈ B.2.1, I64 g.2.2.2.2.1.1) (s : Sys) (l : List Int) (c : Cmp) : aiS l (B, s) c = some (atP (acg B) l c.2.1) := by
 unfold aiS aoO
 cases l with
 | nil => rw [acQ]; rfl
 | cons x t =>
   rw [acQ, aco (beq_eq_false_iff_ne.2 (by simp; omega)), show (0 : Int) = ((0 : Nat) : Int) from rfl, acj (show (x :: t)[0]? = some x from rfl), aBW h hn, ab4]
   rfl
theorem aP7 {ρ : Type} {b : acv} {c : Cmp} (h : ado (acn b c)) (K : List Lk → Option ρ) :
 acm (fun (v17 : Val aci) kk20 => ahr (b.2.2.2.2.1.length : Int) (aeM (acn b c)) (acs (acn b c)) (acD (acs (acn b c))) v17.1 v17.2 (fun u18 u19 => kk20 (u18, u19)) K) ((0 : Int), []) = K (acF (acn b c)) := by
 have hl3 := h.sys.len
 have hsl := aET h
 obtain ⟨S, hS, hSk⟩ := aRJ b c
 have hL := awi b c h
 have hSl : S.length = (acF (acn b c)).length := by
  rw [hS, hL, List.length_append, List.length_append] at hsl
  simpa using hsl
 generalize acF (acn b c) = H at hL hSl ⊢
 rw [hS]
 generalize acs (acn b c) = L at hL hsl hl3 ⊢
 have hLl : L.length = H.length + 2 := by rw [hL]; simp
 refine adg L (fun i => (L.take i).take H.length) _ (by simp) (fun i l hi hl kn => ?_) (fun kn => ?_)
 ·try dsimp only
  unfold ahr
  rw [acp hi, acj hl]
  rcases Nat.lt_or_ge i H.length with h1 | h1
  ·have hs : (S ++ [((3 : Int), (b.2.2.2.2.1.length : Int)), (3, (b.2.2.2.2.1.length : Int))])[i]? = some S[i] := by
    rw [List.getElem?_append_left (by omega), List.getElem?_eq_getElem]
   have hk := hSk S[i] (List.getElem_mem _)
   have e : ((aeN (S[i]).1 (3 : Int)) && ((aeN (S[i]).2 (b.2.2.2.2.1.length : Int)) && true)) = false := by
    simp [aeN]; omega
   have e1 : (L.take i).take H.length = L.take i := List.take_of_length_le (by rw [List.length_take]; omega)
   have e2 : (L.take (i + 1)).take H.length = L.take (i + 1) := List.take_of_length_le (by rw [List.length_take]; omega)
   rw [acj hs, e, acB (by rfl), e1, e2, adP (acq (by rw [List.length_take]; simp; omega)), acl hi (by omega), take_succ hl]
  ·have hs : (S ++ [((3 : Int), (b.2.2.2.2.1.length : Int)), (3, (b.2.2.2.2.1.length : Int))])[i]? = some ((3 : Int), (b.2.2.2.2.1.length : Int)) := by
    rw [List.getElem?_append_right (by omega)]
    have : i - S.length = 0 ∨ i - S.length = 1 := by omega
    rcases this with e | e <;> rw [e] <;> rfl
   have e : ((aeN (3 : Int) (3 : Int)) && ((aeN (b.2.2.2.2.1.length : Int) (b.2.2.2.2.1.length : Int)) && true)) = true := by simp [aeN]
   have e1 : (L.take i).take H.length = (L.take (i + 1)).take H.length := by
    rw [List.take_take, List.take_take]
    congr 1
    omega
   rw [acj hs]
   dsimp only
   rw [e, aco (by rfl), acl hi (by omega), e1]
 ·try dsimp only
  unfold ahr
  rw [acN, List.take_length, hL]
  simp
theorem aJm {B : acv} (hr : aOB B) (n : Int × Int) {c : Cmp} (hA : c.2.2.1.length ≤ 1000) (hB : c.2.2.2.1.length ≤ 1000) : amm (B, aDy B) n c = some (aGL B n c) := by
 unfold amm avx aGL
 have hs := hr.good.size
 rw [show (B, aDy B).1 = B from rfl, aEL hs hr.num hA hB, ab4]
 by_cases hp : (acw B c).2 = 0
 ·obtain ⟨g1, g2⟩ := agr hp
  have ho := aos hp
  have e1 : aoi B (ab7 c) = (acn B (ab7 c), 0) := by
   unfold aoi
   rw [if_neg (by simp [(acr B).2 g1]), if_neg (by simp [(acr _).2 g2])]
  have hn2 : ∀ g ∈ (acn B (ab7 c)).2.1, I64 g.2.2.2.2.1.1 := hr.num
  have hC := g2.nC
  have hw : (((acn B (ab7 c)).2.2.2.2.1.length : Int) - 1) = (B.2.2.2.2.1.length : Int) := by simp [acn]
  have hSays : aSz (acn B (ab7 c)) (B.2.2.2.2.1.length : Int) = (ad3 B (ab7 c), 0) := by
   have e : alH (acn B (ab7 c)) (B.2.2.2.2.1.length : Int) = (ab7 c, 0) := by
    unfold alH
    rw [if_neg (by simp [(acr _).2 g2]), if_neg (by simp [acn]; omega)]
    simp [acn]
   unfold aSz
   rw [e, if_neg (by simp)]
   rfl
  have hCancel : aB4 c.2.2.1 c.2.2.2.1 = (adb c.2.2.1 c.2.2.2.1, adb c.2.2.2.1 c.2.2.1, 0) := by
   have hnu := (ahi _).1 (g2.nums (ajp (c := ab7 c)))
   have h6 : ajn c.2.2.1 = true ∧ ajn c.2.2.2.1 = true := ⟨hnu.2.2.2.2.2.1, hnu.2.2.2.2.2.2⟩
   unfold aB4
   rw [h6.1, h6.2]
   rfl
  rw [aco (by rw [hp]; rfl), if_neg (by simp [hp]), show ahD B (c.1, c.2.1, c.2.2.1, c.2.2.2.1, (0 : Int), c.2.2.2.2.2) = ahD B (ab7 c) from rfl, aLR hs hr.num (c := ab7 c) hA hB, ab4, e1]
  dsimp only
  rw [aco (by rfl), acQ, hw, acu (by omega) (by omega), aTV (g2.inn hn2), ab4, hSays, aKf (by omega) (by omega), ab4, hCancel, ako (g2.inn hn2), ab4, agj g2]
  dsimp only
  refine (aP7 g2 _).trans ?_
  have ex : cx (acn B (ab7 c)) (ab7 c) = atP (acg (acn B (ab7 c))) (adb c.2.2.1 c.2.2.2.1) c.2.1 := rfl
  have ey : cy (acn B (ab7 c)) (ab7 c) = atP (acg (acn B (ab7 c))) (adb c.2.2.2.1 c.2.2.1) c.2.1 := rfl
  rw [aHQ g2 hn2, ab4, aHQ g2 hn2, ab4, aBW g2 hn2, ab4, ← ex, ← ey, aMW g1 g2 ho _ (adH _) (adM _ n), ab4, aMW g1 g2 ho _ (adM _ n) (adH _), ab4]
  rfl
 ·rw [acB (bne_iff_ne.2 hp), if_pos hp]
  rfl
end Go.Proofs.ZzM
end
noncomputable section
namespace Go.Proofs.ZzM
open Go Go.Am
theorem aO1 {α : Type} [DecidableEq α] {l m : List α} (hl : l.length = m.length) (h : aeS (fun i a => if m[i]? = some a then none else some false) 0 l = none) : l = m := by
 have := aif.1 h
 refine List.ext_getElem hl fun i h1 h2 => ?_
 have h3 := this i l[i] (List.getElem?_eq_getElem h1)
 rw [Nat.zero_add] at h3
 split at h3
 ·rename_i h4
  rw [List.getElem?_eq_getElem h2] at h4
  exact (Option.some.inj h4).symm
 ·cases h3
theorem aO0 {α : Type} [DecidableEq α] {l m : List α} {b : Bool} (h : aeS (fun i a => if m[i]? = some a then none else some false) 0 l = some b) : b = false ∧ l ≠ m := by
 constructor
 ·have : ∀ (k : Nat) (x : List α) (b : Bool), aeS (fun i a => if m[i]? = some a then none else some false) k x = some b → b = false := by
   intro k x
   induction x generalizing k with
   | nil => intro b h; cases h
   | cons a t ih =>
     intro b h
     unfold aeS at h
     split at h
     ·rename_i c hc
      split at hc
      ·cases hc
      ·cases hc; cases h; rfl
     ·exact ih _ _ h
  exact this _ _ _ h
 ·intro e
  subst e
  rw [aif.2 fun j a ha => by rw [Nat.zero_add, if_pos ha]] at h
  cases h
end Go.Proofs.ZzM
end
noncomputable section
namespace Go.Proofs.ZzM
open Go Go.Am
section
variable {b : acv} {c d : Cmp} {s : Int × Int}
theorem aO8 (h : Pred b c s) (hd : ab7 d = ab7 c) (h' : ado (acn b d)) : adF (acs (acn b d)) ((acg (acn b d)).length + 1) = true ↔ s.1 ≤ d.2.2.2.2.1 ∧ d.2.2.2.2.1 ≤ s.2 := by
 have e1 : awe b d = awe b c := show awe b (ab7 d) = awe b (ab7 c) by rw [hd]
 have e2 : aid b d = aid b c := show aid b (ab7 d) = aid b (ab7 c) by rw [hd]
 have e3 : ∀ f z, akr f z d = akr f z c := fun f z => show akr f z (ab7 d) = akr f z (ab7 c) by rw [hd]
 obtain ⟨l1, l2⟩ := ayA b d
 rw [e2] at l1
 rw [e1] at l2
 rw [azw h']
 constructor
 ·rintro ⟨f, z, hf⟩
  obtain ⟨h1, h2⟩ := auJ.1 hf
  have a := h.all f z h1
  rw [e3] at h2
  omega
 ·rintro ⟨h1, h2⟩
  have o := h.order
  have n := h.ends
  obtain ⟨f, z, hf, ht⟩ := h.each (max (s.1 - awe b c) (d.2.2.2.2.1 - aid b c)) (by omega) (by omega)
  refine ⟨f, z, auJ.2 ⟨hf, ?_⟩⟩
  rw [e3]
  omega
theorem aO9 (h : Pred b c s) : -10000000000000000 ≤ s.1 ∧ s.1 ≤ s.2 ∧ s.2 ≤ 10000000000000000 := by
 have q := h.good2.cmp (ajp (c := ab7 c))
 obtain ⟨_, _, b1, b2, b3⟩ := awP (b := b) h.good.film (c := ab7 c) ⟨q.nums, q.r1, q.r2⟩
 have e1 : awe b c = aBI (adV b (ab7 c)).1 + (ag6 b (ab7 c)).1 - (ab7 c).2.2.2.2.2.1 := rfl
 have e2 : aid b c = (adV b (ab7 c)).2.1 / (adV b (ab7 c)).2.2 + (ag6 b (ab7 c)).2 + (ab7 c).2.2.2.2.2.1 := rfl
 have o := h.order
 have n := h.ends
 have bd := h.bd
 omega
end
end Go.Proofs.ZzM
end
noncomputable section
namespace Go.Proofs.ZzM
open Go Go.Am
def acY (e : End) : List Int := [e.1 - e.2.1, e.2.2 - e.1, Int.tdiv (e.2.2 - e.2.1) 2, Int.tdiv (e.2.2 - e.2.1) 2 - 1, Int.tdiv (e.2.2 - e.2.1) 2 + 1]
def ag1 (e : End) (n : Int) : List Int := [n - e.2.1, e.2.2 - n]
def atE (e : End) (d : Int) : Int := min e.1 (min (e.2.1 + d) (e.2.2 - d))
def adE (w : ahF) (d : Int) : Int × Int := (-(atE w.2.2 d), atE w.2.1 d)
def aN3 (r : Int × Int) (n : Int) : List Int := [n - 2, n - 1, n, n + 1, n + 2].filter fun d => decide (r.1 < d) && decide (d < r.2)
def alc (r : Int × Int) (l : List Int) : List Int := [r.1, r.2] ++ l.flatMap (aN3 r)
def aDu (w : ahF) (l : List Int) : Int := l.foldl (fun m d => max m ((adE w d).2 - (adE w d).1)) (-1)
def aqA (w : ahF) : Int := aDu w (alc w.1 (acY w.2.1 ++ acY w.2.2))
def Sm (n : Int) : Prop := -100000000000000000 ≤ n ∧ n ≤ 100000000000000000
structure aHi (e : End) : Prop where
 s : Sm e.1
 u : Sm e.2.1
 d : Sm e.2.2
structure aHe (w : ahF) : Prop where
 lo : Sm w.1.1
 hi : Sm w.1.2
 high : aHi w.2.1
 low : aHi w.2.2
theorem asB (n : Int) : -1 ≤ n - 2 * Int.tdiv n 2 ∧ n - 2 * Int.tdiv n 2 ≤ 1 := by
 have h1 := Int.tmod_add_mul_tdiv n 2
 have h2 := Int.tmod_two_eq n
 omega
theorem ayv {e : End} (h : aHi e) : afL e = some (acY e) := by
 obtain ⟨⟨a1, a2⟩, ⟨b1, b2⟩, c1, c2⟩ := h
 have h2 := asB (e.2.2 - e.2.1)
 unfold afL amP
 rw [acu (by omega) (by omega), acu (by omega) (by omega), acu (by omega) (by omega), acu (by omega) (by omega), acu (by omega) (by omega), acu (by omega) (by omega)]
 rfl
theorem ayH {e : End} (h : aHi e) {n : Int} (hn : -1000000000000000000 ≤ n ∧ n ≤ 1000000000000000000) : afM e n = some (ag1 e n) := by
 obtain ⟨⟨a1, a2⟩, ⟨b1, b2⟩, c1, c2⟩ := h
 unfold afM amQ
 rw [acu (by omega) (by omega), acu (by omega) (by omega)]
 rfl
theorem aSY {e : End} (h : aHi e) {d : Int} (hd : Sm d) : amn e d = some (atE e d) := by
 obtain ⟨⟨a1, a2⟩, ⟨b1, b2⟩, c1, c2⟩ := h
 obtain ⟨d1, d2⟩ := hd
 unfold amn avA
 rw [acu (by omega) (by omega), acu (by omega) (by omega), aA9, aA9]
 unfold atE
 congr 1
 omega
theorem aJ7 {e : End} (h : aHi e) {d : Int} (hd : Sm d) : -200000000000000000 ≤ atE e d ∧ atE e d ≤ 100000000000000000 := by
 obtain ⟨⟨a1, a2⟩, ⟨b1, b2⟩, c1, c2⟩ := h
 obtain ⟨d1, d2⟩ := hd
 unfold atE
 omega
theorem aOT {w : ahF} (h : aHe w) {d : Int} (hd : Sm d) : ad4 w d = some (adE w d) := by
 unfold ad4 alf
 have b1 := aJ7 h.low hd
 rw [aSY h.low hd, ab4, acu (by omega) (by omega), aSY h.high hd, ab4]
 unfold adE
 rw [Int.zero_sub]
theorem aR0 (r : Int × Int) (n : Int) : (aN3 r n).length ≤ 5 := List.length_filter_le _ _
theorem aBj (r : Int × Int) : ∀ l : List Int, (l.flatMap (aN3 r)).length ≤ l.length * 5
 | [] => by simp
 | n :: l => by
   have h1 := aR0 r n
   have h2 := aBj r l
   rw [List.flatMap_cons, List.length_append, List.length_cons]
   omega
theorem aTp {ρ : Type} (r : Int × Int) {n : Int} (hn : -4000000000000000000 ≤ n ∧ n ≤ 4000000000000000000) {out : List Int} (ho : out.length ≤ 1000) (K : List Int → Option ρ) :
 acm (fun (v9 : (Val (.pair tI (.slice tI)))) kk12 => afq n r.1 r.2 v9.1 v9.2 (fun u10 u11 => kk12 (u10, u11)) K) (n - 2, out) = K (out ++ aN3 r n) := by
 let five : List Int := [n - 2, n - 1, n, n + 1, n + 2]
 have hg : ∀ (i : Nat), i < 5 → five[i]? = some (n - 2 + i) := by
  intro i hi
  have : i = 0 ∨ i = 1 ∨ i = 2 ∨ i = 3 ∨ i = 4 := by omega
  rcases this with rfl | rfl | rfl | rfl | rfl <;> simp only [five, List.getElem?_cons_zero, List.getElem?_cons_succ] <;> congr 1 <;> omega
 refine afk (fun v => ∃ i : Nat, i ≤ 5 ∧ v = (n - 2 + (i : Int), out ++ (five.take i).filter fun d => decide (r.1 < d) && decide (d < r.2))) (fun v => (n + 3 - v.1).toNat) ?_ ⟨0, by omega, by simp⟩
 rintro v ⟨i, hi, rfl⟩
 rcases Nat.lt_or_ge i 5 with h5 | h5
 ·refine .inr ⟨(n - 2 + ((i + 1 : Nat) : Int), out ++ (five.take (i + 1)).filter fun d => decide (r.1 < d) && decide (d < r.2)), ⟨i + 1, h5, rfl⟩, by dsimp only; omega, fun kn => ?_⟩
  have hl : ((five.take i).filter fun d => decide (r.1 < d) && decide (d < r.2)).length ≤ 5 := akd _ five i
  dsimp only
  unfold afq
  rw [acu (by omega) (by omega), acB (decide_eq_true (by omega)), take_succ (hg i h5), List.filter_append]
  have e0 : n - 2 + (i : Int) + 1 = n - 2 + ((i + 1 : Nat) : Int) := by push_cast; omega
  by_cases h1 : r.1 < n - 2 + (i : Int)
  ·rw [acB (show igt (n - 2 + (i : Int)) r.1 = true from decide_eq_true h1)]
   by_cases h2 : n - 2 + (i : Int) < r.2
   ·rw [acB (show ilt (n - 2 + (i : Int)) r.2 = true from decide_eq_true h2), adP (acq (by rw [List.length_append]; simp only [List.length_singleton]; omega)), acu (by omega) (by omega), e0]
    simp [h1, h2]
   ·rw [aco (show ilt (n - 2 + (i : Int)) r.2 = false from decide_eq_false h2), acu (by omega) (by omega), e0]
    simp [h1, h2]
  ·rw [aco (show igt (n - 2 + (i : Int)) r.1 = false from decide_eq_false h1), acu (by omega) (by omega), e0]
   simp [h1]
 ·refine .inl fun kn => ?_
  obtain rfl : i = 5 := by omega
  dsimp only
  unfold afq
  rw [acu (by omega) (by omega), aco (decide_eq_false (by omega))]
  rfl
theorem aPw (w : ahF) {l : List Int} (hl : l.length ≤ 100) (hn : ∀ n ∈ l, -2000000000000000000 ≤ n ∧ n ≤ 2000000000000000000) : agD w l = some (alc w.1 l) := by
 unfold agD alg
 refine adg l (fun i => [w.1.1, w.1.2] ++ (l.take i).flatMap (aN3 w.1)) _ rfl (fun i n hi ha kn => ?_) (fun kn => ?_)
 ·try dsimp only
  unfold agn
  have hb := hn n (List.mem_of_getElem? ha)
  have h5 := aBj w.1 (l.take i)
  have ht : (l.take i).length ≤ 100 := by rw [List.length_take]; omega
  rw [acp hi, acj ha, acu (by omega) (by omega)]
  refine (aTp w.1 (by omega) (by rw [List.length_append]; simp only [List.length_cons, List.length_nil]; omega) _).trans ?_
  rw [acl hi (by omega), take_succ ha, List.flatMap_append, List.append_assoc]
  simp
 ·try dsimp only
  unfold agn
  rw [acN, List.take_length]
  rfl
theorem ahj {r : Int × Int} {l : List Int} {d : Int} : d ∈ alc r l ↔ d = r.1 ∨ d = r.2 ∨ (r.1 < d ∧ d < r.2 ∧ ∃ n ∈ l, n - 2 ≤ d ∧ d ≤ n + 2) := by
 unfold alc aN3
 simp only [List.mem_append, List.mem_cons, List.not_mem_nil, or_false, List.mem_flatMap, List.mem_filter, Bool.and_eq_true, decide_eq_true_eq]
 constructor
 ·rintro ((h | h) | ⟨n, hn, h, h1, h2⟩)
  ·exact .inl h
  ·exact .inr (.inl h)
  ·exact .inr (.inr ⟨h1, h2, n, hn, by omega, by omega⟩)
 ·rintro (h | h | ⟨h1, h2, n, hn, h3, h4⟩)
  ·exact .inl (.inl h)
  ·exact .inl (.inr h)
  ·exact .inr ⟨n, hn, by omega, h1, h2⟩
theorem aMw (r : Int × Int) {l : List Int} (hl : l.length ≤ 100) : (alc r l).length ≤ 600 := by
 have := aBj r l
 unfold alc
 rw [List.length_append]
 simp only [List.length_cons, List.length_nil]
 omega
theorem aPv {w : ahF} (h : aHe w) {l : List Int} : ∀ d ∈ alc w.1 l, Sm d := by
 intro d hd
 obtain ⟨a1, a2⟩ := h.lo
 obtain ⟨b1, b2⟩ := h.hi
 rcases ahj.1 hd with h | h | ⟨h1, h2, _⟩
 ·rw [h]; exact ⟨a1, a2⟩
 ·rw [h]; exact ⟨b1, b2⟩
 ·exact ⟨by omega, by omega⟩
theorem ayw {e : End} (h : aHi e) : ∀ n ∈ acY e, -1000000000000000000 ≤ n ∧ n ≤ 1000000000000000000 := by
 obtain ⟨⟨a1, a2⟩, ⟨b1, b2⟩, c1, c2⟩ := h
 have h2 := asB (e.2.2 - e.2.1)
 intro n hn
 unfold acY at hn
 simp only [List.mem_cons, List.not_mem_nil, or_false] at hn
 omega
theorem aRb {w : ahF} (h : aHe w) : ahz w = some (aqA w) := by
 unfold ahz ajX
 have hl : ([acY w.2.1, acY w.2.2] : List (List Int)).flatten = acY w.2.1 ++ acY w.2.2 := by simp
 have hll : (acY w.2.1 ++ acY w.2.2).length = 10 := rfl
 rw [ayv h.high, ab4, ayv h.low, ab4, ajP (by simp) (by rw [hl, hll]; omega), ab4, hl, aPw w (by rw [hll]; omega) (fun n hn => by
  rcases List.mem_append.1 hn with hn | hn
  ·have := ayw h.high n hn; omega
  ·have := ayw h.low n hn; omega), ab4]
 have hnl := aMw w.1 (l := acY w.2.1 ++ acY w.2.2) (by rw [hll]; omega)
 have hsm := aPv h (l := acY w.2.1 ++ acY w.2.2)
 unfold aqA
 generalize alc w.1 (acY w.2.1 ++ acY w.2.2) = l at hnl hsm ⊢
 refine afk (fun v => ∃ i : Nat, i ≤ l.length ∧ v = (aDu w (l.take i), (i : Int))) (fun v => l.length - v.2.toNat) ?_ ⟨0, by omega, rfl⟩
 rintro v ⟨i, hi, rfl⟩
 rcases Nat.lt_or_ge i l.length with h2 | h2
 ·have ha : l[i]? = some l[i] := List.getElem?_eq_getElem h2
  have hs := hsm l[i] (List.getElem_mem _)
  generalize l[i] = d at ha hs
  refine .inr ⟨(aDu w (l.take (i + 1)), ((i + 1 : Nat) : Int)), ⟨i + 1, h2, rfl⟩, by dsimp only; omega, fun kn => ?_⟩
  dsimp only
  unfold af2
  have b1 := aJ7 h.low hs
  have b2 := aJ7 h.high hs
  rw [acp h2, acj ha, show ad4 ((w.1.1, w.1.2), (w.2.1.1, w.2.1.2.1, w.2.1.2.2), w.2.2.1, w.2.2.2.1, w.2.2.2.2) d = ad4 w d from rfl, aOT h hs, ab4, acu (by unfold adE; dsimp only; omega) (by unfold adE; dsimp only; omega), acl h2 (by omega), aGO, take_succ ha]
  unfold aDu
  rw [List.foldl_append]
  rfl
 ·refine .inl fun kn => ?_
  obtain rfl : i = l.length := by omega
  dsimp only
  unfold af2
  rw [acN, List.take_length]
theorem aEO {b : acv} {n : Int × Int} {c : Cmp} (hp : (acw b c).2 = 0) : aHe (acW b n c) := by
 obtain ⟨g1, g2⟩ := agr hp
 have ho := aos hp
 have hb := aO9 (aku hp)
 have hx := aob g2
 have hy := aoa g2
 have b6 := aOZ g1 g2 ho
 have key : ∀ {s t : Int}, 0 ≤ s ∧ s < ((acg (acn b (ab7 c))).length + 1 : Nat) → 0 ≤ t ∧ t < ((acg (acn b (ab7 c))).length + 1 : Nat) → aHi (aSO b (ab7 c) s t) := by
  intro s t hs ht
  have b1 := aly g1 g2 ho hs ht
  have b2 := aly g1 g2 ho hs hy
  have b3 := aly g1 g2 ho hx ht
  have b4 := aly g1 g2 ho hs hx
  have b5 := aly g1 g2 ho hy ht
  unfold aSO
  exact ⟨⟨by dsimp only; omega, by dsimp only; omega⟩, ⟨by dsimp only; omega, by dsimp only; omega⟩, by dsimp only; omega, by dsimp only; omega⟩
 exact ⟨⟨by show _ ≤ (acw b c).1.1; omega, by show (acw b c).1.1 ≤ _; omega⟩, ⟨by show _ ≤ (acw b c).1.2; omega, by show (acw b c).1.2 ≤ _; omega⟩, key (adH _) (adM _ n), key (adM _ n) (adH _)⟩
def axK (b : acv) (n : Int × Int) (c : Cmp) : Int × Int :=
 if (ads b [n]).2 ≠ 0 then (0, (ads b [n]).2) else if (acw (ads b [n]).1 c).2 ≠ 0 then (0, (acw (ads b [n]).1 c).2) else (aqA (acW (ads b [n]).1 n c), 0)
theorem aRd {ρ : Type} : @aoR ρ = @ac9 ρ := rfl
theorem aNi {b : acv} (hI : In b) (n : Int × Int) {c : Cmp} (hA : c.2.2.1.length ≤ 1000) (hB : c.2.2.2.1.length ≤ 1000) : amo b n c = some (axK b n c) := by
 unfold amo azU axK
 rw [aRd]
 refine (amD hI (ns := [n]) (by simp) (fun e => some ((0 : Int), e)) (fun e he => by rw [adP (by simp [ine, he])]) (fun z he => by rw [adP (by simp [ine, he])]) (fun _ _ _ => rfl)).trans ?_
 split
 ·rfl
 ·rename_i e
  have hr := (agA hI (by simpa using e)).1
  dsimp only
  rw [apv, show ((((acg (ads b [n]).1).length : Int) + 1, acs (ads b [n]).1) : Sys) = aDy (ads b [n]).1 from rfl, aJm hr n hA hB, ab4]
  unfold aGL
  by_cases hp : (acw (ads b [n]).1 c).2 = 0
  ·rw [if_neg (by simp [hp]), if_neg (by simp [hp]), aco (by rfl), aRb (aEO hp), ab4]
  ·rw [if_pos hp, if_pos hp, acB (bne_iff_ne.2 hp)]
def aBo (x : Int) : Int := max (-288230376151711744) (min x 288230376151711744)
def ak8 (w : ahF) (l : Int × Int) : List Int := (acY w.2.1 ++ acY w.2.2) ++ (ag1 w.2.1 l.1 ++ ag1 w.2.2 (-l.1)) ++ (ag1 w.2.1 l.2 ++ ag1 w.2.2 (-l.2))
def ajk (w : ahF) (l : Int × Int) : Bool := (alc w.1 (ak8 w l)).all fun d => adI (adE w d) l != 3
def ak7 (b : acv) (n l : Int × Int) (c : Cmp) : Bool × Int :=
 if (ads b [n]).2 ≠ 0 then (false, (ads b [n]).2) else if l.2 < l.1 then (false, 1) else if (acw (ads b [n]).1 c).2 ≠ 0 then (false, (acw (ads b [n]).1 c).2) else (ajk (acW (ads b [n]).1 n c) (aBo l.1, aBo l.2), 0)
theorem aNv {ρ : Type} : @alk ρ = @ac9 ρ := rfl
theorem aSN (x : Int) : ahA x = some (aBo x) := by
 unfold ahA amT aBo
 rw [aA9, aGO]
theorem ayI {e : End} (h : aHi e) {n : Int} (hn : -300000000000000000 ≤ n ∧ n ≤ 300000000000000000) : ∀ m ∈ ag1 e n, -1000000000000000000 ≤ m ∧ m ≤ 1000000000000000000 := by
 obtain ⟨⟨a1, a2⟩, ⟨b1, b2⟩, c1, c2⟩ := h
 intro m hm
 unfold ag1 at hm
 simp only [List.mem_cons, List.not_mem_nil, or_false] at hm
 omega
theorem aEK {b : acv} (hI : In b) (n l : Int × Int) {c : Cmp} (hA : c.2.2.1.length ≤ 1000) (hB : c.2.2.2.1.length ≤ 1000) : aig b n l c = some (ak7 b n l c) := by
 unfold aig arW ak7
 rw [aNv]
 refine (amD hI (ns := [n]) (by simp) (fun e => some (false, e)) (fun e he => by rw [acB (by simp [ine, he])]) (fun z he => by rw [acB (by simp [ine, he])]) (fun _ _ _ => rfl)).trans ?_
 split
 ·rfl
 ·rename_i e
  have hr := (agA hI (by simpa using e)).1
  dsimp only
  by_cases hl : l.2 < l.1
  ·rw [acB (by simp [igt, hl]), if_pos hl]
  ·rw [aco (by simp [igt]; omega), if_neg hl, apv, show ((((acg (ads b [n]).1).length : Int) + 1, acs (ads b [n]).1) : Sys) = aDy (ads b [n]).1 from rfl, aJm hr n hA hB, ab4]
   unfold aGL
   by_cases hp : (acw (ads b [n]).1 c).2 = 0
   ·rw [if_neg (by simp [hp]), if_neg (by simp [hp]), aco (by rfl)]
    have hw := aEO (n := n) hp
    dsimp only
    generalize acW (ads b [n]).1 n c = w at hw ⊢
    have f1 : -300000000000000000 ≤ aBo l.1 ∧ aBo l.1 ≤ 300000000000000000 := by unfold aBo; omega
    have f2 : -300000000000000000 ≤ aBo l.2 ∧ aBo l.2 ≤ 300000000000000000 := by unfold aBo; omega
    have q1 : ([acY w.2.1, acY w.2.2] : List (List Int)).flatten = acY w.2.1 ++ acY w.2.2 := by simp
    have q2 : ∀ x y z : List Int, ([x, y, z] : List (List Int)).flatten = x ++ (y ++ z) := by intro x y z; simp
    rw [ayv hw.high, ab4, ayv hw.low, ab4, ajP (by simp) (by rw [q1]; simp [acY]), ab4, q1, aSN, ab4, aSN, ab4]
    generalize aBo l.1 = l1 at f1 ⊢
    generalize aBo l.2 = l2 at f2 ⊢
    rw [ayH hw.high (by omega), ab4, acu (by omega) (by omega), Int.zero_sub, ayH hw.low (by omega), ab4, ajP (by simp) (by rw [q2]; simp [acY, ag1]), ab4, q2,
     ayH hw.high (by omega), ab4, acu (by omega) (by omega), Int.zero_sub, ayH hw.low (by omega), ab4, ajP (by simp) (by rw [q2]; simp [acY, ag1]), ab4, q2]
    have hll : (ak8 w (l1, l2)).length = 18 := rfl
    have qs : acY w.2.1 ++ acY w.2.2 ++ (ag1 w.2.1 l1 ++ ag1 w.2.2 (-l1)) ++ (ag1 w.2.1 l2 ++ ag1 w.2.2 (-l2)) = ak8 w (l1, l2) := rfl
    rw [qs, aPw w (by rw [hll]; omega) (fun m hm => by
     unfold ak8 at hm
     simp only [List.mem_append] at hm
     rcases hm with ((hm | hm) | (hm | hm)) | (hm | hm)
     ·have := ayw hw.high m hm; omega
     ·have := ayw hw.low m hm; omega
     ·have := ayI hw.high f1 m hm; omega
     ·have := ayI hw.low (n := -l1) (by omega) m hm; omega
     ·have := ayI hw.high f2 m hm; omega
     ·have := ayI hw.low (n := -l2) (by omega) m hm; omega), ab4]
    have hnl := aMw w.1 (l := ak8 w (l1, l2)) (by rw [hll]; omega)
    have hsm := aPv hw (l := ak8 w (l1, l2))
    unfold ajk
    generalize alc w.1 (ak8 w (l1, l2)) = ds at hnl hsm ⊢
    refine (agJ ds (fun d => adI (adE w d) (l1, l2) == 3) (fun z30 => some ((!(ige z30 (0 : Int))), (0 : Int))) (some (false, 0)) (some (true, 0)) (fun j => by rw [show ige (j : Int) 0 = true from decide_eq_true (by omega)]; rfl) (fun i d hi hd kn => ?_) (fun kn => ?_)).trans ?_
    ·try dsimp only
     unfold aiq
     rw [acp hi, acj hd, show ad4 ((w.1.1, w.1.2), (w.2.1.1, w.2.1.2.1, w.2.1.2.2), w.2.2.1, w.2.2.2.1, w.2.2.2.2) d = ad4 w d from rfl, aOT hw (hsm d (List.mem_of_getElem? hd)), ab4, aDv, ab4, acl hi (by omega), adX]
    ·try dsimp only
     unfold aiq
     rw [acN]
    ·rw [show (fun d => adI (adE w d) (l1, l2) != 3) = (fun d => !(adI (adE w d) (l1, l2) == 3)) from rfl, ← List.not_any_eq_all_not]
     cases ds.any fun d => adI (adE w d) (l1, l2) == 3 <;> rfl
   ·rw [if_pos hp, if_pos hp, acB (bne_iff_ne.2 hp)]
end Go.Proofs.ZzM
end
noncomputable section
namespace Go.Proofs.ZzM
open Go Go.Am
def aiZ (b : acv) (n : Int × Int) : Prop := ∃ g ∈ b.2.1, g.1 = n.1 ∧ n.2 ∈ acy b g
theorem aMI {b : acv} (h : ado b) {n : Int × Int} : amy b n.1 n.2 ≠ 0 ↔ aiZ b n := by
 unfold amy
 constructor
 ·intro hne
  cases hx : agw (acg b) n.1 n.2 with
  | none => rw [hx] at hne; simp at hne
  | some j =>
    have hm := List.mem_of_getElem? (ag0 hx).2
    unfold acg at hm
    obtain ⟨g, hg, hd⟩ := List.mem_flatMap.1 hm
    obtain ⟨d, hd, e⟩ := List.mem_map.1 hd
    simp only [Prod.mk.injEq] at e
    obtain ⟨e1, rfl⟩ := e
    exact ⟨g, hg, e1, hd⟩
 ·rintro ⟨g, hg, e, hd⟩
  obtain ⟨i, hi, rfl⟩ := List.mem_iff_getElem.1 hg
  obtain ⟨k, hk, e2⟩ := List.mem_iff_getElem.1 hd
  rw [← e, aFf h (List.getElem?_eq_getElem hi) (by rw [List.getElem?_eq_getElem hk, e2])]
  dsimp only
  omega
theorem aJu (b : acv) (x d : Int) : amy b x d = aeE b x d := rfl
theorem aQn (b : acv) (n : Int × Int) (g : acS) {d : Int} (hd : d ∈ acy b g) : d ∈ acy (ahd b n) g := by
 unfold acy at hd ⊢
 rw [apW] at hd ⊢
 unfold aDm ahd at *
 simp only [List.mem_append, List.mem_map, List.mem_filter] at hd ⊢
 rcases hd with (h | h) | ⟨m, ⟨h1, h2⟩, h3⟩
 ·exact .inl (.inl h)
 ·exact .inl (.inr h)
 ·exact .inr ⟨m, ⟨.inl h1, h2⟩, h3⟩
theorem aPL {b : acv} (n : Int × Int) (h' : ado (ahd b n)) : aiZ (ahd b n) n := by
 have hu := h'.looks n (by simp [ahd])
 unfold aRi at hu
 split at hu
 ·omega
 obtain ⟨g, hg, _⟩ := avo h' hu
 obtain ⟨hm, e⟩ := ak2 hg
 refine ⟨g, hm, e, ?_⟩
 unfold acy
 rw [apW]
 unfold aDm ahd
 simp only [List.mem_append, List.mem_map, List.mem_filter]
 exact .inr ⟨n, ⟨.inr (by simp), by simp [e]⟩, rfl⟩
theorem ay4 {b : acv} {n : Int × Int} (e : (afW b n).2 = 0) : (afW b n = (b, 0) ∧ amy b n.1 n.2 ≠ 0) ∨ (afW b n = (ahd b n, 0) ∧ ado (ahd b n) ∧ amy b n.1 n.2 = 0) := by
 unfold afW at e ⊢
 split
 ·rename_i h; exact .inl ⟨rfl, h⟩
 ·rename_i h1
  rw [if_neg h1] at e
  split
  ·rename_i h2; rw [if_pos h2] at e; exact absurd e h2
  ·rename_i h2; exact .inr ⟨rfl, (acr _).1 (by simpa using h2), by simpa using h1⟩
theorem aHI : ∀ {ns : List (Int × Int)} {b : acv}, (aeA b ns).2 = 0 → ∀ n, aiZ b n → aiZ (aeA b ns).1 n
 | [], b, _, n, hn => hn
 | m :: t, b, e, n, hn => by
   unfold aeA at e ⊢
   split
   ·rename_i h1; rw [if_pos h1] at e; exact absurd e h1
   ·rename_i h1
    rw [if_neg h1] at e
    refine aHI e n ?_
    rcases ay4 (by simpa using h1) with ⟨h, _⟩ | ⟨h, _, _⟩
    ·rw [h]; exact hn
    ·rw [h]
     obtain ⟨g, hg, e1, hd⟩ := hn
     exact ⟨g, hg, e1, aQn b m g hd⟩
theorem aHH : ∀ {ns : List (Int × Int)} {b : acv}, ado b → (aeA b ns).2 = 0 → ∀ n ∈ ns, aiZ (aeA b ns).1 n
 | [], b, _, _, n, hn => by simp at hn
 | m :: t, b, hg, e, n, hn => by
   unfold aeA at e ⊢
   split
   ·rename_i h1; rw [if_pos h1] at e; exact absurd e h1
   ·rename_i h1
    rw [if_neg h1] at e
    have h1' : (afW b m).2 = 0 := by simpa using h1
    rcases List.mem_cons.1 hn with rfl | hn
    ·refine aHI e n ?_
     rcases ay4 h1' with ⟨h, h2⟩ | ⟨h, h2, _⟩
     ·rw [h]; exact (aMI hg).1 h2
     ·rw [h]; exact aPL n h2
    ·exact aHH (ay2 hg h1') e n hn
theorem aPM {b : acv} {n : Int × Int} {f : Int → Int → Int} {z : Int} : aEN (ahd b n) f z ↔ aEN b f z :=
 ⟨fun h => ⟨fun g hg => by have := h.gauge g hg; exact ⟨this.hi, this.lo, this.down, this.loss⟩, h.cmp⟩, fun h => ⟨fun g hg => by have := h.gauge g hg; exact ⟨this.hi, this.lo, this.down, this.loss⟩, h.cmp⟩⟩
theorem aHJ : ∀ {ns : List (Int × Int)} {b : acv}, (aeA b ns).2 = 0 → ∀ {f : Int → Int → Int} {z : Int}, aEN (aeA b ns).1 f z ↔ aEN b f z
 | [], b, _, f, z => Iff.rfl
 | m :: t, b, e, f, z => by
   unfold aeA at e ⊢
   split
   ·rename_i h1; rw [if_pos h1] at e; exact absurd e h1
   ·rename_i h1
    rw [if_neg h1] at e
    rw [aHJ e]
    rcases ay4 (by simpa using h1) with ⟨h, _⟩ | ⟨h, _, _⟩
    ·rw [h]
    ·rw [h]; exact aPM
section
variable {B : acv} (h : aOB B)
include h
theorem aRE {p : Int → Int} {f : Int → Int → Int} (hm : ∀ g ∈ B.2.1, ∀ d ∈ acy B g, f g.1 d = p (aeE B g.1 d)) {n : Int × Int} (hn : aiZ B n) : p (amy B n.1 n.2) = f n.1 n.2 := by
 obtain ⟨g, hg, e, hd⟩ := hn
 rw [aJu, ← e, hm g hg n.2 hd]
theorem aRw (f : Int → Int → Int) (z : Int) {n : Int × Int} (hn : aiZ B n) : azj B f z (amy B n.1 n.2) = f n.1 n.2 := by
 obtain ⟨g, hg, e, hd⟩ := hn
 rw [aJu, ← e, aor h.good f z hg hd]
theorem iv_in {n : Int × Int} (hn : aiZ B n) {f : Int → Int → Int} {z : Int} (hh : aEN B f z) : (ivR B n).1 ≤ f n.1 n.2 - z ∧ f n.1 n.2 - z ≤ (ivR B n).2 := by
 have hp := aMJ h.good hh
 have a1 := ass h.good.sys h.good.tied h.op (adM B n) (adH B) hp
 have a2 := ass h.good.sys h.good.tied h.op (adH B) (adM B n) hp
 rw [aRw h f z hn, aix] at a1 a2
 unfold ivR aOx
 dsimp only
 omega
theorem iv_at {n : Int × Int} (hn : aiZ B n) {t : Int} (h1 : (ivR B n).1 ≤ t) (h2 : t ≤ (ivR B n).2) : ∃ f z, aEN B f z ∧ f n.1 n.2 - z = t := by
 obtain ⟨p, hp, e⟩ := aQk h.good.sys h.good.tied h.op (adM B n) (adH B) (t := t) h1 h2
 obtain ⟨f, hf, hm⟩ := aMk h.good hp
 exact ⟨f, p 0, hf, by rw [← aRE h hm hn]; exact e⟩
theorem aRS (n : Int × Int) : (ivR B n).1 ≤ (ivR B n).2 := aBw h.good.sys h.good.tied h.op (adM B n) (adH B)
theorem iv_bd (n : Int × Int) : -9007199254740992 ≤ (ivR B n).1 ∧ (ivR B n).2 ≤ 9007199254740992 := by
 have a1 := apF h (adM B n) (adH B)
 have a2 := apF h (adH B) (adM B n)
 unfold ivR
 dsimp only
 omega
end
structure Asked (b : acv) (ns : List (Int × Int)) (B : acv) : Prop where
 room : aOB B
 nodes : ∀ n ∈ ns, aiZ B n
 hist : ∀ {f : Int → Int → Int} {z : Int}, aEN B f z ↔ aEN b f z
 good : ado b
 gauges : B.2.1 = b.2.1
theorem aNE {b : acv} (hI : In b) {ns : List (Int × Int)} (e : (ads b ns).2 = 0) : Asked b ns (ads b ns).1 := by
 obtain ⟨h1, h2, h3, h4⟩ := agA hI e
 exact ⟨h1, by rw [h2]; exact aHH h4 h3, by rw [h2]; exact aHJ h3, h4, by rw [h2]; exact amA h3⟩
def axI (c : Cmp) : Bool := decide (c.2.2.1.length ≤ 10) && decide (c.2.2.2.1.length ≤ 10)
theorem aJ2 (c : Cmp) : aml c = some (axI c) := by
 unfold aml avq axI
 rw [acQ, acQ, adX]
 by_cases h : c.2.2.1.length ≤ 10
 ·rw [if_pos (by simp [ile]; omega)]
  simp [ile, h]
  omega
 ·rw [if_neg (by simp [ile]; omega)]
  simp [h]
def fewP (b : acv) : Bool :=
 !((b.2.2.2.2.1.take 50).any fun c => !axI c) && (decide (b.2.1.length ≤ 14) && (decide (b.2.2.1.length ≤ 45) && (decide (b.2.2.2.1.length ≤ 14) && (decide (b.2.2.2.2.1.length ≤ 42) && decide (b.2.2.2.2.2.length ≤ 12)))))
theorem few_ok (b : acv) : ayQ b = some (fewP b) := by
 unfold ayQ aFn
 have last : (ifb (ile (acD b.2.1) (14 : Int)) (ifb (ile (acD b.2.2.1) (45 : Int)) (ifb (ile (acD b.2.2.2.1) (14 : Int)) (ifb (ile (acD b.2.2.2.2.1) (42 : Int)) (some (ile (acD b.2.2.2.2.2) (12 : Int))) (some false)) (some false)) (some false)) (some false)) =
  some (decide (b.2.1.length ≤ 14) && (decide (b.2.2.1.length ≤ 45) && (decide (b.2.2.2.1.length ≤ 14) && (decide (b.2.2.2.2.1.length ≤ 42) && decide (b.2.2.2.2.2.length ≤ 12))))) := by
  have e : ∀ (n m : Nat), ile (n : Int) (m : Int) = decide (n ≤ m) := fun n m => by simp [ile]
  rw [acQ, acQ, acQ, acQ, acQ, show (14 : Int) = ((14 : Nat) : Int) from rfl, show (45 : Int) = ((45 : Nat) : Int) from rfl, show (42 : Int) = ((42 : Nat) : Int) from rfl, show (12 : Int) = ((12 : Nat) : Int) from rfl, e, e, e, e, e]
  generalize decide (b.2.1.length ≤ 14) = x1
  generalize decide (b.2.2.1.length ≤ 45) = x2
  generalize decide (b.2.2.2.1.length ≤ 14) = x3
  generalize decide (b.2.2.2.2.1.length ≤ 42) = x4
  cases x1 <;> cases x2 <;> cases x3 <;> cases x4 <;> rfl
 rw [last]
 refine Eq.trans (agJ (b.2.2.2.2.1.take 50) (fun c => !axI c) (fun _ => some false) (some false) (some (decide (b.2.1.length ≤ 14) && (decide (b.2.2.1.length ≤ 45) && (decide (b.2.2.2.1.length ≤ 14) && (decide (b.2.2.2.2.1.length ≤ 42) && decide (b.2.2.2.2.2.length ≤ 12)))))) (fun _ => rfl) (fun i c hi hc kn => ?_) (fun kn => ?_)) ?_
 ·try dsimp only
  unfold amH
  rw [List.length_take] at hi
  have hc' : b.2.2.2.2.1[i]? = some c := by rw [List.getElem?_take] at hc; split at hc <;> simp_all
  rw [acp (show i < b.2.2.2.2.1.length by omega), acB (decide_eq_true (by omega)), acj hc', aJ2, ab4, acu (by omega) (by omega), adX]
 ·try dsimp only
  unfold amH
  rw [List.length_take, adX]
  split
  ·rename_i h
   have h' : 50 < b.2.2.2.2.1.length := by rw [acQ] at h; simp [ilt] at h; omega
   rw [aco (decide_eq_false (by omega))]
  ·rfl
 ·unfold fewP
  cases List.any (List.take 50 b.2.2.2.2.1) (fun c => !axI c) <;> rfl
theorem aR4 {b : acv} (h : fewP b = true) : ahG b := by
 simp only [fewP, Bool.and_eq_true, Bool.not_eq_true', decide_eq_true_eq] at h
 obtain ⟨h0, h1, h2, h3, h4, h5⟩ := h
 refine ⟨by omega, by omega, by omega, by omega, by omega, fun c hc => ?_⟩
 rw [List.take_of_length_le (by omega)] at h0
 have := List.any_eq_false.1 h0 c hc
 simp [axI] at this
 omega
end Go.Proofs.ZzM
end
noncomputable section
namespace Go.Proofs.ZzM
open Go Go.Am
section
variable {L : List Lk} {N : Nat} {x y H G : Int}
theorem aNt (hxy : x ≠ y) {s : Int} {vs : List Int} {v d : Int} (w : Wl (L ++ [(y, x, H), (x, y, -G)]) (fun u => u = s) vs v d) : (v :: vs).Nodup →
 (∃ vs, Wl L (fun u => u = s) vs v d) ∨ (∃ d1 d2, (∃ vs, Wl L (fun u => u = s) vs y d1) ∧ (∃ vs, Wl L (fun u => u = x) vs v d2) ∧ d = d1 + H + d2 ∧ x ∈ v :: vs ∧ y ∈ v :: vs) ∨
 (∃ d1 d2, (∃ vs, Wl L (fun u => u = s) vs x d1) ∧ (∃ vs, Wl L (fun u => u = y) vs v d2) ∧ d = d1 - G + d2 ∧ x ∈ v :: vs ∧ y ∈ v :: vs) := by
 induction w with
 | nil hs => intro _; exact .inl ⟨[], .nil hs⟩
 | @step vs u v m d hw hl ih =>
   intro hn
   have hn2 : (u :: vs).Nodup := (List.nodup_cons.1 hn).2
   have hv : v ∉ u :: vs := (List.nodup_cons.1 hn).1
   have up : ∀ {a : Int}, a ∈ u :: vs → a ∈ v :: u :: vs := fun h => List.mem_cons_of_mem _ h
   rcases List.mem_append.1 hl with h1 | h1
   ·rcases ih hn2 with ⟨vs1, q⟩ | ⟨d1, d2, q1, ⟨vs2, q2⟩, q3, q4, q5⟩ | ⟨d1, d2, q1, ⟨vs2, q2⟩, q3, q4, q5⟩
    ·exact .inl ⟨_, .step q h1⟩
    ·exact .inr (.inl ⟨d1, d2 + m, q1, ⟨_, .step q2 h1⟩, by omega, up q4, up q5⟩)
    ·exact .inr (.inr ⟨d1, d2 + m, q1, ⟨_, .step q2 h1⟩, by omega, up q4, up q5⟩)
   ·simp only [List.mem_cons, List.not_mem_nil, or_false, Prod.mk.injEq] at h1
    rcases h1 with ⟨e1, e2, e3⟩ | ⟨e1, e2, e3⟩
    ·subst e2; subst e3
     rcases ih hn2 with ⟨vs1, q⟩ | ⟨d1, d2, q1, q2, q3, q4, q5⟩ | ⟨d1, d2, q1, q2, q3, q4, q5⟩
     ·refine .inr (.inl ⟨d, 0, ⟨vs1, by rw [← e1]; exact q⟩, ⟨[], .nil rfl⟩, by omega, by simp, by rw [← e1]; simp⟩)
     ·exact absurd q4 hv
     ·exact absurd q4 hv
    ·subst e2; subst e3
     rcases ih hn2 with ⟨vs1, q⟩ | ⟨d1, d2, q1, q2, q3, q4, q5⟩ | ⟨d1, d2, q1, q2, q3, q4, q5⟩
     ·refine .inr (.inr ⟨d, 0, ⟨vs1, by rw [← e1]; exact q⟩, ⟨[], .nil rfl⟩, by omega, by rw [← e1]; simp, by simp⟩)
     ·exact absurd q5 hv
     ·exact absurd q5 hv
theorem aqf (h : afu L N) (ht : au5 L N) (ho : adF L N = true) {s t : Int} (hs : 0 ≤ s ∧ s < N) (hv : 0 ≤ t ∧ t < N) : ∃ vs, Wl L (fun u => u = s) vs t (dst L N s t) := by
 have h2 := h.n60
 obtain ⟨p, hp⟩ := (aeD h.links (by omega)).1 ho
 obtain ⟨vs, hw⟩ := (agi h.links (by omega) hp hs).att t hv.1 hv.2 (aMY h ht ho hs hv)
 exact ⟨vs, aH9.1 hw⟩
theorem apE (h : afu L N) (ho : adF L N = true) {s t d : Int} (hs : 0 ≤ s ∧ s < N) {vs : List Int} (hw : Wl L (fun u => u = s) vs t d) : dst L N s t ≤ d := by
 have h2 := h.n60
 obtain ⟨p, hp⟩ := (aeD h.links (by omega)).1 ho
 exact (agi h.links (by omega) hp hs).low t vs d (aH9.2 hw)
theorem aTG (h : afu L N) (ht : au5 L N) (ho : adF L N = true) (h' : afu (L ++ [(y, x, H), (x, y, -G)]) N) (ho' : adF (L ++ [(y, x, H), (x, y, -G)]) N = true) (hx : 0 ≤ x ∧ x < N) (hy : 0 ≤ y ∧ y < N) (hxy : x ≠ y) {s t : Int} (hs : 0 ≤ s ∧ s < N) (hv : 0 ≤ t ∧ t < N) :
 dst (L ++ [(y, x, H), (x, y, -G)]) N s t = min (dst L N s t) (min (dst L N s y + H + dst L N x t) (dst L N s x - G + dst L N y t)) := by
 have h2 := h.n60
 have sub : ∀ l ∈ L, l ∈ L ++ [(y, x, H), (x, y, -G)] := fun l hl => List.mem_append.2 (.inl hl)
 have ht' : au5 (L ++ [(y, x, H), (x, y, -G)]) N := ⟨fun v a b => by obtain ⟨vs, d, w, q⟩ := ht.to v a b; exact ⟨vs, d, w.sub sub, q⟩, fun v a b => by obtain ⟨vs, d, w, q⟩ := ht.from' v a b; exact ⟨vs, d, w.sub sub, q⟩⟩
 obtain ⟨v1, w1⟩ := aqf h ht ho hs hv
 obtain ⟨v2, w2⟩ := aqf h ht ho hs hy
 obtain ⟨v3, w3⟩ := aqf h ht ho hx hv
 obtain ⟨v4, w4⟩ := aqf h ht ho hs hx
 obtain ⟨v5, w5⟩ := aqf h ht ho hy hv
 have a1 := apE h' ho' hs (w1.sub sub)
 have a2 : dst (L ++ [(y, x, H), (x, y, -G)]) N s t ≤ dst L N s y + H + dst L N x t := by
  obtain ⟨ws, q⟩ := (Wl.step (w2.sub sub) (show (y, x, H) ∈ L ++ [(y, x, H), (x, y, -G)] by simp)).app (w3.sub sub)
  exact apE h' ho' hs q
 have a3 : dst (L ++ [(y, x, H), (x, y, -G)]) N s t ≤ dst L N s x - G + dst L N y t := by
  obtain ⟨ws, q⟩ := (Wl.step (w4.sub sub) (show (x, y, -G) ∈ L ++ [(y, x, H), (x, y, -G)] by simp)).app (w5.sub sub)
  have := apE h' ho' hs q
  omega
 obtain ⟨vs, w⟩ := aqf h' ht' ho' hs hv
 obtain ⟨p, hp⟩ := (aeD h'.links (by omega)).1 ho'
 obtain ⟨vs', d', w', hd, hnd⟩ := w.simple hp
 rcases aNt hxy w' hnd with ⟨_, q⟩ | ⟨d1, d2, ⟨_, q1⟩, ⟨_, q2⟩, q3, _⟩ | ⟨d1, d2, ⟨_, q1⟩, ⟨_, q2⟩, q3, _⟩
 ·have := apE h ho hs q
  omega
 ·have := apE h ho hs q1
  have := apE h ho hx q2
  omega
 ·have := apE h ho hs q1
  have := apE h ho hy q2
  omega
end
def acA (c : Cmp) (d : Int) : Cmp := (c.1, c.2.1, c.2.2.1, c.2.2.2.1, d, c.2.2.2.2.2)
theorem aOY (b : acv) (c : Cmp) (d : Int) : ad3 b (acA c d) = ((ad3 b (ab7 c)).1 + d, (ad3 b (ab7 c)).2 + d) := by
 obtain ⟨a1, a2⟩ := ayA b (acA c d)
 obtain ⟨b1, b2⟩ := ayA b (ab7 c)
 have e1 : aid b (acA c d) = aid b (ab7 c) := rfl
 have e2 : awe b (acA c d) = awe b (ab7 c) := rfl
 have e3 : (acA c d).2.2.2.2.1 = d := rfl
 have e4 : (ab7 c).2.2.2.2.1 = 0 := rfl
 rw [e1, e3] at a1
 rw [e2, e3] at a2
 rw [e4] at b1 b2
 exact Prod.ext (by dsimp only; omega) (by dsimp only; omega)
theorem aJL (b : acv) (c : Cmp) (d : Int) (g : acS) : acy (acn b (acA c d)) g = acy (acn b (ab7 c)) g := by
 unfold acy aDm acn
 simp only [List.filter_append, List.map_append]
 have e : ((([acA c d] : List Cmp).filter fun x => !(x.2.2.1.contains g.1 == x.2.2.2.1.contains g.1)).map fun x => x.2.1) = ((([ab7 c] : List Cmp).filter fun x => !(x.2.2.1.contains g.1 == x.2.2.2.1.contains g.1)).map fun x => x.2.1) := by
  cases hq : (!(c.2.2.1.contains g.1 == c.2.2.2.1.contains g.1)) with
  | true => rw [List.filter_cons_of_pos (by exact hq), List.filter_cons_of_pos (by exact hq)]; rfl
  | false => rw [List.filter_cons_of_neg (by exact Bool.eq_false_iff.1 hq), List.filter_cons_of_neg (by exact Bool.eq_false_iff.1 hq)]
 rw [e]
theorem agZ (b : acv) (c : Cmp) (d : Int) : acg (acn b (acA c d)) = acg (acn b (ab7 c)) := by
 unfold acg
 have : (fun g : acS => (acy (acn b (acA c d)) g).map fun e => ((g.1, e) : Int × Int)) = fun g : acS => (acy (acn b (ab7 c)) g).map fun e => ((g.1, e) : Int × Int) := by
  funext g
  rw [aJL]
 rw [this]
 rfl
theorem aP3 (b : acv) (c : Cmp) (d : Int) : acF (acn b (acA c d)) = acF (acn b (ab7 c)) := by
 rw [aBb, aBb]
 have e1 : ac6 (acn b (acA c d)) = ac6 (acn b (ab7 c)) := by
  funext g
  unfold ac6
  rw [aJL, agZ]
  rfl
 have e2 : acU (acn b (acA c d)) = acU (acn b (ab7 c)) := by
  funext x
  unfold acU cx cy
  rw [agZ]
  rfl
 rw [e1, e2]
 rfl
theorem aRX (b : acv) (c : Cmp) (d : Int) (i j : Int) : amy (acn b (acA c d)) i j = amy (acn b (ab7 c)) i j := by unfold amy; rw [agZ]
theorem aNZ (b : acv) (c : Cmp) (d : Int) (h : ado (acn b (acA c d))) : acs (acn b (acA c d)) = acF (acn b (ab7 c)) ++ [(cy (acn b (ab7 c)) (ab7 c), cx (acn b (ab7 c)) (ab7 c), (ad3 b (ab7 c)).2 + d), (cx (acn b (ab7 c)) (ab7 c), cy (acn b (ab7 c)) (ab7 c), -((ad3 b (ab7 c)).1 + d))] := by
 rw [awi b (acA c d) h, aP3]
 have e1 : cy (acn b (acA c d)) (acA c d) = cy (acn b (ab7 c)) (ab7 c) := by unfold cy; rw [agZ]; rfl
 have e2 : cx (acn b (acA c d)) (acA c d) = cx (acn b (ab7 c)) (ab7 c) := by unfold cx; rw [agZ]; rfl
 have e3 : ad3 (acn b (acA c d)) (acA c d) = ad3 b (acA c d) := rfl
 rw [e1, e2, e3, aOY]
theorem aTu {b : acv} {c : Cmp} (hp : (acw b c).2 = 0) {d : Int} (hg : ado (acn b (acA c d))) (ho : adF (acs (acn b (acA c d))) ((acg (acn b (acA c d))).length + 1) = true) (n : Int × Int) :
 ivR (acn b (acA c d)) n = adE (acW b n c) d := by
 obtain ⟨g1, g2⟩ := agr hp
 have hop := aos hp
 have hh : adF (acF (acn b (ab7 c))) ((acg (acn b (ab7 c))).length + 1) = true := by rw [ahw g1 g2]; exact hop
 have hx := aob g2
 have hy := aoa g2
 have hxy := aM2 g2 (ajp (c := ab7 c))
 have hs := hg.sys
 have hl := aNZ b c d hg
 rw [agZ] at hs ho
 rw [hl] at hs ho
 have key : ∀ {s t : Int}, 0 ≤ s ∧ s < ((acg (acn b (ab7 c))).length + 1 : Nat) → 0 ≤ t ∧ t < ((acg (acn b (ab7 c))).length + 1 : Nat) → aOx (acn b (acA c d)) s t = atE (aSO b (ab7 c) s t) d := by
  intro s t h1 h2
  unfold aOx
  rw [agZ, hl, aTG (afK g2) (afR g2) hh hs ho hx hy hxy h1 h2]
  unfold atE aSO aQ8
  dsimp only
  omega
 unfold ivR adE acW
 rw [aRX, key (adM _ n) (adH _), key (adH _) (adM _ n)]
theorem ayx {w : ahF} {d : Int} (hd : w.1.1 < d ∧ d < w.1.2) {l : List Int} (hn : d ∉ alc w.1 l) : ∀ n ∈ l, n + 2 < d ∨ d < n - 2 := by
 intro n hm
 rcases (show n + 2 < d ∨ d ≤ n + 2 by omega) with h | h
 ·exact .inl h
 ·rcases (show d < n - 2 ∨ n - 2 ≤ d by omega) with h2 | h2
  ·exact .inr h2
  ·exact absurd (ahj.2 (.inr (.inr ⟨hd.1, hd.2, n, hm, by omega, by omega⟩))) hn
theorem apT (e : End) {d : Int} (h : ∀ n ∈ acY e, n + 2 < d ∨ d < n - 2) : atE e (d + 1) - atE e d = atE e d - atE e (d - 1) := by
 have t1 := h (e.1 - e.2.1) (by simp [acY])
 have t2 := h (e.2.2 - e.1) (by simp [acY])
 have t3 := h (Int.tdiv (e.2.2 - e.2.1) 2) (by simp [acY])
 have hh := asB (e.2.2 - e.2.1)
 generalize Int.tdiv (e.2.2 - e.2.1) 2 = k at t3 hh
 unfold atE
 omega
def aea (w : ahF) (d : Int) : Int := (adE w d).2 - (adE w d).1
theorem aEP (w : ahF) : ∀ (l : List Int) (m : Int), m ≤ l.foldl (fun m d => max m ((adE w d).2 - (adE w d).1)) m ∧ ∀ d ∈ l, aea w d ≤ l.foldl (fun m d => max m ((adE w d).2 - (adE w d).1)) m
 | [], m => ⟨Int.le_refl _, fun d h => by simp at h⟩
 | a :: l, m => by
   have := aEP w l (max m ((adE w a).2 - (adE w a).1))
   rw [List.foldl_cons]
   refine ⟨by omega, fun d hd => ?_⟩
   rcases List.mem_cons.1 hd with rfl | hd
   ·unfold aea; omega
   ·exact this.2 d hd
theorem aL0 (w : ahF) : ∀ (l : List Int) (m : Int), l.foldl (fun m d => max m ((adE w d).2 - (adE w d).1)) m = m ∨ ∃ d ∈ l, l.foldl (fun m d => max m ((adE w d).2 - (adE w d).1)) m = aea w d
 | [], m => .inl rfl
 | a :: l, m => by
   rw [List.foldl_cons]
   rcases aL0 w l (max m ((adE w a).2 - (adE w a).1)) with h | ⟨d, hd, h⟩
   ·rw [h]
    by_cases h2 : m ≤ (adE w a).2 - (adE w a).1
    ·exact .inr ⟨a, by simp, by unfold aea; omega⟩
    ·exact .inl (by omega)
   ·exact .inr ⟨d, by simp [hd], h⟩
theorem aPu (w : ahF) {l : List Int} (h1 : ∀ n ∈ acY w.2.1, n ∈ l) (h2 : ∀ n ∈ acY w.2.2, n ∈ l) : ∀ (k : Nat) (d : Int), w.1.1 ≤ d → d ≤ w.1.2 →
 ((w.1.2 - d).toNat = k → (d = w.1.1 ∨ aea w (d - 1) ≤ aea w d) → ∃ e ∈ alc w.1 l, aea w d ≤ aea w e) := by
 intro k
 induction k with
 | zero =>
   intro d a b hk _
   exact ⟨d, ahj.2 (.inr (.inl (by omega))), Int.le_refl _⟩
 | succ k ih =>
   intro d a b hk hs
   by_cases hn : d ∈ alc w.1 l
   ·exact ⟨d, hn, Int.le_refl _⟩
   ·have hd : w.1.1 < d ∧ d < w.1.2 := by
     constructor
     ·rcases Int.lt_or_eq_of_le a with h | h
      ·exact h
      ·exact absurd (ahj.2 (.inl h.symm)) hn
     ·omega
    have t := ayx hd hn
    have s1 := apT w.2.1 fun n hm => t n (h1 n hm)
    have s2 := apT w.2.2 fun n hm => t n (h2 n hm)
    have hge : aea w d ≤ aea w (d + 1) := by
     rcases hs with h | h
     ·omega
     ·unfold aea adE at h ⊢
      dsimp only at h ⊢
      omega
    obtain ⟨e, he, hw⟩ := ih (d + 1) (by omega) (by omega) (by omega) (.inr (by rw [show d + 1 - 1 = d by omega]; exact hge))
    exact ⟨e, he, by omega⟩
theorem aNI (w : ahF) {l : List Int} (h1 : ∀ n ∈ acY w.2.1, n ∈ l) (h2 : ∀ n ∈ acY w.2.2, n ∈ l) : ∀ (k : Nat) (d : Int), w.1.1 ≤ d → d ≤ w.1.2 →
 ((d - w.1.1).toNat = k → (d = w.1.2 ∨ aea w (d + 1) ≤ aea w d) → ∃ e ∈ alc w.1 l, aea w d ≤ aea w e) := by
 intro k
 induction k with
 | zero =>
   intro d a b hk _
   exact ⟨d, ahj.2 (.inl (by omega)), Int.le_refl _⟩
 | succ k ih =>
   intro d a b hk hs
   by_cases hn : d ∈ alc w.1 l
   ·exact ⟨d, hn, Int.le_refl _⟩
   ·have hd : w.1.1 < d ∧ d < w.1.2 := by
     constructor
     ·omega
     ·rcases Int.lt_or_eq_of_le b with h | h
      ·exact h
      ·exact absurd (ahj.2 (.inr (.inl h))) hn
    have t := ayx hd hn
    have s1 := apT w.2.1 fun n hm => t n (h1 n hm)
    have s2 := apT w.2.2 fun n hm => t n (h2 n hm)
    have hge : aea w d ≤ aea w (d - 1) := by
     rcases hs with h | h
     ·omega
     ·unfold aea adE at h ⊢
      dsimp only at h ⊢
      omega
    obtain ⟨e, he, hw⟩ := ih (d - 1) (by omega) (by omega) (by omega) (.inr (by rw [show d - 1 + 1 = d by omega]; exact hge))
    exact ⟨e, he, by omega⟩
theorem aOG (w : ahF) {d : Int} (h1 : w.1.1 ≤ d) (h2 : d ≤ w.1.2) : aea w d ≤ aqA w := by
 have t1 : ∀ n ∈ acY w.2.1, n ∈ acY w.2.1 ++ acY w.2.2 := fun n h => List.mem_append.2 (.inl h)
 have t2 : ∀ n ∈ acY w.2.2, n ∈ acY w.2.1 ++ acY w.2.2 := fun n h => List.mem_append.2 (.inr h)
 have : ∃ e ∈ alc w.1 (acY w.2.1 ++ acY w.2.2), aea w d ≤ aea w e := by
  by_cases hs : d = w.1.1 ∨ aea w (d - 1) ≤ aea w d
  ·exact aPu w t1 t2 _ d h1 h2 rfl hs
  ·by_cases hs2 : d = w.1.2 ∨ aea w (d + 1) ≤ aea w d
   ·exact aNI w t1 t2 _ d h1 h2 rfl hs2
   ·by_cases hn : d ∈ alc w.1 (acY w.2.1 ++ acY w.2.2)
    ·exact ⟨d, hn, Int.le_refl _⟩
    ·have hd : w.1.1 < d ∧ d < w.1.2 := by omega
     have t := ayx hd hn
     have s1 := apT w.2.1 fun n hm => t n (t1 n hm)
     have s2 := apT w.2.2 fun n hm => t n (t2 n hm)
     exfalso
     unfold aea adE at hs hs2
     dsimp only at hs hs2
     omega
 obtain ⟨e, he, hw⟩ := this
 have := (aEP w (alc w.1 (acY w.2.1 ++ acY w.2.2)) (-1)).2 e he
 unfold aqA aDu
 omega
theorem aRc (w : ahF) (hr : w.1.1 ≤ w.1.2) (hw : ∀ d, w.1.1 ≤ d → d ≤ w.1.2 → 0 ≤ aea w d) : ∃ d, w.1.1 ≤ d ∧ d ≤ w.1.2 ∧ aqA w = aea w d := by
 unfold aqA aDu
 rcases aL0 w (alc w.1 (acY w.2.1 ++ acY w.2.2)) (-1) with h | ⟨d, hd, h⟩
 ·have h1 := (aEP w (alc w.1 (acY w.2.1 ++ acY w.2.2)) (-1)).2 w.1.1 (ahj.2 (.inl rfl))
  have h2 := hw w.1.1 (Int.le_refl _) hr
  omega
 ·refine ⟨d, ?_, ?_, h⟩ <;> rcases ahj.1 hd with q | q | ⟨q1, q2, _⟩ <;> omega
theorem aN0 (w : ahF) (l : Int × Int) {d : Int} (h : ∀ n ∈ ak8 w l, n + 2 < d ∨ d < n - 2) (ho : adI (adE w d) l = 3) : adI (adE w (d + 1)) l = 3 := by
 have q : ∀ n, (n ∈ acY w.2.1 ∨ n ∈ acY w.2.2 ∨ n ∈ ag1 w.2.1 l.1 ∨ n ∈ ag1 w.2.2 (-l.1) ∨ n ∈ ag1 w.2.1 l.2 ∨ n ∈ ag1 w.2.2 (-l.2)) → n + 2 < d ∨ d < n - 2 := fun n hn => h n (by
  unfold ak8
  simp only [List.mem_append]
  rcases hn with h | h | h | h | h | h <;> simp [h])
 have key : ∀ (e : End) (n : Int), (∀ m ∈ acY e, m + 2 < d ∨ d < m - 2) → (∀ m ∈ ag1 e n, m + 2 < d ∨ d < m - 2) → ((atE e d ≤ n ↔ atE e (d + 1) ≤ n) ∧ (atE e d < n ↔ atE e (d + 1) < n)) := by
  intro e n t m
  have t1 := t (e.1 - e.2.1) (by simp [acY])
  have t2 := t (e.2.2 - e.1) (by simp [acY])
  have t3 := t (Int.tdiv (e.2.2 - e.2.1) 2) (by simp [acY])
  have hh := asB (e.2.2 - e.2.1)
  have m1 := m (n - e.2.1) (by simp [ag1])
  have m2 := m (e.2.2 - n) (by simp [ag1])
  generalize Int.tdiv (e.2.2 - e.2.1) 2 = k at t3 hh
  unfold atE
  omega
 obtain ⟨a1, a2⟩ := key w.2.1 l.1 (fun m hm => q m (.inl hm)) (fun m hm => q m (.inr (.inr (.inl hm))))
 obtain ⟨b1, b2⟩ := key w.2.1 l.2 (fun m hm => q m (.inl hm)) (fun m hm => q m (.inr (.inr (.inr (.inr (.inl hm))))))
 obtain ⟨c1, c2⟩ := key w.2.2 (-l.1) (fun m hm => q m (.inr (.inl hm))) (fun m hm => q m (.inr (.inr (.inr (.inl hm)))))
 obtain ⟨d1, d2⟩ := key w.2.2 (-l.2) (fun m hm => q m (.inr (.inl hm))) (fun m hm => q m (.inr (.inr (.inr (.inr (.inr hm))))))
 unfold adI adE at ho ⊢
 dsimp only at ho ⊢
 split at ho
 ·omega
 ·rename_i h1
  split at ho
  ·omega
  ·rename_i h2
   rw [if_neg (by omega), if_neg (by omega)]
theorem aNw (w : ahF) (l : Int × Int) (hs : ajk w l = true) : ∀ d, w.1.1 ≤ d → d ≤ w.1.2 → adI (adE w d) l ≠ 3 := by
 unfold ajk at hs
 rw [List.all_eq_true] at hs
 have key : ∀ (k : Nat) (d : Int), w.1.1 ≤ d → d ≤ w.1.2 → (w.1.2 - d).toNat = k → adI (adE w d) l ≠ 3 := by
  intro k
  induction k with
  | zero =>
    intro d a b hk
    simpa using hs d (ahj.2 (.inr (.inl (by omega))))
  | succ k ih =>
    intro d a b hk
    by_cases hn : d ∈ alc w.1 (ak8 w l)
    ·simpa using hs d hn
    ·have hd : w.1.1 < d ∧ d < w.1.2 := by
      constructor
      ·rcases Int.lt_or_eq_of_le a with h | h
       ·exact h
       ·exact absurd (ahj.2 (.inl h.symm)) hn
      ·omega
     intro hv
     exact ih (d + 1) (by omega) (by omega) (by omega) (aN0 w l (ayx hd hn) hv)
 exact fun d a b => key _ d a b rfl
theorem aKt (w : ahF) (l : Int × Int) (hr : w.1.1 ≤ w.1.2) (hs : ajk w l = false) : ∃ d, w.1.1 ≤ d ∧ d ≤ w.1.2 ∧ adI (adE w d) l = 3 := by
 unfold ajk at hs
 rw [List.all_eq_false] at hs
 obtain ⟨d, hd, h⟩ := hs
 refine ⟨d, ?_, ?_, by simpa using h⟩ <;> rcases ahj.1 hd with q | q | ⟨q1, q2, _⟩ <;> omega
theorem aLu {s l : Int × Int} (h1 : -288230376151711744 < s.1 ∧ s.1 < 288230376151711744) (h2 : -288230376151711744 < s.2 ∧ s.2 < 288230376151711744) : adI s (aBo l.1, aBo l.2) = adI s l := by
 unfold adI aBo
 dsimp only
 have e1 : (max (-288230376151711744) (min l.1 288230376151711744) ≤ s.1 ∧ s.2 ≤ max (-288230376151711744) (min l.2 288230376151711744)) ↔ (l.1 ≤ s.1 ∧ s.2 ≤ l.2) := by omega
 have e2 : (s.2 < max (-288230376151711744) (min l.1 288230376151711744) ∨ max (-288230376151711744) (min l.2 288230376151711744) < s.1) ↔ (s.2 < l.1 ∨ l.2 < s.1) := by omega
 simp only [e1, e2]
end Go.Proofs.ZzM
end
noncomputable section
namespace Go.Proofs.ZzM
open Go Go.Am
section
variable {b : acv} {c : Cmp} {n : Int × Int} (hR : aOB b) (hn : aiZ b n) (hp : (acw b c).2 = 0)
include hR hn hp
theorem aPo : aiZ (acn b (ab7 c)) n := by
 obtain ⟨g, hg, e, hd⟩ := hn
 exact ⟨g, hg, e, aiV hd⟩
theorem aRf {d : Int} (h1 : (acw b c).1.1 ≤ d) (h2 : d ≤ (acw b c).1.2) : 0 ≤ aea (acW b n c) d := by
 obtain ⟨g1, g2⟩ := agr hp
 have hh : adF (acF (acn b (ab7 c))) ((acg (acn b (ab7 c))).length + 1) = true := by rw [ahw g1 g2]; exact hR.op
 have hnm := aPo hR hn hp
 have hpr := aku hp
 have o := hpr.order
 have nn := hpr.ends
 obtain ⟨f, z, hf, ht⟩ := hpr.each (max ((acw b c).1.1 - awe b c) (d - aid b c)) (by omega) (by omega)
 obtain ⟨hpot, hdiff⟩ := aJw g1 g2 hf
 obtain ⟨a1, a2⟩ := ayA b (ab7 c)
 have e1 : aid b (ab7 c) = aid b c := rfl
 have e2 : awe b (ab7 c) = awe b c := rfl
 have e3 : (ab7 c).2.2.2.2.1 = 0 := rfl
 have e4 : akr f z (ab7 c) = akr f z c := rfl
 rw [e1, e3] at a1
 rw [e2, e3] at a2
 rw [e4] at hdiff
 have hx := aob g2
 have hy := aoa g2
 have hk := adM (acn b (ab7 c)) n
 have hz := adH (acn b (ab7 c))
 have m : ∀ {s t : Int}, 0 ≤ s ∧ s < ((acg (acn b (ab7 c))).length + 1 : Nat) → 0 ≤ t ∧ t < ((acg (acn b (ab7 c))).length + 1 : Nat) → azj (acn b (ab7 c)) f z t - azj (acn b (ab7 c)) f z s ≤ aQ8 b (ab7 c) s t := fun hs ht => ass (afK g2) (afR g2) hh hs ht hpot
 have m1 := m hz hk
 have m2 := m hz hy
 have m3 := m hx hk
 have m4 := m hz hx
 have m5 := m hy hk
 have l1 := m hk hz
 have l2 := m hk hy
 have l3 := m hx hz
 have l4 := m hk hx
 have l5 := m hy hz
 unfold aea adE acW atE aSO
 dsimp only
 omega
end
end Go.Proofs.ZzM
end
noncomputable section
namespace Go.Proofs.ZzM
open Go Go.Am
theorem aDX (x y : Int) (g : Bool) : ∀ m : List (Int × Bool), alP (k := tI) (v := .bool) x (ayG (k := tI) (v := .bool) y g m) = if x = y then some g else alP (k := tI) (v := .bool) x m
 | [] => by
   unfold ayG alP agW alP
   by_cases h : x = y <;> simp [h]
 | e :: m => by
   unfold ayG
   by_cases h : y = e.1
   ·have : agW tI y e.1 = true := by simp [agW, h]
    rw [this]
    try dsimp only
    unfold alP agW
    by_cases h2 : x = y
    ·simp [h2]
    ·have : ¬ x = e.1 := fun h3 => h2 (h3.trans h.symm)
     simp [h2, this]
   ·have : agW tI y e.1 = false := by simp [agW, h]
    rw [this]
    try dsimp only
    have ih := aDX x y g m
    unfold alP
    by_cases h2 : x = e.1
    ·have : agW tI x e.1 = true := by simp [agW, h2]
     rw [this]
     have : ¬ x = y := fun h3 => h (h3.symm.trans h2)
     simp [this]
    ·have : agW tI x e.1 = false := by simp [agW, h2]
     rw [this]
     exact ih
def aB6 (l : List Int) : List (Int × Bool) := l.foldl (fun m x => ayG (k := tI) (v := .bool) x true m) []
theorem aon (l : List Int) (x : Int) : aB6 (l ++ [x]) = ayG (k := tI) (v := .bool) x true (aB6 l) := by unfold aB6; rw [List.foldl_append]; rfl
theorem aIh (x : Int) : ∀ (l : List Int) (m : List (Int × Bool)), alP (k := tI) (v := .bool) x (l.foldl (fun m x => ayG (k := tI) (v := .bool) x true m) m) = if l.contains x then some true else alP (k := tI) (v := .bool) x m
 | [], m => by simp
 | y :: l, m => by
   rw [List.foldl_cons, aIh x l, aDX]
   by_cases h : x = y
   ·subst h; simp
   ·simp [h]
theorem aIf (l : List Int) (x : Int) : alP (k := tI) (v := .bool) x (aB6 l) = if l.contains x then some true else none := aIh x l []
def asC (b : acv) (s : Int × Int) : List Int := if s.1 = 3 then (match b.2.2.2.2.1[s.2.toNat]? with | some c => c.2.2.1 ++ c.2.2.2.1 | none => []) else (match b.2.1[s.2.toNat]? with | some g => [g.1] | none => [])
def aBB (b : acv) (ss looks : List (Int × Int)) : List Int := ss.flatMap (asC b) ++ looks.map fun n => n.1
def auX (ss : List (Int × Int)) : List Int := (ss.filter fun s => s.1 == 3).map fun s => s.2
def ash (w : List Int) : Nat → List Cmp → List Cmp
 | _, [] => []
 | i, c :: t => if w.contains (i : Int) then c :: ash w (i + 1) t else ash w (i + 1) t
def cutP (b : acv) (ss looks : List (Int × Int)) : acv :=
 (b.1, b.2.1.filter fun g => (aBB b ss looks).contains g.1, b.2.2.1.filter fun u => (aBB b ss looks).contains u.1, b.2.2.2.1.filter fun l => (aBB b ss looks).contains l.1, ash (auX ss) 0 b.2.2.2.2.1, looks)
def aTU (b : acv) (s : Int × Int) : Prop := ((s.1 = 1 ∨ s.1 = 2) ∧ 0 ≤ s.2 ∧ s.2 < b.2.1.length) ∨ (s.1 = 3 ∧ 0 ≤ s.2 ∧ s.2 < b.2.2.2.2.1.length)
theorem aEi (w : List Int) (c : Cmp) : ∀ (l : List Cmp) (i : Nat), ash w i (l ++ [c]) = ash w i l ++ if w.contains ((i + l.length : Nat) : Int) then [c] else []
 | [], i => by simp only [List.nil_append, ash, List.length_nil, Nat.add_zero]
 | a :: l, i => by
   have e : ((i + 1 + l.length : Nat) : Int) = ((i + (l.length + 1) : Nat) : Int) := by congr 1; omega
   simp only [List.cons_append, ash, aEi w c l (i + 1), List.length_cons, e]
   split <;> rfl
theorem aA3 (w : List Int) : ∀ (l : List Cmp) (i : Nat), (ash w i l).length ≤ l.length
 | [], i => by simp [ash]
 | a :: l, i => by
   have := aA3 w l (i + 1)
   simp only [ash]
   split <;> simp only [List.length_cons] <;> omega
theorem apn {ρ : Type} (x : Int) (l : List Int) (f : Bool → Option ρ) (g : Option ρ) : aHm (k := tI) (v := .bool) x (aB6 l) f g = if l.contains x then f true else g := by
 unfold aHm
 rw [aIf]
 by_cases h : l.contains x = true
 ·rw [if_pos h, if_pos h]
 ·rw [if_neg h, if_neg h]
section
variable {ρ : Type}
theorem cut_L3 (l : List (Int × Int)) (hl : l.length ≤ 1000) (ids : List Int) (K : List (Int × Int) → Option ρ) : acm (fun (v47 : (Val (.pair tI (.slice ab6)))) kk50 => alY l (acD l) (aB6 ids) v47.1 v47.2 (fun u48 u49 => kk50 (u48, u49)) K) ((0 : Int), []) = K (l.filter fun u => ids.contains u.1) := by
 refine adg l (fun i => (l.take i).filter fun u => ids.contains u.1) _ rfl (fun i a hi ha kn => ?_) (fun kn => ?_)
 ·try dsimp only
  unfold alY
  have h1 := akd (fun u : Int × Int => ids.contains u.1) l i
  rw [acp hi, acj ha, apn, take_succ ha, List.filter_append]
  by_cases h : ids.contains a.1 = true
  ·rw [if_pos h, aee, adP (acq (by simp only [List.length_singleton]; omega)), acl hi (by omega)]
   simp only [List.filter_cons, List.filter_nil, h, if_pos]
  ·rw [if_neg h, acl hi (by omega)]
   simp only [List.filter_cons, List.filter_nil, h, if_neg, Bool.false_eq_true, not_false_eq_true, List.append_nil]
 ·try dsimp only
  unfold alY
  rw [acN, List.take_length]
theorem cut_L4 (l : List ayV) (hl : l.length ≤ 1000) (ids : List Int) (K : List ayV → Option ρ) : acm (fun (v47 : (Val (.pair tI (.slice adJ)))) kk50 => alX l (acD l) (aB6 ids) v47.1 v47.2 (fun u48 u49 => kk50 (u48, u49)) K) ((0 : Int), []) = K (l.filter fun u => ids.contains u.1) := by
 refine adg l (fun i => (l.take i).filter fun u => ids.contains u.1) _ rfl (fun i a hi ha kn => ?_) (fun kn => ?_)
 ·try dsimp only
  unfold alX
  have h1 := akd (fun u : ayV => ids.contains u.1) l i
  rw [acp hi, acj ha, apn, take_succ ha, List.filter_append]
  by_cases h : ids.contains a.1 = true
  ·rw [if_pos h, aee, adP (acq (by simp only [List.length_singleton]; omega)), acl hi (by omega)]
   simp only [List.filter_cons, List.filter_nil, h, if_pos]
  ·rw [if_neg h, acl hi (by omega)]
   simp only [List.filter_cons, List.filter_nil, h, if_neg, Bool.false_eq_true, not_false_eq_true, List.append_nil]
 ·try dsimp only
  unfold alX
  rw [acN, List.take_length]
theorem cut_L5 (l : List Cmp) (hl : l.length ≤ 1000) (hp : ∀ c ∈ l, c.2.2.1.length ≤ 1000 ∧ c.2.2.2.1.length ≤ 1000) (w : List Int) (K : List Cmp → Option ρ) : acm (fun (v47 : (Val (.pair tI (.slice acd)))) kk50 => alW l (acD l) (aB6 w) v47.1 v47.2 (fun u48 u49 => kk50 (u48, u49)) K) ((0 : Int), []) = K (ash w 0 l) := by
 refine adg l (fun i => ash w 0 (l.take i)) _ rfl (fun i a hi ha kn => ?_) (fun kn => ?_)
 ·try dsimp only
  unfold alW
  have h1 := aA3 w (l.take i) 0
  have h2 := hp a (List.mem_of_getElem? ha)
  have e : (l.take i).length = i := by rw [List.length_take]; omega
  rw [acp hi, acj ha, apn, take_succ ha, aEi, e, Nat.zero_add]
  by_cases h : w.contains (i : Int) = true
  ·rw [if_pos h, if_pos h, aee, adP (acq (by omega)), adP (acq (by omega)), adP (acq (by simp only [List.length_singleton]; omega)), acl hi (by omega)]
  ·rw [if_neg h, if_neg h, acl hi (by omega)]
   simp only [List.append_nil]
 ·try dsimp only
  unfold alW
  rw [acN, List.take_length]
theorem cut_L2 (looks : List (Int × Int)) (hl : looks.length ≤ 1000) (ids : List Int) (K : List (Int × Bool) → Option ρ) : acm (fun (v51 : (Val (.pair tI (.map tI .bool)))) kk54 => alZ looks (acD looks) v51.1 v51.2 (fun u52 u53 => kk54 (u52, u53)) K) ((0 : Int), aB6 ids) = K (aB6 (ids ++ looks.map fun n => n.1)) := by
 refine adg looks (fun i => aB6 (ids ++ (looks.take i).map fun n => n.1)) _ (by simp) (fun i a hi ha kn => ?_) (fun kn => ?_)
 ·try dsimp only
  unfold alZ
  rw [acp hi, acj ha, acl hi (by omega), take_succ ha, List.map_append, ← List.append_assoc, List.map_singleton, aon]
 ·try dsimp only
  unfold alZ
  rw [acN, List.take_length]
theorem cut_L1 (xs : List Int) (hl : xs.length ≤ 10000) (ids : List Int) (K : List (Int × Bool) → Option ρ) : acm (fun (v13 : (Val (.pair tI (.map tI .bool)))) kk16 => al0 xs (acD xs) v13.1 v13.2 (fun u14 u15 => kk16 (u14, u15)) K) ((0 : Int), aB6 ids) = K (aB6 (ids ++ xs)) := by
 refine adg xs (fun i => aB6 (ids ++ xs.take i)) _ (by simp) (fun i a hi ha kn => ?_) (fun kn => ?_)
 ·try dsimp only
  unfold al0
  rw [acp hi, acj ha, acl hi (by omega), take_succ ha, ← List.append_assoc, aon]
 ·try dsimp only
  unfold al0
  rw [acN, List.take_length]
end
theorem aic {ρ α : Type} {l : List α} {i : Int} (h0 : 0 ≤ i) {a : α} (h : l[i.toNat]? = some a) (f : α → Option ρ) : adU l i f = f a := by
 obtain ⟨n, rfl⟩ := Int.eq_ofNat_of_zero_le h0
 exact acj (by simpa using h) f
theorem cut_ok {b : acv} (hs : ahG b) {ss looks : List (Int × Int)} (h1 : ss.length ≤ 1000) (h2 : looks.length ≤ 1000) (hv : ∀ s ∈ ss, aTU b s) : aBp b ss looks = some (cutP b ss looks) := by
 have g1 := hs.gauges; have g2 := hs.uses; have g3 := hs.loans; have g4 := hs.compares; have g5 := hs.looks
 unfold aBp aPD ats
 refine adg ss (fun i => (aB6 ((ss.take i).flatMap (asC b)), aB6 (auX (ss.take i)))) _ rfl (fun i s hi ha kn => ?_) (fun kn => ?_)
 ·try dsimp only
  unfold ap0
  have hok := hv s (List.mem_of_getElem? ha)
  rw [acp hi, acj ha, take_succ ha, List.flatMap_append]
  have e3 : auX (ss.take i ++ [s]) = auX (ss.take i) ++ if s.1 = 3 then [s.2] else [] := by
   unfold auX
   rw [List.filter_append, List.map_append]
   congr 1
   by_cases h : s.1 = 3 <;> simp [h]
  rw [e3]
  rcases hok with ⟨hk, h0, h3⟩ | ⟨hk, h0, h3⟩
  ·have hg : b.2.1[s.2.toNat]? = some b.2.1[s.2.toNat] := List.getElem?_eq_getElem (by omega)
   generalize b.2.1[s.2.toNat] = g at hg
   have e1 : asC b s = [g.1] := by
    unfold asC
    rw [if_neg (by omega), hg]
   have e2 : List.flatMap (asC b) [s] = [g.1] := by simp [e1]
   rw [aco (decide_eq_false (by omega)), if_neg (by omega), List.append_nil, e2, aon]
   rcases hk with hk | hk
   ·rw [acB (decide_eq_true hk), aic h0 hg, acl hi (by omega)]
   ·rw [aco (decide_eq_false (by omega)), acB (decide_eq_true hk), aic h0 hg, acl hi (by omega)]
  ·have hc : b.2.2.2.2.1[s.2.toNat]? = some b.2.2.2.2.1[s.2.toNat] := List.getElem?_eq_getElem (by omega)
   have hp := hs.piles b.2.2.2.2.1[s.2.toNat] (List.getElem_mem _)
   generalize b.2.2.2.2.1[s.2.toNat] = c at hc hp
   have e1 : asC b s = c.2.2.1 ++ c.2.2.2.1 := by
    unfold asC
    rw [if_pos hk, hc]
   have e2 : List.flatMap (asC b) [s] = c.2.2.1 ++ c.2.2.2.1 := by simp [e1]
   rw [aco (decide_eq_false (by omega)), aco (decide_eq_false (by omega)), aco (decide_eq_false (by omega)), adP (decide_eq_true hk), if_pos hk, e2, aic h0 hc, aic h0 hc, ajP (by simp) (by simp; omega), ab4]
   rw [show ([c.2.2.1, c.2.2.2.1] : List (List Int)).flatten = c.2.2.1 ++ c.2.2.2.1 by simp]
   refine (cut_L1 (c.2.2.1 ++ c.2.2.2.1) (by simp; omega) _ _).trans ?_
   rw [aon, acl hi (by omega)]
 ·try dsimp only
  unfold ap0
  rw [acN]
  dsimp only
  rw [List.take_length]
  refine (cut_L2 looks h2 _ _).trans ?_
  rw [show (ss.flatMap (asC b) ++ looks.map fun n => n.1) = aBB b ss looks from rfl]
  unfold ap8
  try dsimp only
  rw [adP (acq (by omega)), ab4]
  have ek : (List.filter (fun g => (alP (k := tI) (v := .bool) g.1 (aB6 (aBB b ss looks))).getD false) b.2.1) = b.2.1.filter fun g => (aBB b ss looks).contains g.1 := by
   refine List.filter_congr fun g _ => ?_
   rw [aIf]
   cases (aBB b ss looks).contains g.1 <;> rfl
  rw [ek]
  unfold aiH
  dsimp only
  refine (cut_L3 b.2.2.1 g2 _ _).trans ?_
  refine (cut_L4 b.2.2.2.1 g3 _ _).trans ?_
  refine (cut_L5 b.2.2.2.2.1 g4 hs.piles _ _).trans ?_
  rfl
end Go.Proofs.ZzM
end
noncomputable section
namespace Go.Proofs.ZzM
open Go Go.Am
instance dec1 : DecidableEq ((Int × Int) × Int) := fun a b => instDecidableEqProd a b
instance dec2 : DecidableEq ((Int × Int) × ((Int × Int) × Int)) := fun a b => instDecidableEqProd a b
instance dec3 : DecidableEq (Int × (Int × Int) × ((Int × Int) × Int)) := fun a b => instDecidableEqProd a b
instance dec4 : DecidableEq (Int × Int × (Int × Int) × ((Int × Int) × Int)) := fun a b => instDecidableEqProd a b
instance decG : DecidableEq acS := fun a b => instDecidableEqProd a b
instance decL : DecidableEq ayV := fun a b => instDecidableEqProd a b
instance decI4 : DecidableEq (Int × (Int × (Int × Int))) := fun a b => instDecidableEqProd a b
instance decI5 : DecidableEq (List Int × Int × (Int × (Int × Int))) := fun a b => instDecidableEqProd a b
instance decI6 : DecidableEq (List Int × List Int × Int × (Int × (Int × Int))) := fun a b => instDecidableEqProd a b
instance decI7 : DecidableEq (Int × List Int × List Int × Int × (Int × (Int × Int))) := fun a b => instDecidableEqProd a b
instance decC : DecidableEq Cmp := fun a b => instDecidableEqProd a b
def aFj {α : Type} [DecidableEq α] (x : α) (l : List α) : Bool := l.any fun a => decide (x = a)
theorem aMz {α : Type} [DecidableEq α] {x : α} {l : List α} : aFj x l = true ↔ x ∈ l := by
 unfold aFj
 rw [List.any_eq_true]
 exact ⟨fun ⟨a, h1, h2⟩ => by rw [of_decide_eq_true h2]; exact h1, fun h => ⟨x, h, decide_eq_true rfl⟩⟩
theorem aKN {α : Type} [DecidableEq α] (l : List α) (x : α) : ige (match l.findIdx? (fun a => decide (x = a)) with | some j => (j : Int) | none => -1) 0 = aFj x l := by
 cases h : l.findIdx? (fun a => decide (x = a)) with
 | none =>
   have : aFj x l = false := by
    cases hm : aFj x l with
    | false => rfl
    | true => have := List.findIdx?_eq_none_iff.1 h x (aMz.1 hm); simp at this
   rw [this]
   rfl
 | some j =>
   obtain ⟨hj, hp, _⟩ := List.findIdx?_eq_some_iff_getElem.1 h
   have : x ∈ l := by rw [of_decide_eq_true hp]; exact List.getElem_mem _
   rw [aMz.2 this]
   exact decide_eq_true (by dsimp only; omega)
theorem aPy {ρ : Type} (o : Option Nat) (f : Int → Option ρ) : (match o with | some j => f (j : Int) | none => f (-1)) = f (match o with | some j => (j : Int) | none => -1) := by cases o <;> rfl
theorem aKd {l : List (Int × Int)} (hl : l.length ≤ 1000000) (x : Int × Int) : adj l x = some (aFj x l) := by
 unfold adj aeo ae8 ae5
 have e : acm (fun (v5 : Int) kk7 => adf l (acD l) x.1 x.2 v5 (fun u6 => kk7 u6) (fun z3 => some z3) (fun _ => some (-1 : Int))) (0 : Int) = some (match l.findIdx? (fun a => decide (x = a)) with | some j => (j : Int) | none => -1) := by
  refine (agd l (fun a => decide (x = a)) (fun z => some z) (some (-1)) (fun i a hi ha kn => ?_) (fun kn => ?_)).trans (aPy _ some)
  ·try dsimp only
   unfold adf
   have e : ((aeN x.1 a.1) && ((aeN x.2 a.2) && true)) = decide (x = a) := by
    rw [Bool.eq_iff_iff]; simp [aeN, Prod.ext_iff]
   rw [acp hi, acj ha, acl hi (by omega), adX, e]
  ·try dsimp only
   unfold adf
   rw [acN]
 rw [e, ab4]
 exact congrArg some (aKN l x)
theorem aHj {l : List ayV} (hl : l.length ≤ 1000000) (x : ayV) : ac5 l x = some (aFj x l) := by
 unfold ac5 ad6 aeJ aeH
 have e : acm (fun (v5 : Int) kk7 => ac4 l (acD l) x.1 x.2.1.1 x.2.1.2 x.2.2 v5 (fun u6 => kk7 u6) (fun z3 => some z3) (fun _ => some (-1 : Int))) (0 : Int) = some (match l.findIdx? (fun a => decide (x = a)) with | some j => (j : Int) | none => -1) := by
  refine (agd l (fun a => decide (x = a)) (fun z => some z) (some (-1)) (fun i a hi ha kn => ?_) (fun kn => ?_)).trans (aPy _ some)
  ·try dsimp only
   unfold ac4
   have e : ((aeN x.1 a.1) && ((aeN x.2.1.1 a.2.1.1) && ((aeN x.2.1.2 a.2.1.2) && ((aeN x.2.2 a.2.2) && true)))) = decide (x = a) := by
    rw [Bool.eq_iff_iff]; simp [aeN, Prod.ext_iff, and_assoc]
   rw [acp hi, acj ha, acl hi (by omega), adX, e]
  ·try dsimp only
   unfold ac4
   rw [acN]
 rw [e, ab4]
 exact congrArg some (aKN l x)
theorem aKe {l : List acS} (hl : l.length ≤ 1000000) (x : acS) : adp l x = some (aFj x l) := by
 unfold adp adT aek aei
 have e : acm (fun (v5 : Int) kk7 => ac1 l (acD l) x.1 x.2.1 x.2.2.1 x.2.2.2.1.1 x.2.2.2.1.2 x.2.2.2.2.1.1 x.2.2.2.2.1.2 x.2.2.2.2.2 v5 (fun u6 => kk7 u6) (fun z3 => some z3) (fun _ => some (-1 : Int))) (0 : Int) = some (match l.findIdx? (fun a => decide (x = a)) with | some j => (j : Int) | none => -1) := by
  refine (agd l (fun a => decide (x = a)) (fun z => some z) (some (-1)) (fun i a hi ha kn => ?_) (fun kn => ?_)).trans (aPy _ some)
  ·try dsimp only
   unfold ac1
   have e : ((aeN x.1 a.1) && ((aeN x.2.1 a.2.1) && ((aeN x.2.2.1 a.2.2.1) && ((aeN x.2.2.2.1.1 a.2.2.2.1.1) && ((aeN x.2.2.2.1.2 a.2.2.2.1.2) && ((aeN x.2.2.2.2.1.1 a.2.2.2.2.1.1) && ((aeN x.2.2.2.2.1.2 a.2.2.2.2.1.2) && ((aeN x.2.2.2.2.2 a.2.2.2.2.2) && true)))))))) = decide (x = a) := by
    rw [Bool.eq_iff_iff]; simp [aeN, Prod.ext_iff, and_assoc]
   rw [acp hi, acj ha, acl hi (by omega), adX, e]
  ·try dsimp only
   unfold ac1
   rw [acN]
 rw [e, ab4]
 exact congrArg some (aKN l x)
def aP1 (b : acv) : List Int := b.2.1.map fun g => g.1
def ahS {α : Type} [DecidableEq α] (x y : List α) (w : α → Bool) : Bool := x.all fun a => !w a || aFj a y
def aRz (s b : acv) : Bool :=
 ahS s.2.2.2.2.1 b.2.2.2.2.1 (fun _ => true) && (decide (s.1 = b.1) && (ahS s.2.1 b.2.1 (fun _ => true) && (ahS s.2.2.1 b.2.2.1 (fun u => (aP1 s).contains u.1) && (ahS b.2.2.1 s.2.2.1 (fun u => (aP1 s).contains u.1) &&
  (ahS s.2.2.2.1 b.2.2.2.1 (fun u => (aP1 s).contains u.1) && ahS b.2.2.2.1 s.2.2.2.1 (fun u => (aP1 s).contains u.1))))))
section
variable {ρ : Type}
theorem awH {α : Type} [DecidableEq α] (x y : List α) (w : α → Bool) (X Y KF : Option ρ) {f : Int → (Int → Option ρ) → Option ρ}
 (h : ∀ (i : Nat) (a : α), i < x.length → x[i]? = some a → ∀ kn, f i kn = if !(!w a || aFj a y) then (ifb (!(ige (i : Int) 0)) X KF) else kn ((i : Int) + 1))
 (hn : ∀ kn, f x.length kn = Y) : acm f 0 = if ahS x y w then Y else KF := by
 refine (agJ x (fun a => !(!w a || aFj a y)) (fun z => ifb (!(ige z 0)) X KF) KF Y (fun j => by rw [show ige (j : Int) 0 = true from decide_eq_true (by omega)]; rfl) h hn).trans ?_
 unfold ahS
 rw [List.all_eq_not_any_not]
 cases x.any fun a => !(!w a || aFj a y) <;> rfl
theorem aTi : @amN ρ = @ah6 ρ := rfl
theorem aEf {x y : List Int} (hl : x.length = y.length) (hx : x.length ≤ 1000000) (k0 : Bool → Option ρ) (K : Option ρ) :
 acm (fun (v30 : Int) kk32 => ah6 x y (acD x) v30 (fun u31 => kk32 u31) k0 (fun _ => K)) (0 : Int) = if x = y then K else k0 false := by
 refine (ame x (fun i a => if y[i]? = some a then none else some false) k0 K (fun i a hi ha kn => ?_) (fun kn => ?_)).trans ?_
 ·try dsimp only
  unfold ah6
  have hm : y[i]? = some y[i] := List.getElem?_eq_getElem (by omega)
  rw [acp hi, acj ha, acj hm, acl hi (by omega), hm, adX]
  by_cases h : a = y[i]
  ·simp [ine, h]
  ·have h' : ¬ y[i] = a := fun e => h e.symm
   simp [ine, h, h']
 ·try dsimp only
  unfold ah6
  rw [acN]
 ·cases h : aeS (fun i a => if y[i]? = some a then none else some false) 0 x with
  | none => rw [if_pos (aO1 hl h)]
  | some b =>
    obtain ⟨h1, h2⟩ := aO0 h
    rw [if_neg h2, h1]
theorem aO2 {l : List Cmp} (hl : l.length ≤ 1000) (c : Cmp) (hA : c.2.2.1.length ≤ 1000) (hB : c.2.2.2.1.length ≤ 1000) (k0 : Int → Option ρ) (K1 KF : Option ρ) (hk : ∀ j : Nat, k0 (j : Int) = K1) :
 acm (fun (v41 : Int) kk43 => aj2 l (acD l) c.1 c.2.1 c.2.2.1 c.2.2.2.1 c.2.2.2.2.1 c.2.2.2.2.2.1 c.2.2.2.2.2.2.1 c.2.2.2.2.2.2.2 v41 (fun u42 => kk43 u42) k0 (fun _ => KF)) (0 : Int) = if aFj c l then K1 else KF := by
 refine (agJ l (fun d => decide (c = d)) k0 K1 KF hk (fun i d hi hd kn => ?_) (fun kn => ?_)).trans rfl
 ·try dsimp only
  unfold aj2
  have hsplit : (c = d) ↔ (c.1 = d.1 ∧ c.2.1 = d.2.1 ∧ c.2.2.2.2.1 = d.2.2.2.2.1 ∧ c.2.2.2.2.2.1 = d.2.2.2.2.2.1 ∧ (c.2.2.2.2.2.2.1 = d.2.2.2.2.2.2.1 ∧ c.2.2.2.2.2.2.2 = d.2.2.2.2.2.2.2) ∧ c.2.2.1 = d.2.2.1 ∧ c.2.2.2.1 = d.2.2.2.1) := by
   simp only [Prod.ext_iff]
   constructor
   ·rintro ⟨a1, a2, a3, a4, a5, a6, a7, a8⟩; exact ⟨a1, a2, a5, a6, ⟨a7, a8⟩, a3, a4⟩
   ·rintro ⟨a1, a2, a5, a6, ⟨a7, a8⟩, a3, a4⟩; exact ⟨a1, a2, a3, a4, a5, a6, a7, a8⟩
  have hno : ∀ {P : Prop}, ¬ P → (c = d → P) → (if decide (c = d) = true then k0 (i : Int) else kn ((i : Int) + 1)) = kn ((i : Int) + 1) := fun h1 h2 => by
   rw [if_neg]
   intro h
   exact h1 (h2 (of_decide_eq_true h))
  rw [acp hi, acj hd, acl hi (by omega)]
  by_cases a1 : c.1 = d.1
  case neg => rw [hno a1 (fun e => (hsplit.1 e).1), aco (beq_eq_false_iff_ne.2 a1)]
  rw [acB (beq_iff_eq.2 a1)]
  by_cases a2 : c.2.1 = d.2.1
  case neg => rw [hno a2 (fun e => (hsplit.1 e).2.1), aco (beq_eq_false_iff_ne.2 a2)]
  rw [acB (beq_iff_eq.2 a2)]
  by_cases a3 : c.2.2.2.2.1 = d.2.2.2.2.1
  case neg => rw [hno a3 (fun e => (hsplit.1 e).2.2.1), aco (beq_eq_false_iff_ne.2 a3)]
  rw [acB (beq_iff_eq.2 a3)]
  by_cases a4 : c.2.2.2.2.2.1 = d.2.2.2.2.2.1
  case neg => rw [hno a4 (fun e => (hsplit.1 e).2.2.2.1), aco (beq_eq_false_iff_ne.2 a4)]
  rw [acB (beq_iff_eq.2 a4)]
  by_cases a5 : c.2.2.2.2.2.2.1 = d.2.2.2.2.2.2.1 ∧ c.2.2.2.2.2.2.2 = d.2.2.2.2.2.2.2
  case neg => rw [hno a5 (fun e => (hsplit.1 e).2.2.2.2.1), aco (by simp only [aeN, Bool.and_true, Bool.and_eq_false_iff, decide_eq_false_iff_not]; exact Decidable.not_and_iff_or_not.1 a5)]
  rw [acB (by simp [aeN, a5.1, a5.2]), acQ, acQ, acQ, acQ]
  have rest : ∀ X Y : Option ρ, (c.2.2.1 = d.2.2.1) → (if decide (c = d) = true then k0 (i : Int) else kn ((i : Int) + 1)) = (if c.2.2.2.1 = d.2.2.2.1 then k0 (i : Int) else kn ((i : Int) + 1)) := by
   intro _ _ h
   by_cases g : c.2.2.2.1 = d.2.2.2.1
   ·rw [if_pos (decide_eq_true (hsplit.2 ⟨a1, a2, a3, a4, a5, h, g⟩)), if_pos g]
   ·rw [if_neg g]; exact hno g (fun e => (hsplit.1 e).2.2.2.2.2.2)
  by_cases l1 : c.2.2.1.length = d.2.2.1.length
  case neg =>
   rw [hno l1 (fun e => by rw [e]), acB (bne_iff_ne.2 (by omega))]
  rw [aco (by rw [l1]; exact bne_self_eq_false' _)]
  have e3 := aEf (ρ := ρ) l1 (by omega)
  rw [acQ] at e3
  rw [e3]
  by_cases g1 : c.2.2.1 = d.2.2.1
  case neg => rw [if_neg g1, acO, hno g1 (fun e => (hsplit.1 e).2.2.2.2.2.1)]
  rw [if_pos g1, rest none none g1]
  by_cases l2 : c.2.2.2.1.length = d.2.2.2.1.length
  case neg =>
   rw [acB (bne_iff_ne.2 (by omega)), if_neg (fun e => l2 (by rw [e]))]
  rw [aco (by rw [l2]; exact bne_self_eq_false' _), aTi]
  have e4 := aEf (ρ := ρ) l2 (by omega)
  rw [acQ] at e4
  rw [e4, acO]
 ·try dsimp only
  unfold aj2
  rw [acN]
theorem aTh : @ah5 ρ = @agS ρ := rfl
theorem aTg : @adc ρ = @adL ρ := rfl
theorem aTZ {x y : List acS} (hx : x.length ≤ 1000) (hy : y.length ≤ 1000) (X Y KF : Option ρ) : acm (fun (v225 : Int) kk227 => aj1 x (acD x) y v225 (fun u226 => kk227 u226) (fun z => ifb (!(ige z 0)) X KF) (fun _ => Y)) (0 : Int) = if ahS x y (fun _ => true) then Y else KF := by
 refine awH x y (fun _ => true) X Y KF (fun i a hi ha kn => ?_) (fun kn => ?_)
 ·try dsimp only
  unfold aj1
  rw [acp hi, acj ha, aKe (by omega), ab4, acl hi (by omega), adX]
  simp
 ·try dsimp only
  unfold aj1
  rw [acN]
theorem aQ1 {x y : List (Int × Int)} (hx : x.length ≤ 1000) (hy : y.length ≤ 1000) (ids : List Int) (X Y KF : Option ρ) : acm (fun (v225 : Int) kk227 => agS x (acD x) (aB6 ids) y v225 (fun u226 => kk227 u226) (fun z => ifb (!(ige z 0)) X KF) (fun _ => Y)) (0 : Int) = if ahS x y (fun u => ids.contains u.1) then Y else KF := by
 refine awH x y (fun u => ids.contains u.1) X Y KF (fun i a hi ha kn => ?_) (fun kn => ?_)
 ·try dsimp only
  unfold agS
  rw [acp hi, acj ha, apn, aKd (by omega), ab4]
  by_cases h : ids.contains a.1 = true
  ·rw [if_pos h, aee, acl hi (by omega), adX, h]
   simp
  ·rw [if_neg h, acl hi (by omega)]
   have h' := Bool.not_eq_true _ ▸ h
   rw [h']
   simp
 ·try dsimp only
  unfold agS
  rw [acN]
theorem aQ0 {x y : List ayV} (hx : x.length ≤ 1000) (hy : y.length ≤ 1000) (ids : List Int) (X Y KF : Option ρ) : acm (fun (v225 : Int) kk227 => adL x (acD x) (aB6 ids) y v225 (fun u226 => kk227 u226) (fun z => ifb (!(ige z 0)) X KF) (fun _ => Y)) (0 : Int) = if ahS x y (fun u => ids.contains u.1) then Y else KF := by
 refine awH x y (fun u => ids.contains u.1) X Y KF (fun i a hi ha kn => ?_) (fun kn => ?_)
 ·try dsimp only
  unfold adL
  rw [acp hi, acj ha, apn, aHj (by omega), ab4]
  by_cases h : ids.contains a.1 = true
  ·rw [if_pos h, aee, acl hi (by omega), adX, h]
   simp
  ·rw [if_neg h, acl hi (by omega)]
   have h' := Bool.not_eq_true _ ▸ h
   rw [h']
   simp
 ·try dsimp only
  unfold adL
  rw [acN]
theorem aTY {x y : List ayV} (hx : x.length ≤ 1000) (hy : y.length ≤ 1000) (ids : List Int) (k : Bool → Option ρ) : acm (fun (v225 : Int) kk227 => adL x (acD x) (aB6 ids) y v225 (fun u226 => kk227 u226) (fun z => k (!(ige z 0))) (fun _ => k true)) (0 : Int) = k (ahS x y (fun u => ids.contains u.1)) := by
 have h := aQ0 (ρ := ρ) hx hy ids (k true) (k true) (k false)
 have e : (fun z : Int => ifb (!(ige z 0)) (k true) (k false)) = fun z => k (!(ige z 0)) := by
  funext z
  cases (!(ige z 0)) <;> rfl
 rw [e] at h
 rw [h]
 cases ahS x y (fun u => ids.contains u.1) <;> rfl
theorem aT0 {x y : List Cmp} (hx : x.length ≤ 1000) (hp : ∀ c ∈ x, c.2.2.1.length ≤ 1000 ∧ c.2.2.2.1.length ≤ 1000) (hy : y.length ≤ 1000) (K : Option Bool) : acm (fun (v228 : Int) kk230 => aj3 x (acD x) y v228 (fun u229 => kk230 u229) (fun z44 => some z44) (fun _ => K)) (0 : Int) = if (x.all fun c => aFj c y) = true then K else some false := by
 refine (agJ x (fun c => !aFj c y) (fun _ => some false) (some false) K (fun _ => rfl) (fun i c hi hc kn => ?_) (fun kn => ?_)).trans ?_
 rotate_left
 ·try dsimp only
  unfold aj3
  rw [acN]
 ·rw [List.all_eq_not_any_not]
  cases x.any fun c => !aFj c y <;> rfl
 ·try dsimp only
  unfold aj3
  have h := hp c (List.mem_of_getElem? hc)
  rw [acp hi, acj hc]
  refine (aO2 hy c h.1 h.2 _ (kn ((i : Int) + 1)) (some false) (fun j => by rw [show ige (j : Int) 0 = true from decide_eq_true (by omega), acl hi (by omega)]; rfl)).trans ?_
  cases aFj c y <;> rfl
end
theorem part_ok {s b : acv} (hs : ahG s) (hb : ahG b) : auO s b = some (aRz s b) := by
 have g1 := hs.gauges; have g2 := hs.uses; have g3 := hs.loans; have g4 := hs.compares
 have b1 := hb.gauges; have b2 := hb.uses; have b3 := hb.loans; have b4 := hb.compares
 unfold auO aFA aRz
 rw [aTh, aTg]
 refine (adg s.2.1 (fun i => aB6 (aP1 (s.1, s.2.1.take i, s.2.2))) (some _) rfl (fun i g hi hg kn => ?_) (fun kn => ?_))
 ·try dsimp only
  unfold amO
  rw [acp hi, acj hg, acl hi (by omega)]
  unfold aP1
  dsimp only
  rw [take_succ hg, List.map_append, List.map_singleton, aon]
 ·try dsimp only
  unfold amO
  rw [acN, List.take_length]
  try dsimp only
  rw [show aP1 (s.1, s.2.1, s.2.2) = aP1 s from rfl]
  refine (aT0 g4 hs.piles b4 _).trans ?_
  rw [show (ahS s.2.2.2.2.1 b.2.2.2.2.1 fun _ => true) = s.2.2.2.2.1.all fun c => aFj c b.2.2.2.2.1 from rfl]
  by_cases hc : (s.2.2.2.2.1.all fun c => aFj c b.2.2.2.2.1) = true
  case neg => rw [if_neg hc, Bool.eq_false_iff.2 hc]; rfl
  rw [if_pos hc, hc, Bool.true_and]
  by_cases hf : s.1 = b.1
  case neg =>
   have ef : (aeN s.1.1 b.1.1 && (aeN s.1.2 b.1.2 && true)) = false := by
    rw [Prod.ext_iff] at hf
    simp [aeN]
    omega
   rw [ef, acO, decide_eq_false hf]
   rfl
  have ef : (aeN s.1.1 b.1.1 && (aeN s.1.2 b.1.2 && true)) = true := by simp [aeN, hf]
  rw [ef, aee, decide_eq_true hf, Bool.true_and]
  refine (aTZ g1 b1 _ _ _).trans ?_
  cases ahS s.2.1 b.2.1 fun _ => true
  case false => rfl
  rw [if_pos rfl, Bool.true_and]
  refine (aQ1 g2 b2 _ _ _ _).trans ?_
  cases ahS s.2.2.1 b.2.2.1 fun u => (aP1 s).contains u.1
  case false => rfl
  rw [if_pos rfl, Bool.true_and]
  refine (aQ1 b2 g2 _ _ _ _).trans ?_
  cases ahS b.2.2.1 s.2.2.1 fun u => (aP1 s).contains u.1
  case false => rfl
  rw [if_pos rfl, Bool.true_and]
  refine (aQ0 g3 b3 _ _ _ _).trans ?_
  cases ahS s.2.2.2.1 b.2.2.2.1 fun u => (aP1 s).contains u.1
  case false => rfl
  rw [if_pos rfl, Bool.true_and]
  exact aTY b3 g3 _ some
end Go.Proofs.ZzM
end
noncomputable section
namespace Go.Proofs.ZzM
open Go Go.Am
def an9 (x : List Int) (y : List Int) (l : Lk) : List Int := if gv x l.2.1 = afx then y else y.set l.1.toNat (min (gv y l.1) (l.2.2 + gv x l.2.1))
def aJJ (L : List Lk) (N : Nat) (x : List Int) : List Int := L.foldl (an9 x) (List.replicate N afx)
def exL (L : List Lk) (N : Nat) (to : Int) : Nat → List Int
 | 0 => (List.replicate N afx).set to.toNat 0
 | k + 1 => aJJ L N (exL L N to k)
def ajh (L : List Lk) (N : Nat) (to : Int) (most : Nat) : List (List Int) := (List.range (most + 1)).map (exL L N to)
section
variable {L : List Lk} {N : Nat}
theorem aEx (x y : List Int) (l : Lk) : (an9 x y l).length = y.length := by unfold an9; split <;> simp
theorem awu (x : List Int) : ∀ (M : List Lk) (y : List Int), (M.foldl (an9 x) y).length = y.length
 | [], y => rfl
 | l :: M, y => by rw [List.foldl_cons, awu x M, aEx]
theorem aN6 (x : List Int) : (aJJ L N x).length = N := by unfold aJJ; rw [awu]; simp
theorem aLv (to : Int) (k : Nat) : (exL L N to k).length = N := by
 cases k with
 | zero => simp [exL]
 | succ k => exact aN6 _
def Lim (B : Int) (x : List Int) : Prop := ∀ v : Int, gv x v ≠ afx → -B ≤ gv x v ∧ gv x v ≤ B
theorem gv_out {x : List Int} {v : Int} (h : ¬ v.toNat < x.length) : gv x v = 0 := by
 unfold gv
 rw [List.getElem?_eq_none (by omega)]
 rfl
theorem aPV {B : Int} (hB : 0 ≤ B) : Lim B (List.replicate N afx) := by
 intro v hv
 by_cases h : v.toNat < N
 ·exfalso; apply hv
  unfold gv
  rw [List.getElem?_replicate, if_pos h]
  rfl
 ·rw [gv_out (by simpa using h)]; omega
theorem aPU {B : Int} {y : List Int} (hy : Lim B y) {u : Int} (hu : 0 ≤ u) (hl : u.toNat < y.length) {a : Int} (ha : a ≠ afx → -B ≤ a ∧ a ≤ B) : Lim B (y.set u.toNat a) := by
 intro v hv
 by_cases h : v.toNat = u.toNat
 ·have : gv (y.set u.toNat a) v = a := by
   unfold gv
   rw [h, List.getElem?_set_self hl]
   rfl
  rw [this] at hv ⊢
  exact ha hv
 ·have : gv (y.set u.toNat a) v = gv y v := by
   unfold gv
   rw [List.getElem?_set_ne (fun e => h e.symm)]
  rw [this] at hv ⊢
  exact hy v hv
theorem aRO (hS : afu L N) {B : Int} (hB : 0 ≤ B) (hB2 : B ≤ 1000000000000000000) {x y : List Int} (hx : Lim B x) (hy : Lim (B + 4503599627370496) y) (hl : y.length = N) {l : Lk} (hm : l ∈ L) : Lim (B + 4503599627370496) (an9 x y l) := by
 unfold an9
 split
 ·exact hy
 ·rename_i hf
  have h1 := hS.inr l hm
  have h2 := hS.most l hm
  have h3 := hx _ hf
  refine aPU hy h1.1.1 (by omega) fun ha => ?_
  by_cases h4 : gv y l.1 = afx
  ·rw [h4] at ha ⊢
   have : min afx (l.2.2 + gv x l.2.1) = l.2.2 + gv x l.2.1 := by unfold afx; omega
   rw [this]; omega
  ·have := hy _ h4
   omega
theorem aME (hS : afu L N) {B : Int} (hB : 0 ≤ B) (hB2 : B ≤ 1000000000000000000) {x : List Int} (hx : Lim B x) : ∀ (M : List Lk), (∀ l ∈ M, l ∈ L) → ∀ y : List Int, y.length = N → Lim (B + 4503599627370496) y → Lim (B + 4503599627370496) (M.foldl (an9 x) y)
 | [], _, y, _, hy => hy
 | l :: M, hM, y, hl, hy => by
   rw [List.foldl_cons]
   exact aME hS hB hB2 hx M (fun m hm => hM m (by simp [hm])) _ (by rw [aEx, hl]) (aRO hS hB hB2 hx hy hl (hM l (by simp)))
theorem aLn (hS : afu L N) {to : Int} (ht : 0 ≤ to ∧ to < N) : ∀ k : Nat, k ≤ 200 → Lim (k * 4503599627370496) (exL L N to k)
 | 0, _ => by
   unfold exL
   exact aPU (aPV (by omega)) ht.1 (by simp; omega) (fun _ => by omega)
 | k + 1, hk => by
   have := aME hS (B := k * 4503599627370496) (by omega) (by omega) (aLn hS ht k (by omega)) L (fun _ h => h) (List.replicate N afx) (by simp) (aPV (by omega))
   unfold exL aJJ
   have e : (((k + 1 : Nat) : Int) * 4503599627370496) = (k : Int) * 4503599627370496 + 4503599627370496 := by push_cast; omega
   rw [e]
   exact this
theorem aJG {ρ : Type} (hN : N ≤ 1000) (K : List Int → Option ρ) {f : Int × List Int → (Int × List Int → Option ρ) → Option ρ}
 (hf : ∀ (v : Int × List Int) kk, f v kk = ap2 (N : Int) v.1 v.2 (fun u34 u35 => kk (u34, u35)) K) : acm f ((0 : Int), List.replicate N (0 : Int)) = K (List.replicate N afx) := by
 refine adg (List.replicate N (0 : Int)) (fun i => List.replicate i afx ++ List.replicate (N - i) (0 : Int)) _ (by simp) (fun i a hi ha kn => ?_) (fun kn => ?_)
 ·rw [hf]
  dsimp only
  unfold ap2
  rw [List.length_replicate] at hi
  have hlen : (List.replicate i afx ++ List.replicate (N - i) (0 : Int)).length = N := by simp; omega
  have e1 : ilt (i : Int) (N : Int) = true := decide_eq_true (by omega)
  rw [acB e1, show adK (List.replicate i afx ++ List.replicate (N - i) (0 : Int)) = (N : Int) by unfold adK; rw [hlen], age (by omega) (by omega), agN (by rw [hlen]; omega), acu (by omega) (by omega)]
  congr 2
  rw [Int.toNat_natCast]
  rw [List.set_append_right _ _ (by simp), List.length_replicate, Nat.sub_self]
  rw [show N - i = (N - (i + 1)) + 1 by omega, List.replicate_succ, List.set_cons_zero, List.replicate_succ']
  simp
 ·rw [hf]
  dsimp only
  unfold ap2
  rw [List.length_replicate]
  have e1 : ilt (N : Int) (N : Int) = false := decide_eq_false (by omega)
  rw [aco e1]
  simp
theorem okN (hN : N ≤ 1000) {ρ : Type} (x : Option ρ) : acX ((ile (0 : Int) (N : Int)) && (acP (Int.toNat (N : Int)))) x = x := by
 rw [adP]
 rw [Int.toNat_natCast, acq (by omega), Bool.and_true]
 exact decide_eq_true (by omega)
theorem aPT {ρ : Type} (hS : afu L N) {B : Int} (hB : 0 ≤ B) (hB2 : B ≤ 1000000000000000000) {x : List Int} (hx : Lim B x) (hxl : x.length = N) (K : List Int → Option ρ) :
 acm (fun (v20 : (Val (.pair tI (.slice tI)))) kk23 => atM x L (acD L) v20.1 v20.2 (fun u21 u22 => kk23 (u21, u22)) K) ((0 : Int), List.replicate N afx) = K (aJJ L N x) := by
 have hl3 := hS.len
 refine adg L (fun i => (L.take i).foldl (an9 x) (List.replicate N afx)) _ rfl (fun i l hi hl kn => ?_) (fun kn => ?_)
 ·try dsimp only
  unfold atM
  have hm := List.mem_of_getElem? hl
  have h1 := hS.inr l hm
  have h2 := hS.most l hm
  rw [acp hi, acj hl, apr h1.2.1 (by omega), take_succ hl, List.foldl_append, acl hi (by omega)]
  have hlen : ((L.take i).foldl (an9 x) (List.replicate N afx)).length = N := by rw [awu]; simp
  generalize (L.take i).foldl (an9 x) (List.replicate N afx) = y at hlen ⊢
  by_cases hf : gv x l.2.1 = afx
  ·rw [aco (by rw [hf]; rfl)]
   simp only [List.foldl_cons, List.foldl_nil]
   unfold an9
   rw [if_pos hf]
  ·have h3 := hx _ hf
   rw [acB (bne_iff_ne.2 hf), show adK y = (N : Int) by unfold adK; rw [hlen], age h1.1.1 h1.1.2, agN (by omega), apr h1.2.1 (by omega), acu (by omega) (by omega), age h1.1.1 h1.1.2, agN (by omega), acl hi (by omega)]
   simp only [List.foldl_cons, List.foldl_nil]
   unfold an9
   rw [if_neg hf, aA9]
 ·try dsimp only
  unfold atM
  rw [acN, List.take_length]
  rfl
theorem aR6 {ρ : Type} : @aFV ρ = @ap2 ρ := rfl
theorem ag9 (to : Int) (m : Nat) : (ajh L N to m).length = m + 1 := by simp [ajh]
theorem awt {to : Int} {m k : Nat} (hk : k ≤ m) : (ajh L N to m)[k]? = some (exL L N to k) := by
 unfold ajh
 rw [List.getElem?_map, List.getElem?_range (by omega)]
 rfl
theorem aR5 (hS : afu L N) {to : Int} (ht : 0 ≤ to ∧ to < N) {most : Nat} (hm : most ≤ 100) : apy ((N : Int), L) to (most : Int) = some (ajh L N to most) := by
 have hN := hS.n60
 unfold apy az5
 dsimp only
 rw [okN (by omega), Int.toNat_natCast]
 refine (aJG (by omega) _ (fun v kk => by rw [acQ, List.length_replicate])).trans ?_
 rw [show adK (List.replicate N afx) = (N : Int) by simp [adK], age ht.1 ht.2, agN (by simp; omega)]
 refine adg (List.replicate most ()) (fun i => ajh L N to i) _ (by simp [ajh, exL]) (fun i a hi ha kn => ?_) (fun kn => ?_)
 ·try dsimp only
  unfold ayJ
  rw [List.length_replicate] at hi
  have e1 : ilt (i : Int) (most : Int) = true := decide_eq_true (by omega)
  rw [acB e1, acQ, ag9]
  have e2 : (((i + 1 : Nat) : Int) - 1) = (i : Int) := by omega
  rw [e2, acu (by omega) (by omega), show adK (ajh L N to i) = ((i + 1 : Nat) : Int) by unfold adK; rw [ag9], age (by omega) (by omega), Int.toNat_natCast, amE (awt (Nat.le_refl i)), okN (by omega), Int.toNat_natCast]
  rw [aR6]
  refine (aJG (by omega) _ (fun v kk => by rw [acQ, List.length_replicate])).trans ?_
  refine (aPT hS (B := i * 4503599627370496) (by omega) (by omega) (aLn hS ht i (by omega)) (aLv _ _) _).trans ?_
  rw [adP (acq (by simp only [ag9, List.length_singleton]; omega)), acu (by omega) (by omega)]
  congr 2
  unfold ajh
  rw [List.range_succ (n := i + 1), List.map_append]
  rfl
 ·try dsimp only
  unfold ayJ
  rw [List.length_replicate]
  have e1 : ilt (most : Int) (most : Int) = false := decide_eq_false (by omega)
  rw [aco e1]
def aCc (L : List Lk) (x : List Int) (good : Int → Bool) (u sum : Int) : Option Nat := L.findIdx? fun l => l.1 == u && (decide (gv x l.2.1 ≠ afx) && good (sum + l.2.2 + gv x l.2.1))
def alz (L : List Lk) (rest : Nat → List Int) (good : Int → Bool) : Nat → Int → Int → List Int → List Int
 | 0, _, _, out => out
 | k + 1, u, sum, out => match aCc L (rest k) good u sum with
   | some i => alz L rest good k (L[i]?.getD (0, 0, 0)).2.1 (sum + (L[i]?.getD (0, 0, 0)).2.2) (out ++ [(i : Int)])
   | none => alz L rest good k u sum out
def folL {ρ : Type} (good : Int → Bool) (c0 : Int) (c1 : List (List Int)) (c2 : List Lk) (c3 : Int) (v0 : Int) (v1 : Int) (v2 : Int) (v3 : List Int) (kn : Int → Int → Int → List Int → Option ρ) (k0 : Int × Int × List Int → Option ρ) : Option ρ :=
 ifb (ilt v2 c3) (adU c2 v2 fun e7 => ifb (ieq e7.1 v0) (ck (c0 - (1 : Int)) fun n8 => adU c1 n8 fun e9 => adU e9 e7.2.1 fun e10 => ifb (ine e10 (1152921504606846976 : Int)) (ck (v1 + e7.2.2) fun n11 => ck (c0 - (1 : Int)) fun n12 => adU c1 n12 fun e13 => adU e13 e7.2.1 fun e14 => ck (n11 + e14) fun n15 => ifb (good n15) (acX (acP ((List.length v3) + (List.length ([v2])))) (ck (v1 + e7.2.2) fun n16 => k0 (e7.2.1, n16, (v3 ++ ([v2]))))) (ck (v2 + (1 : Int)) fun n17 => kn v0 v1 n17 v3)) (ck (v2 + (1 : Int)) fun n18 => kn v0 v1 n18 v3)) (ck (v2 + (1 : Int)) fun n19 => kn v0 v1 n19 v3)) (k0 (v0, v1, v3))
theorem aTB {ρ : Type} (hS : afu L N) (good : Int → Bool) {rest : List (List Int)} {k : Nat} {x : List Int} (hr : rest[k]? = some x) (hk : k ≤ 100) (hx : Lim 1000000000000000000 x) (hxl : x.length = N) {u sum : Int} (hs : -1000000000000000000 ≤ sum ∧ sum ≤ 1000000000000000000) {out : List Int} (ho : out.length ≤ 1000)
 (K : Int × Int × List Int → Option ρ) : acm (fun (v : Int × Int × Int × List Int) kk => folL good ((k + 1 : Nat) : Int) rest L (acD L) v.1 v.2.1 v.2.2.1 v.2.2.2 (fun a b c d => kk (a, b, c, d)) K) (u, sum, (0 : Int), out) =
  match aCc L x good u sum with | some i => K ((L[i]?.getD (0, 0, 0)).2.1, sum + (L[i]?.getD (0, 0, 0)).2.2, out ++ [(i : Int)]) | none => K (u, sum, out) := by
 have hl3 := hS.len
 refine afk (fun v => ∃ i : Nat, i ≤ L.length ∧ v = (u, sum, (i : Int), out) ∧ ∀ j l, j < i → L[j]? = some l → (l.1 == u && (decide (gv x l.2.1 ≠ afx) && good (sum + l.2.2 + gv x l.2.1))) = false) (fun v => L.length - v.2.2.1.toNat) ?_ ⟨0, by omega, rfl, fun j l h => by omega⟩
 rintro v ⟨i, hi, rfl, hp⟩
 have e0 : (((k + 1 : Nat) : Int) - 1) = (k : Int) := by omega
 rcases Nat.lt_or_ge i L.length with h2 | h2
 ·have hl : L[i]? = some L[i] := List.getElem?_eq_getElem h2
  generalize L[i] = l at hl
  have hm := List.mem_of_getElem? hl
  have h1 := hS.inr l hm
  have h4 := hS.most l hm
  have hstep : (l.1 == u && (decide (gv x l.2.1 ≠ afx) && good (sum + l.2.2 + gv x l.2.1))) = false → ∃ y, (∃ i : Nat, i ≤ L.length ∧ y = (u, sum, (i : Int), out) ∧ ∀ j l, j < i → L[j]? = some l → (l.1 == u && (decide (gv x l.2.1 ≠ afx) && good (sum + l.2.2 + gv x l.2.1))) = false) ∧ (L.length - y.2.2.1.toNat < L.length - ((u, sum, (i : Int), out) : Int × Int × Int × List Int).2.2.1.toNat) ∧ y = (u, sum, (i : Int) + 1, out) := fun hf =>
   ⟨_, ⟨i + 1, h2, by rw [show ((i + 1 : Nat) : Int) = (i : Int) + 1 by push_cast; rfl], fun j m hj hm => by
    rcases Nat.lt_succ_iff_lt_or_eq.1 hj with h | rfl
    ·exact hp j m h hm
    ·rw [hl] at hm; cases hm; exact hf⟩, by simp; omega, rfl⟩
  by_cases hf : (l.1 == u && (decide (gv x l.2.1 ≠ afx) && good (sum + l.2.2 + gv x l.2.1))) = true
  ·refine .inl fun kn => ?_
   have hfi : aCc L x good u sum = some i := by
    unfold aCc
    rw [List.findIdx?_eq_some_iff_getElem]
    obtain ⟨hh, rfl⟩ := List.getElem?_eq_some_iff.1 hl
    exact ⟨h2, hf, fun j hj => by have := hp j _ hj (List.getElem?_eq_getElem (by omega)); rw [this]; simp⟩
   rw [hfi]
   simp only [Bool.and_eq_true, beq_iff_eq, decide_eq_true_eq] at hf
   have h5 := hx _ hf.2.1
   dsimp only
   unfold folL
   rw [acp h2, acj hl, acB (by simp [hf.1]), e0, acu (by omega) (by omega), acj hr, apr h1.2.1 (by omega), acB (bne_iff_ne.2 hf.2.1), acu (by omega) (by omega), acu (by omega) (by omega), acj hr, apr h1.2.1 (by omega), acu (by omega) (by omega), acB hf.2.2,
    adP (acq (by simp; omega)), acu (by omega) (by omega), hl]
   rfl
  ·have hf' := Bool.not_eq_true _ ▸ hf
   obtain ⟨y, hy1, hy2, rfl⟩ := hstep hf'
   refine .inr ⟨_, hy1, hy2, fun kn => ?_⟩
   dsimp only
   unfold folL
   rw [acp h2, acj hl, acl h2 (by omega)]
   by_cases g1 : l.1 = u
   ·rw [acB (by simp [g1]), e0, acu (by omega) (by omega), acj hr, apr h1.2.1 (by omega)]
    by_cases g2 : gv x l.2.1 = afx
    ·rw [aco (by rw [g2]; rfl)]
    ·have h5 := hx _ g2
     have g3 : good (sum + l.2.2 + gv x l.2.1) = false := by simpa [g1, g2] using hf'
     rw [acB (bne_iff_ne.2 g2), acu (by omega) (by omega), acu (by omega) (by omega), acj hr, apr h1.2.1 (by omega), acu (by omega) (by omega), aco g3]
   ·rw [aco (by simpa using g1)]
 ·refine .inl fun kn => ?_
  obtain rfl : i = L.length := by omega
  have hfi : aCc L x good u sum = none := by
   unfold aCc
   rw [List.findIdx?_eq_none_iff]
   intro l hl
   obtain ⟨j, hj, rfl⟩ := List.mem_iff_getElem.1 hl
   exact hp j _ hj (List.getElem?_eq_getElem hj)
  rw [hfi]
  dsimp only
  unfold folL
  rw [acN]
def aTA {ρ : Type} (good : Int → Bool) (c0 : List (List Int)) (c6 : List Lk) (v0 : Int) (v1 : Int) (v2 : Int) (v3 : List Int) (kn : Int → Int → Int → List Int → Option ρ) (k0 : List Int → Option ρ) : Option ρ :=
 ifb (igt v1 (0 : Int)) (acm (fun (v22 : Int × Int × Int × List Int) kk27 => folL good v1 c0 c6 (acD c6) v22.1 v22.2.1 v22.2.2.1 v22.2.2.2 (fun u23 u24 u25 u26 => kk27 (u23, u24, u25, u26)) (fun z20 => ck (v1 - (1 : Int)) fun n21 => kn z20.1 n21 z20.2.1 z20.2.2)) (v0, v2, (0 : Int), v3)) (k0 v3)
theorem aSk {ρ : Type} (c0 : List (List Int)) (c4 : Int) (c6 : List Lk) : @akR ρ c0 c4 c6 = aTA (fun n => ieq n c4) c0 c6 := rfl
theorem aTz {ρ : Type} (hS : afu L N) (good : Int → Bool) {rest : List (List Int)} {R : Nat → List Int} {k0 : Nat} (hk : k0 ≤ 100) (hr : ∀ k, k < k0 → rest[k]? = some (R k)) (hx : ∀ k, k < k0 → Lim 900000000000000000 (R k) ∧ (R k).length = N) (u : Int) (K : List Int → Option ρ) :
 acm (fun (v : Int × Int × Int × List Int) kk => aTA good rest L v.1 v.2.1 v.2.2.1 v.2.2.2 (fun a b c d => kk (a, b, c, d)) K) (u, (k0 : Int), (0 : Int), []) = K (alz L R good k0 u 0 []) := by
 have key := amf (f := fun (v : Int × Int × Int × List Int) kk => aTA good rest L v.1 v.2.1 v.2.2.1 v.2.2.2 (fun a b c d => kk (a, b, c, d)) K) (F := fun v => K (alz L R good v.2.1.toNat v.1 v.2.2.1 v.2.2.2))
  (fun v => ∃ k : Nat, v.2.1 = k ∧ k ≤ k0 ∧ (-(((k0 - k : Nat) : Int) * 4503599627370496) ≤ v.2.2.1 ∧ v.2.2.1 ≤ ((k0 - k : Nat) : Int) * 4503599627370496) ∧ v.2.2.2.length ≤ k0 - k) (fun v => v.2.1.toNat) (fun v hv kn hk => ?_) (x := (u, (k0 : Int), 0, [])) ⟨k0, rfl, Nat.le_refl _, by simp, by simp⟩
 ·rw [key]; simp
 ·obtain ⟨u, k', sum, out⟩ := v
  obtain ⟨k, e, h1, h2, h3⟩ := hv
  dsimp only at e h2 h3 hk ⊢
  subst e
  rw [Int.toNat_natCast] at hk ⊢
  unfold aTA
  cases k with
  | zero =>
    rw [aco (by rfl)]
    rfl
  | succ k =>
    rw [acB (decide_eq_true (by omega))]
    have hh := hx k (by omega)
    have hlim : Lim 1000000000000000000 (R k) := fun v hv => by have := hh.1 v hv; omega
    refine (aTB hS good (hr k (by omega)) (by omega) hlim hh.2 (by omega) (by omega) _).trans ?_
    unfold alz
    have e0 : (((k + 1 : Nat) : Int) - 1) = (k : Int) := by omega
    cases hn : aCc L (R k) good u sum with
    | none =>
      dsimp only
      rw [e0, acu (by omega) (by omega), hk _ ⟨k, rfl, by omega, by dsimp only; omega, by dsimp only; omega⟩ (by simp)]
      simp
    | some i =>
      have hi : i < L.length := by
       unfold aCc at hn
       exact (List.findIdx?_eq_some_iff_getElem.1 hn).1
      have hl : L[i]? = some L[i] := List.getElem?_eq_getElem hi
      have h4 := hS.most L[i] (List.getElem_mem _)
      dsimp only
      rw [hl]
      simp only [Option.getD_some]
      rw [e0, acu (by omega) (by omega), hk _ ⟨k, rfl, by omega, by dsimp only; omega, by simp; omega⟩ (by simp)]
      simp
def aB3 (L : List Lk) (N : Nat) (u v : Int) : List Int × Int :=
 if (afv L N u v).2 ≠ 0 then ([], (afv L N u v).2) else
 match (ajh L N v N).findIdx? (fun x => gv x u == (afv L N u v).1) with
 | some k => (alz L (exL L N v) (fun n => ieq n (afv L N u v).1) k u 0 [], 0)
 | none => ([], 0)
theorem aNn (hS : afu L N) {u v : Int} (hu : 0 ≤ u ∧ u < N) (hv : 0 ≤ v ∧ v < N) : apA ((N : Int), L) u v = some (aB3 L N u v) := by
 have hN := hS.n60
 unfold apA aAo aB3
 rw [ayX hS hu hv, ab4]
 by_cases h : (afv L N u v).2 = 0
 ·rw [aco (by rw [h]; rfl), if_neg (by simp [h]), aR5 hS hv (by omega), ab4]
  rw [aSk]
  let k0 : Int → Option (List Int × Int) := fun j => acm (fun (v29 : Int × Int × Int × List Int) kk34 => aTA (fun n => ieq n (afv L N u v).1) (ajh L N v N) L v29.1 v29.2.1 v29.2.2.1 v29.2.2.2 (fun u30 u31 u32 u33 => kk34 (u30, u31, u32, u33)) (fun z28 => some ((z28, (0 : Int)) : List Int × Int))) (u, j, (0 : Int), [])
  refine (agd (ajh L N v N) (fun x => gv x u == (afv L N u v).1) k0 (k0 (-1)) (fun i x hi hx kn => ?_) (fun kn => ?_)).trans ?_
  rotate_left
  ·try dsimp only
   unfold akS
   rw [acN]
  ·have hex : ∀ k, k < N + 1 → (ajh L N v N)[k]? = some (exL L N v k) := fun k hk => awt (by omega)
   have hlim : ∀ k, k < N + 1 → Lim 900000000000000000 (exL L N v k) ∧ (exL L N v k).length = N := fun k hk => ⟨fun w hw => by
    have := aLn hS hv k (by omega) w hw; omega, aLv _ _⟩
   cases hf : (ajh L N v N).findIdx? (fun x => gv x u == (afv L N u v).1) with
   | none =>
     have := amf (f := fun (v29 : Int × Int × Int × List Int) kk34 => aTA (fun n => ieq n (afv L N u v).1) (ajh L N v N) L v29.1 v29.2.1 v29.2.2.1 v29.2.2.2 (fun u30 u31 u32 u33 => kk34 (u30, u31, u32, u33)) (fun z28 => some ((z28, (0 : Int)) : List Int × Int))) (F := fun _ => some (([], 0) : List Int × Int)) (fun v => v.2.1 = -1 ∧ v.2.2.2 = []) (fun _ => 0) (fun x hx kn hk => by
      unfold aTA
      rw [hx.1, hx.2]
      rfl) (x := (u, (-1 : Int), (0 : Int), [])) ⟨rfl, rfl⟩
     exact this
   | some k =>
     have hk := (List.findIdx?_eq_some_iff_getElem.1 hf).1
     rw [ag9] at hk
     exact aTz hS _ (R := exL L N v) (by omega) (fun j hj => hex j (by omega)) (fun j hj => hlim j (by omega)) u (fun z => some ((z, (0 : Int)) : List Int × Int))
  ·try dsimp only
   unfold akS
   have hxl : x.length = N := by
    have hi' := hi
    rw [ag9] at hi'
    rw [awt (by omega)] at hx
    cases hx
    exact aLv _ _
   rw [ag9] at hi
   rw [acQ, ag9, acB (decide_eq_true (by omega)), acj hx, apr hu.1 (by omega), acu (by omega) (by omega), adX]
 ·rw [acB (bne_iff_ne.2 h), if_pos h]
end
end Go.Proofs.ZzM
end
noncomputable section
namespace Go.Proofs.ZzM
open Go Go.Am
abbrev aSC : Type := acv × (Int × Int) × Bool × Int × List Int
def aQy : aSC := (af7, (0, 0), false, 0, [])
def aro (L : List Lk) : Int → Int → List Int → Int × Int × Bool
 | u, s, [] => (u, s, true)
 | u, s, i :: t => if (L[i.toNat]?.getD (0, 0, 0)).1 = u then aro L (L[i.toNat]?.getD (0, 0, 0)).2.1 (s + (L[i.toNat]?.getD (0, 0, 0)).2.2) t else (0, 0, false)
def aJ5 (L : List Lk) (i : Int) : Bool := decide (i < 0) || decide ((L.length : Int) ≤ i)
def ahv (L : List Lk) (l : List Int) : Int := if 80 < l.length then 2 else if l.any (aJ5 L) then 1 else 0
def aeL (L : List Lk) (u v : Int) (l : List Int) : Int × Int :=
 if ahv L l ≠ 0 then (0, ahv L l) else if (aro L u 0 l).2.2 = true ∧ (aro L u 0 l).1 = v then ((aro L u 0 l).2.1, 0) else (0, 8)
def aST (u : Int) (w : Int × Int × Bool) : Int := if w.2.2 = true ∧ w.1 = u ∧ w.2.1 < 0 then 0 else 8
def anH (L : List Lk) (l : List Int) : Int :=
 if ahv L l ≠ 0 then ahv L l else match l with
 | [] => 8
 | i :: _ => aST (L[i.toNat]?.getD (0, 0, 0)).1 (aro L (L[i.toNat]?.getD (0, 0, 0)).1 0 l)
section
variable {L : List Lk} {N : Nat}
theorem aEl (N : Int) (hL : L.length ≤ 1000) (l : List Int) : akg (N, L) l = some (ahv L l) := by
 unfold akg ar0 ahv
 dsimp only
 rw [acQ]
 by_cases h : 80 < l.length
 ·rw [acB (decide_eq_true (by omega)), if_pos h]
 ·rw [aco (decide_eq_false (by omega)), if_neg h, ← acQ l]
  refine (agJ l (aJ5 L) (fun z => ifb (ige z 0) (some 1) (some 0)) (some 1) (some 0) (fun j => by rw [show ige (j : Int) 0 = true from decide_eq_true (by omega)]; rfl) (fun i a hi ha kn => ?_) (fun kn => ?_)).trans ?_
  ·try dsimp only
   unfold air aJ5
   rw [acp hi, acj ha, acl hi (by omega), acQ, adX, adX]
   by_cases h1 : a < 0
   ·simp [ilt, h1]
   ·by_cases h2 : (L.length : Int) ≤ a
    ·simp [ilt, ige, h1, h2]
    ·simp [ilt, ige, h1, h2]
  ·try dsimp only
   unfold air
   rw [acN]
  ·cases l.any (aJ5 L) <;> rfl
theorem aLr {l : List Int} (h : ahv L l = 0) : l.length ≤ 80 ∧ ∀ i ∈ l, 0 ≤ i ∧ i.toNat < L.length := by
 unfold ahv at h
 split at h
 ·omega
 ·rename_i h1
  split at h
  ·omega
  ·rename_i h2
   refine ⟨by omega, fun i hi => ?_⟩
   have := List.any_eq_false.1 (Bool.eq_false_iff.2 h2) i hi
   simp [aJ5] at this
   omega
theorem aOH (hS : afu L N) (u : Int) {l : List Int} (h : ahv L l = 0) : auS ((N : Int), L) u l = some (aro L u 0 l) := by
 obtain ⟨hl, hi⟩ := aLr h
 unfold auS aFT
 dsimp only
 have := amf (f := fun (v7 : Int × Int × Int) kk11 => amZ l (acD l) L v7.1 v7.2.1 v7.2.2 (fun u8 u9 u10 => kk11 (u8, u9, u10)) (fun z5 => some (z5.1, z5.2.1, z5.2.2)) (fun z6 => some (z6.1, z6.2, true)))
  (F := fun v => some (aro L v.1 v.2.1 (l.drop v.2.2.toNat))) (fun v => ∃ i : Nat, v.2.2 = i ∧ i ≤ l.length ∧ (-(i * 4503599627370496) ≤ v.2.1 ∧ v.2.1 ≤ i * 4503599627370496)) (fun v => l.length - v.2.2.toNat) (fun v hv kn hk => ?_) (x := (u, (0 : Int), (0 : Int))) ⟨0, rfl, by omega, by simp⟩
 ·exact this
 ·obtain ⟨w, s, n⟩ := v
  obtain ⟨i, e, h1, h2⟩ := hv
  dsimp only at e h2 hk ⊢
  subst e
  rw [Int.toNat_natCast] at hk ⊢
  unfold amZ
  rcases Nat.lt_or_ge i l.length with h3 | h3
  ·have ha : l[i]? = some l[i] := List.getElem?_eq_getElem h3
   have hd : l.drop i = l[i] :: l.drop (i + 1) := List.drop_eq_getElem_cons h3
   rw [hd]
   have hx := hi l[i] (List.getElem_mem _)
   generalize l[i] = a at ha hx
   have hg : L[a.toNat]? = some L[a.toNat] := List.getElem?_eq_getElem hx.2
   have hm := hS.most _ (List.mem_of_getElem? hg)
   generalize L[a.toNat] = x at hg hm
   rw [acp h3, acj ha, aic hx.1 hg]
   unfold aro
   rw [hg]
   simp only [Option.getD_some]
   by_cases hc : x.1 = w
   ·rw [aco (by rw [hc]; exact bne_self_eq_false' _), if_pos hc, acu (by omega) (by omega), acl h3 (by omega), hk _ ⟨i + 1, by push_cast; rfl, h3, by dsimp only; push_cast; omega⟩ (by simp; omega)]
    simp
   ·rw [acB (bne_iff_ne.2 hc), if_neg hc]
  ·obtain rfl : i = l.length := by omega
   rw [acN, List.drop_length]
   rfl
theorem aOI (hS : afu L N) : ∀ (l : List Int) (u s B : Int), -B ≤ s ∧ s ≤ B → -(B + l.length * 4503599627370496) ≤ (aro L u s l).2.1 ∧ (aro L u s l).2.1 ≤ B + l.length * 4503599627370496
 | [], u, s, B, h => by simp [aro]; omega
 | i :: t, u, s, B, h => by
   unfold aro
   have hm : -4503599627370496 ≤ (L[i.toNat]?.getD (0, 0, 0)).2.2 ∧ (L[i.toNat]?.getD (0, 0, 0)).2.2 ≤ 4503599627370496 := by
    cases hg : L[i.toNat]? with
    | none => simp
    | some x => exact hS.most x (List.mem_of_getElem? hg)
   split
   ·have := aOI hS t (L[i.toNat]?.getD (0, 0, 0)).2.1 (s + (L[i.toNat]?.getD (0, 0, 0)).2.2) (B + 4503599627370496) (by omega)
    rw [List.length_cons]
    push_cast
    omega
   ·dsimp only
    omega
theorem au7 (hS : afu L N) {u v : Int} (hu : 0 ≤ u ∧ u < N) (hv : 0 ≤ v ∧ v < N) (l : List Int) : agE ((N : Int), L) u v l = some (aeL L u v l) := by
 have hl3 := hS.len
 unfold agE alt aeL
 have e1 : (decide (0 ≤ u) && decide (u < (N : Int))) = true := by simp [hu.1, hu.2]
 have e2 : (decide (0 ≤ v) && decide (v < (N : Int))) = true := by simp [hv.1, hv.2]
 rw [ahI hS, ab4, aco (by rfl), azx, ab4, e1, aco (by rfl), azx, ab4, e2, aco (by rfl), aEl _ (by omega), ab4]
 by_cases h : ahv L l = 0
 ·rw [aco (by rw [h]; rfl), if_neg (by simp [h]), aOH hS u h, ab4]
  cases h1 : (aro L u 0 l).2.2 with
  | false => rw [acB (by rfl), if_neg (by simp)]
  | true =>
    rw [aco (by rfl)]
    by_cases h2 : (aro L u 0 l).1 = v
    ·rw [aco (by rw [h2]; exact bne_self_eq_false' _), if_pos ⟨rfl, h2⟩]
    ·rw [acB (bne_iff_ne.2 h2), if_neg (fun h => h2 h.2)]
 ·rw [acB (bne_iff_ne.2 h), if_pos h]
theorem aBa {ρ α : Type} (x : α) (t : List α) (f : α → Option ρ) : adU (x :: t) (0 : Int) f = f x := rfl
theorem aDt (hS : afu L N) (l : List Int) : aiu ((N : Int), L) l = some (anH L l) := by
 have hl3 := hS.len
 unfold aiu als anH
 rw [ahI hS, ab4, aco (by rfl), aEl _ (by omega), ab4]
 by_cases h : ahv L l = 0
 ·rw [aco (by rw [h]; rfl), if_neg (by simp [h])]
  cases l with
  | nil => rw [acQ]; rfl
  | cons i t =>
    have hx := (aLr h).2 i (by simp)
    have hg : L[i.toNat]? = some L[i.toNat] := List.getElem?_eq_getElem hx.2
    generalize L[i.toNat] = x at hg
    rw [acQ, aco (beq_eq_false_iff_ne.2 (by simp; omega)), aBa, aic hx.1 hg, aOH hS x.1 h, ab4]
    dsimp only
    rw [hg]
    dsimp only [Option.getD_some]
    generalize aro L x.1 0 (i :: t) = w
    obtain ⟨e, sum, ok⟩ := w
    unfold aST
    dsimp only
    cases ok with
    | false => rw [acB (by rfl), if_neg (by simp)]
    | true =>
      rw [aco (by rfl)]
      by_cases h2 : e = x.1
      ·rw [aco (by rw [h2]; exact bne_self_eq_false' _)]
       by_cases h3 : sum < 0
       ·rw [aco (decide_eq_false (by omega)), if_pos ⟨rfl, h2, h3⟩]
       ·rw [acB (decide_eq_true (by omega)), if_neg (fun h => h3 h.2.2)]
      ·rw [acB (bne_iff_ne.2 h2), if_neg (fun h => h2 h.2.1)]
 ·rw [acB (bne_iff_ne.2 h), if_pos h]
end
def ajQ (c : aSC) : Int :=
 if acz c.1 ≠ 0 then acz c.1 else if amy c.1 c.2.1.1 c.2.1.2 = 0 then 5 else
 if c.2.2.1 then (if aeL (acs c.1) 0 (amy c.1 c.2.1.1 c.2.1.2) c.2.2.2.2 = (c.2.2.2.1, 0) then 0 else 8)
 else (if aeL (acs c.1) (amy c.1 c.2.1.1 c.2.1.2) 0 c.2.2.2.2 = (-c.2.2.2.1, 0) then 0 else 8)
def akq (c : aSC) : Int :=
 if acz c.1 ≠ 0 then acz c.1 else if c.2.1 ≠ (0, 0) ∨ c.2.2.1 = true ∨ c.2.2.2.1 ≠ 0 then 1 else if anH (acs c.1) c.2.2.2.2 = 0 then 0 else 8
def aLS (b : acv) (c : aSC) : Bool × Int :=
 if acz b ≠ 0 then (false, acz b) else
 if c.2.1 = (0, 0) then (if akq c ≠ 0 then (false, akq c) else (aRz c.1 b, 0)) else (if ajQ c ≠ 0 then (false, ajQ c) else (aRz c.1 b, 0))
theorem wr_neg {n : Int} (h : I64 n) : aS0 (0 - n) = if n = -9223372036854775808 then n else -n := by
 have e : aS0 (0 - n) = if (0 - n) % 18446744073709551616 ≥ 9223372036854775808 then (0 - n) % 18446744073709551616 - 18446744073709551616 else (0 - n) % 18446744073709551616 := by
  simp [aS0, IntKind.wrap, IntKind.bits, IntKind.signed]
 rw [e]
 unfold I64 at h
 split <;> split <;> omega
theorem axL {c : aSC} (hI : In c.1) (hv : I64 c.2.2.2.1) : ahB c = some (ajQ c) := by
 unfold ahB amW ajQ
 rw [af5 hI.size hI.num, ab4]
 by_cases hc : acz c.1 = 0
 ·have hg := (acr c.1).1 hc
  rw [aco (by simp [ine, hc]), if_neg (show ¬ (acz c.1 ≠ 0) from fun h => h hc), apP hI, ab4, anG hg, ako hI, ab4, agj hg]
  dsimp only
  by_cases h0 : amy c.1 c.2.1.1 c.2.1.2 = 0
  ·rw [if_pos h0, if_pos h0]; rfl
  ·have hN := hg.sys
   have hr := adM c.1 c.2.1
   have hz := adH c.1
   rw [if_neg h0, if_neg h0, aco (by rfl), show (((acg c.1).length : Int) + 1) = (((acg c.1).length + 1 : Nat) : Int) by push_cast; rfl]
   dsimp only
   rw [show (∀ f : Int → Option Int, ck (0 - c.2.2.2.1) f = f (aS0 (0 - c.2.2.2.1))) from fun f => rfl, wr_neg hv]
   have key : ∀ (u v : Int) (t t' : Int), (t' = t ∨ (t' = -9223372036854775808 ∧ t = 9223372036854775808)) → (ifb (ine (aeL (acs c.1) u v c.2.2.2.2).2 0) (some (8 : Int)) (ifb (ine (aeL (acs c.1) u v c.2.2.2.2).1 t') (some 8) (some 0))) = some (if aeL (acs c.1) u v c.2.2.2.2 = (t, 0) then 0 else 8) := by
    intro u v t t' ht
    have hb : -9000000000000000000 ≤ (aeL (acs c.1) u v c.2.2.2.2).1 ∧ (aeL (acs c.1) u v c.2.2.2.2).1 ≤ 9000000000000000000 := by
     unfold aeL
     split
     ·simp
     ·rename_i hi
      split
      ·have := aOI hN c.2.2.2.2 u 0 0 (by simp)
       have := (aLr (by simpa using hi)).1
       dsimp only
       omega
      ·simp
    generalize aeL (acs c.1) u v c.2.2.2.2 = p at hb ⊢
    by_cases h2 : p.2 = 0
    ·rw [aco (by rw [h2]; rfl)]
     by_cases h1 : p.1 = t'
     ·have : p = (t, 0) := Prod.ext (by rcases ht with h | h <;> omega) h2
      rw [aco (by rw [h1]; exact bne_self_eq_false' _), if_pos this]
     ·have : ¬ p = (t, 0) := fun e => by
       have e1 : p.1 = t := by rw [e]
       rcases ht with h | h <;> omega
      rw [acB (bne_iff_ne.2 h1), if_neg this]
    ·have : ¬ p = (t, 0) := fun e => h2 (by rw [e])
     rw [acB (bne_iff_ne.2 h2), if_neg this]
   unfold I64 at hv
   cases c.2.2.1 with
   | true =>
     rw [aee, au7 hN hz hr, ab4, key _ _ _ _ (.inl rfl)]
     rfl
   | false =>
     rw [acO, au7 hN hr hz, ab4, key _ _ (-c.2.2.2.1) _ (by split <;> omega)]
     rfl
 ·rw [acB (by simp [ine, hc]), if_pos hc]
theorem aHk {c : aSC} (hI : In c.1) : ait c = some (akq c) := by
 unfold ait aln akq
 rw [af5 hI.size hI.num, ab4]
 by_cases hc : acz c.1 = 0
 ·have hg := (acr c.1).1 hc
  rw [aco (by simp [ine, hc]), if_neg (show ¬ (acz c.1 ≠ 0) from fun h => h hc)]
  by_cases h1 : c.2.1 = (0, 0)
  ·have e1 : (!((aeN c.2.1.1 0) && ((aeN c.2.1.2 0) && true))) = false := by rw [h1]; rfl
   rw [e1, acO]
   cases h2 : c.2.2.1 with
   | true => rw [aee, if_pos (.inr (.inl rfl))]
   | false =>
     rw [acO]
     by_cases h3 : c.2.2.2.1 = 0
     ·rw [aco (by rw [h3]; rfl), if_neg (by simp [h1, h3]), ako hI, ab4, agj hg, show (((acg c.1).length : Int) + 1) = (((acg c.1).length + 1 : Nat) : Int) by push_cast; rfl]
      dsimp only
      rw [aDt hg.sys, ab4]
      by_cases h4 : anH (acs c.1) c.2.2.2.2 = 0
      ·rw [aco (by rw [h4]; rfl), if_pos h4]
      ·rw [acB (bne_iff_ne.2 h4), if_neg h4]
     ·rw [acB (bne_iff_ne.2 h3), if_pos (.inr (.inr h3))]
  ·have e1 : (!((aeN c.2.1.1 0) && ((aeN c.2.1.2 0) && true))) = true := by
    rw [Prod.ext_iff] at h1
    simp [aeN]
    dsimp only at h1
    omega
   rw [e1, aee, if_pos (.inl h1)]
 ·rw [acB (by simp [ine, hc]), if_pos hc]
theorem aQW {b : acv} {c : aSC} (hb : In b) (hI : In c.1) (hv : I64 c.2.2.2.1) : aqb b c = some (aLS b c) := by
 unfold aqb avC aLS
 rw [af5 hb.size hb.num, ab4]
 by_cases hc : acz b = 0
 ·rw [aco (by simp [ine, hc]), if_neg (show ¬ (acz b ≠ 0) from fun h => h hc)]
  by_cases h1 : c.2.1 = (0, 0)
  ·have e1 : ((aeN c.2.1.1 0) && ((aeN c.2.1.2 0) && true)) = true := by rw [h1]; rfl
   rw [e1, aee, if_pos h1, aHk hI, ab4]
   by_cases h2 : akq c = 0
   ·rw [aco (by rw [h2]; rfl), if_neg (by simp [h2]), part_ok hI.size hb.size, ab4]
   ·rw [acB (bne_iff_ne.2 h2), if_pos h2]
  ·have e1 : ((aeN c.2.1.1 0) && ((aeN c.2.1.2 0) && true)) = false := by
    rw [Prod.ext_iff] at h1
    simp [aeN]
    dsimp only at h1
    omega
   rw [e1, acO, if_neg h1, axL hI hv, ab4]
   by_cases h2 : ajQ c = 0
   ·rw [aco (by rw [h2]; rfl), if_neg (by simp [h2]), part_ok hI.size hb.size, ab4]
   ·rw [acB (bne_iff_ne.2 h2), if_pos h2]
 ·rw [acB (by simp [ine, hc]), if_pos hc]
end Go.Proofs.ZzM
end
noncomputable section
namespace Go.Proofs.ZzM
open Go Go.Am
def ay6 (b : acv) (l : List Int) : List (Int × Int) := l.map fun i => (aeM b)[i.toNat]?.getD (0, 0)
theorem aNu {b : acv} (hg : ado b) (hn : ∀ g ∈ b.2.1, I64 g.2.2.2.2.1.1) {l : List Int} (hl : l.length ≤ 1000) (hi : ∀ i ∈ l, 0 ≤ i ∧ i.toNat < (acs b).length) : akf b l = some (ay6 b l) := by
 unfold akf arQ
 rw [ako (hg.inn hn), ab4, agj hg]
 refine adg l (fun i => ay6 b (l.take i)) _ rfl (fun i a hlt ha kn => ?_) (fun kn => ?_)
 ·try dsimp only
  unfold aip
  have hx := hi a (List.mem_of_getElem? ha)
  have hs : (aeM b)[a.toNat]? = some ((aeM b)[a.toNat]'(by rw [aET hg]; exact hx.2)) := List.getElem?_eq_getElem _
  generalize (aeM b)[a.toNat]'(by rw [aET hg]; exact hx.2) = x at hs
  have hlen : (ay6 b (l.take i)).length ≤ 1000 := by unfold ay6; rw [List.length_map, List.length_take]; omega
  rw [acp hlt, acj ha, aic hx.1 hs, adP (show acP ((ay6 b (l.take i)).length + [x].length) = true from acq (show (ay6 b (l.take i)).length + 1 ≤ 4294967296 by omega)), acl hlt (by omega), take_succ ha]
  unfold ay6
  rw [List.map_append, List.map_singleton, hs]
  rfl
 ·try dsimp only
  unfold aip
  rw [acN, List.take_length]
theorem src_ok {b : acv} : ∀ s ∈ aeM b, aTU b s := by
 intro s hs
 unfold aeM at hs
 rcases List.mem_append.1 hs with h | h
 ·have := aJx s h; exact .inl this
 ·have := aJO s h; exact .inr this
theorem aRl {b : acv} (hg : ado b) {l : List Int} (hi : ∀ i ∈ l, 0 ≤ i ∧ i.toNat < (acs b).length) : ∀ s ∈ ay6 b l, aTU b s := by
 intro s hs
 obtain ⟨i, h1, rfl⟩ := List.mem_map.1 hs
 have hx := hi i h1
 have hsx : (aeM b)[i.toNat]? = some ((aeM b)[i.toNat]'(by rw [aET hg]; exact hx.2)) := List.getElem?_eq_getElem _
 rw [hsx]
 exact src_ok _ (List.getElem_mem _)
section
variable {L : List Lk} {N : Nat}
theorem awq (R : Nat → List Int) (good : Int → Bool) : ∀ (k : Nat) (u sum : Int) (out : List Int), (∀ i ∈ out, 0 ≤ i ∧ i.toNat < L.length) → (∀ i ∈ alz L R good k u sum out, 0 ≤ i ∧ i.toNat < L.length) ∧ (alz L R good k u sum out).length ≤ out.length + k
 | 0, u, sum, out, h => ⟨h, by simp [alz]⟩
 | k + 1, u, sum, out, h => by
   unfold alz
   cases hn : aCc L (R k) good u sum with
   | none =>
     have := awq R good k u sum out h
     exact ⟨this.1, by have := this.2; dsimp only; omega⟩
   | some i =>
     have hi : i < L.length := by
      unfold aCc at hn
      exact (List.findIdx?_eq_some_iff_getElem.1 hn).1
     have := awq R good k (L[i]?.getD (0, 0, 0)).2.1 (sum + (L[i]?.getD (0, 0, 0)).2.2) (out ++ [(i : Int)]) (fun j hj => by
      rcases List.mem_append.1 hj with h1 | h1
      ·exact h j h1
      ·simp at h1; subst h1; simp; exact hi)
     exact ⟨this.1, by have := this.2; simp at this; dsimp only; omega⟩
theorem aJR (N : Nat) (u v : Int) : (∀ i ∈ (aB3 L N u v).1, 0 ≤ i ∧ i.toNat < L.length) ∧ (aB3 L N u v).1.length ≤ N := by
 unfold aB3
 split
 ·simp
 ·cases h : (ajh L N v N).findIdx? (fun x => gv x u == (afv L N u v).1) with
  | none => simp
  | some k =>
    have hk := (List.findIdx?_eq_some_iff_getElem.1 h).1
    rw [ag9] at hk
    have := awq (L := L) (exL L N v) (fun n => ieq n (afv L N u v).1) k u 0 [] (by simp)
    exact ⟨this.1, by have := this.2; simp at this; dsimp only; omega⟩
end
def axF (B : acv) (n : Int × Int) (upper : Bool) : List Int :=
 if upper then (aB3 (acs B) ((acg B).length + 1) 0 (amy B n.1 n.2)).1 else (aB3 (acs B) ((acg B).length + 1) (amy B n.1 n.2) 0).1
def aov (B : acv) (n : Int × Int) (upper : Bool) : acv := cutP B (ay6 B (axF B n upper)) [n]
def certR (B : acv) (n : Int × Int) (upper : Bool) : aSC := (aov B n upper, n, upper, (if upper then (ivR B n).2 else (ivR B n).1), axF (aov B n upper) n upper)
def ajC (b : acv) (n : Int × Int) (upper : Bool) : aSC × Int :=
 if (ads b [n]).2 ≠ 0 then (aQy, (ads b [n]).2) else
 if acz (aov (ads b [n]).1 n upper) ≠ 0 then (aQy, acz (aov (ads b [n]).1 n upper)) else
 if adF (acs (aov (ads b [n]).1 n upper)) ((acg (aov (ads b [n]).1 n upper)).length + 1) then (certR (ads b [n]).1 n upper, 0) else (aQy, 9)
theorem aOl {ρ : Type} : @alp ρ = @ac9 ρ := rfl
theorem aPl {ρ : Type} (K : Option ρ) : acm (fun (v23 : Int) kk25 => alo (0 : Int) v23 (fun u24 => kk25 u24) (fun _ => K)) (0 : Int) = K := by
 refine afk (fun x => x = 0) (fun _ => 0) (fun x hx => .inl fun kn => ?_) rfl
 rw [hx]
 rfl
theorem aL2 {B : acv} (h : ado B) (hn : ∀ g ∈ B.2.1, I64 g.2.2.2.2.1.1) (n : Int × Int) (upper : Bool) : ahC (B, aDy B) n upper = some (axF B n upper) := by
 unfold ahC amX axF
 rw [aBW h hn, ab4, show (B, aDy B).2 = aDy B from rfl, ay1]
 cases upper with
 | true => rw [aee, aNn h.sys (adH B) (adM B n), ab4]; rfl
 | false => rw [acO, aNn h.sys (adM B n) (adH B), ab4]; rfl
theorem aOj {B : acv} (h : ado B) (n : Int × Int) (upper : Bool) : (∀ i ∈ axF B n upper, 0 ≤ i ∧ i.toNat < (acs B).length) ∧ (axF B n upper).length ≤ 60 := by
 have hN := h.sys.n60
 unfold axF
 split
 ·have := aJR (L := acs B) ((acg B).length + 1) 0 (amy B n.1 n.2)
  exact ⟨this.1, by have := this.2; omega⟩
 ·have := aJR (L := acs B) ((acg B).length + 1) (amy B n.1 n.2) 0
  exact ⟨this.1, by have := this.2; omega⟩
theorem aA2 (w : List Int) : ∀ (l : List Cmp) (i : Nat), ∀ c ∈ ash w i l, c ∈ l
 | [], i, c, h => by simp [ash] at h
 | a :: l, i, c, h => by
   simp only [ash] at h
   split at h
   ·rcases List.mem_cons.1 h with h | h
    ·rw [h]; simp
    ·exact List.mem_cons_of_mem _ (aA2 w l (i + 1) c h)
   ·exact List.mem_cons_of_mem _ (aA2 w l (i + 1) c h)
theorem aSP {b : acv} (h : In b) (ss : List (Int × Int)) {looks : List (Int × Int)} (hl : looks.length ≤ 1000) : In (cutP b ss looks) := by
 obtain ⟨hs, hn⟩ := h
 have g1 := hs.gauges; have g2 := hs.uses; have g3 := hs.loans; have g4 := hs.compares
 unfold cutP
 refine ⟨⟨?_, ?_, ?_, ?_, hl, fun c hc => hs.piles c (aA2 _ _ _ c hc)⟩, fun g hg => hn g (List.mem_filter.1 hg).1⟩
 ·exact Nat.le_trans (List.length_filter_le _ _) g1
 ·exact Nat.le_trans (List.length_filter_le _ _) g2
 ·exact Nat.le_trans (List.length_filter_le _ _) g3
 ·exact Nat.le_trans (aA3 _ _ _) g4
theorem aOu {b : acv} (hI : In b) (n : Int × Int) (upper : Bool) : ant b n upper = some (ajC b n upper) := by
 unfold ant arY ajC
 rw [aOl]
 refine (amD hI (ns := [n]) (by simp) (fun e => some (aQy, e)) (fun e he => by rw [adP (by simp [ine, he])]; rfl) (fun z he => by rw [adP (by simp [ine, he])]; rfl) (fun _ _ _ => rfl)).trans ?_
 split
 ·rfl
 ·rename_i e
  have hr := (agA hI (by simpa using e)).1
  dsimp only
  generalize (ads b [n]).1 = B at hr ⊢
  have hci := aOj hr.good n upper
  have hpi : In (aov B n upper) := aSP (hr.good.inn hr.num) _ (by simp)
  rw [apv, show ((((acg B).length : Int) + 1, acs B) : Sys) = aDy B from rfl, aL2 hr.good hr.num, ab4, aNu hr.good hr.num (by omega) hci.1, ab4,
   cut_ok hr.good.size (by unfold ay6; rw [List.length_map]; omega) (by simp) (aRl hr.good hci.1), ab4, show cutP B (ay6 B (axF B n upper)) [n] = aov B n upper from rfl, af5 hpi.size hpi.num, ab4]
  by_cases hc : acz (aov B n upper) = 0
  ·have hg := (acr _).1 hc
   rw [aco (by simp [ine, hc]), if_neg (show ¬ (acz (aov B n upper) ≠ 0) from fun h => h hc)]
   refine (aPl _).trans ?_
   rw [ako hpi, ab4, agj hg, aco (by rfl)]
   dsimp only
   rw [show ((((acg (aov B n upper)).length : Int) + 1, acs (aov B n upper)) : Sys) = aDy (aov B n upper) from rfl, ay1 (aov B n upper), au6 hg.sys, ab4]
   cases ho : adF (acs (aov B n upper)) ((acg (aov B n upper)).length + 1) with
   | false => rw [if_neg (by simp)]; rfl
   | true =>
     rw [if_pos rfl, ← ay1 (aov B n upper), aco (by rfl), aEh hr, ab4, aL2 hg hpi.num, ab4]
     cases upper with
     | true => rw [aee, auK hr, ab4]; rfl
     | false => rfl
  ·rw [acB (by simp [ine, hc]), if_pos hc, acB (by simp [ine, hc])]
   rfl
theorem aOg {L : List Lk} {N : Nat} (h : afu L N) (ho : adF L N = true) : apz ((N : Int), L) = some ([], 5) := by
 have hN := h.n60
 unfold apz aAi
 rw [ahI h, ab4, aco (by rfl), ars h.links h.n1 (by omega), ab4, if_pos ho]
 rfl
theorem aKx {b : acv} (hg : ado b) (hn : ∀ g ∈ b.2.1, I64 g.2.2.2.2.1.1) (ho : adF (acs b) ((acg b).length + 1) = true) : auR b = some (aQy, 5) := by
 unfold auR az0
 rw [ako (hg.inn hn), ab4, agj hg, aco (by rfl), show ((((acg b).length : Int) + 1, acs b), aeM b, (0 : Int)).1 = aDy b from rfl, ay1, aOg hg.sys ho, ab4]
 rfl
end Go.Proofs.ZzM
end
noncomputable section
namespace Go.Proofs.ZzM
open Go Go.Am
theorem aOk {b : acv} (h : In b) (n : Int × Int) (upper : Bool) : In (ajC b n upper).1.1 := by
 have h0 : In af7 := ⟨⟨by simp [af7], by simp [af7], by simp [af7], by simp [af7], by simp [af7], by simp [af7]⟩, by simp [af7]⟩
 unfold ajC
 by_cases e : (ads b [n]).2 = 0
 ·rw [if_neg (by simp [e])]
  have hr := (agA h e).1
  split
  ·exact h0
  ·split
   ·exact aSP (hr.good.inn hr.num) _ (by simp)
   ·exact h0
 ·rw [if_pos e]; exact h0
theorem y1 : amx exB (2, 10) = ((984, 1011), 0) := by decide +kernel
theorem y2 : amx exB (1, 30) = ((964, 1005), 0) := by decide +kernel
theorem y3 : aHl exB (1, 10) (2, 10) = ((-6, 11), 0) := by decide +kernel
theorem y4 : aTX exB 10 [1, 2] = ((1979, 2018), 0) := by decide +kernel
theorem y5 : aKb exB (2, 0) (990, 1010) = (3, 0) := by decide +kernel
theorem y6 : (ajC exB (2, 10) true).2 = 0 ∧ (ajC exB (2, 10) true).1.2.2.2.1 = 1011 := by decide +kernel
theorem y7 : axK exB (2, 10) exC = (10, 0) := by decide +kernel
theorem y8 : ak7 exB (2, 10) (900, 1100) exC = (true, 0) := by decide +kernel
theorem y9 : aLS exB (ajC exB (2, 10) true).1 = (true, 0) := by decide +kernel
theorem y10 : acz exB = 0 ∧ adF (acs exB) ((acg exB).length + 1) = true := by decide +kernel
theorem y11 : ajQ (ajC exB (2, 10) true).1 = 0 := by decide +kernel
theorem aDE : aej = some true := by
 unfold aej arJ apw aoD
 have hc := aOk apD (2, 10) true
 have hv : I64 (ajC exB (2, 10) true).1.2.2.2.1 := by rw [y6.2]; unfold I64; omega
 rw [ab4]
 rw [show ((((0 : Int), (2 : Int)), [((1 : Int), (0 : Int), (1000 : Int), ((-5 : Int), (5 : Int)), ((1 : Int), (10 : Int)), (1 : Int)), ((2 : Int), (0 : Int), (1000 : Int), ((-50 : Int), (50 : Int)), ((1 : Int), (4 : Int)), (0 : Int))], [((1 : Int), (10 : Int))], [((1 : Int), ((20 : Int), (29 : Int)), (3 : Int))], [((7 : Int), (10 : Int), [(1 : Int)], [(2 : Int)], (-20 : Int), (1 : Int), (100 : Int), (200 : Int))], ([] : List (Int × Int))) : acv) = exB from rfl]
 rw [anF apD, ab4, anF apD, ab4, aOv apD, ab4, aTW apD _ (by decide), ab4, aHh apD, ab4, aOu apD, ab4, y1, y2, y3, y4, y5, y6.1, y6.2]
 rw [show amo exB ((2 : Int), (10 : Int)) ((8 : Int), (10 : Int), [(1 : Int)], [(2 : Int)], (0 : Int), (0 : Int), (0 : Int), (0 : Int)) = some (axK exB (2, 10) exC) from aNi apD _ (c := exC) (by decide) (by decide),
  show aig exB ((2 : Int), (10 : Int)) ((900 : Int), (1100 : Int)) ((8 : Int), (10 : Int), [(1 : Int)], [(2 : Int)], (0 : Int), (0 : Int), (0 : Int), (0 : Int)) = some (ak7 exB (2, 10) (900, 1100) exC) from aEK apD _ _ (c := exC) (by decide) (by decide),
  aQW apD hc hv, aKx ((acr _).1 y10.1) apD.num y10.2, axL hc hv, y7, y8, y9, y11]
 rfl
end Go.Proofs.ZzM
end
noncomputable section
namespace Go.Proofs.ZzM
open Go Go.Am
section
variable {B : acv} (h : aOB B)
include h
end
def aB9 : acv → List (Int × Int) → acv × Bool
 | b, [] => (b, true)
 | b, n :: t => if (afW b n).2 ≠ 0 then (b, false) else aB9 (afW b n).1 t
theorem aMh : ∀ (ns : List (Int × Int)) (b : acv), (aB9 b ns).2 = decide ((aeA b ns).2 = 0) ∧ ((aeA b ns).2 = 0 → aB9 b ns = ((aeA b ns).1, true))
 | [], b => ⟨rfl, fun _ => rfl⟩
 | n :: t, b => by
   unfold aB9 aeA
   by_cases h : (afW b n).2 = 0
   ·rw [if_neg (by simp [h]), if_neg (by simp [h])]
    exact aMh t _
   ·rw [if_pos h, if_pos h]
    exact ⟨by simp [h], fun e => absurd e h⟩
abbrev aT2 : Type := Int × Int × List acS × List (Int × Int) × List ayV × List Cmp × List (Int × Int) × Flat
def bk2 (s : aT2) : acv := ((s.1, s.2.1), s.2.2.1, s.2.2.2.1, s.2.2.2.2.1, s.2.2.2.2.2.1, s.2.2.2.2.2.2.1)
theorem aHn {b : acv} (hg : ado b) (hn : ∀ g ∈ b.2.1, I64 g.2.2.2.2.1.1) {ns : List (Int × Int)} (hl : ns.length ≤ 1000) : aiQ b ns = some (aB9 b ns) := by
 unfold aiQ as4
 refine ayM ns (fun (i : Nat) (s : aT2) (t : List (Int × Int)) => some (aB9 (bk2 s) t)) (fun i s => ado (bk2 s) ∧ ∀ g ∈ (bk2 s).2.1, I64 g.2.2.2.2.1.1) (fun s hs kn => ?_) (fun i n t s hd hi ha hs kn hk => ?_) (s := (b.1.1, b.1.2, b.2.1, b.2.2.1, b.2.2.2.1, b.2.2.2.2.1, b.2.2.2.2.2, 0, 0, [], [], [], [], [])) ⟨hg, hn⟩
 ·dsimp only
  unfold aiA
  rw [acN]
  rfl
 ·dsimp only
  unfold aiA
  obtain ⟨hs1, hs2⟩ := hs
  have hin : In (bk2 s) := hs1.inn hs2
  rw [acp hi, acj ha, acj ha]
  rw [show ady ((s.1, s.2.1), s.2.2.1, s.2.2.2.1, s.2.2.2.2.1, s.2.2.2.2.2.1, s.2.2.2.2.2.2.1) n = ady (bk2 s) n from rfl, apP hin, ab4]
  rw [show ae2 ((s.1, s.2.1), s.2.2.1, s.2.2.2.1, s.2.2.2.2.1, s.2.2.2.2.2.1, s.2.2.2.2.2.2.1) n = ae2 (bk2 s) n from rfl, aLV hin, ab4, anG hs1]
  have hu : aB9 (bk2 s) (n :: t) = if (afW (bk2 s) n).2 ≠ 0 then (bk2 s, false) else aB9 (afW (bk2 s) n).1 t := rfl
  rw [hu]
  by_cases h0 : amy (bk2 s) n.1 n.2 = 0
  ·rw [if_pos h0, aco (by rfl)]
   by_cases h2 : acz (ahd (bk2 s) n) = 0
   ·have e : afW (bk2 s) n = (ahd (bk2 s) n, 0) := by unfold afW; rw [if_neg (by simp [h0]), if_neg (by simp [h2])]
    have e2 : ayr (bk2 s) n = (ahd (bk2 s) n, 0) := by unfold ayr; rw [if_neg (by simp [(acr (bk2 s)).2 hs1]), if_neg (by simp [h2])]
    rw [e2, e, aco (by rfl), acl hi (by omega), if_neg (show ¬ ((0 : Int) ≠ 0) by simp)]
    exact hk (s.1, s.2.1, s.2.2.1, s.2.2.2.1, s.2.2.2.2.1, s.2.2.2.2.2.1, s.2.2.2.2.2.2.1 ++ [n], s.2.2.2.2.2.2.2) ⟨(acr _).1 h2, hs2⟩
   ·have e : afW (bk2 s) n = (af7, acz (ahd (bk2 s) n)) := by unfold afW; rw [if_neg (by simp [h0]), if_pos h2]
    have e2 : ayr (bk2 s) n = (af7, acz (ahd (bk2 s) n)) := by unfold ayr; rw [if_neg (by simp [(acr (bk2 s)).2 hs1]), if_pos h2]
    rw [e2, e, acB (bne_iff_ne.2 h2), if_pos h2]
    rfl
  ·have e : afW (bk2 s) n = (bk2 s, 0) := by unfold afW; rw [if_pos h0]
   rw [if_neg h0, acB (by rfl), acl hi (by omega), e, if_neg (show ¬ ((0 : Int) ≠ 0) by simp)]
   exact hk s ⟨hs1, hs2⟩
theorem aL1 {b : acv} (hI : In b) (hc : acz b ≠ 0) (n : Int × Int) (t : List (Int × Int)) (hl : (n :: t).length ≤ 1000) : aiQ b (n :: t) = some (b, false) := by
 unfold aiQ as4
 refine afk (fun (v : Int × aT2) => v = (0, b.1.1, b.1.2, b.2.1, b.2.2.1, b.2.2.2.1, b.2.2.2.2.1, b.2.2.2.2.2, 0, 0, [], [], [], [], [])) (fun _ => 0) (fun v hv => .inl fun kn => ?_) rfl
 subst hv
 dsimp only
 unfold aiA
 have e1 : aEM b n = (0, acz b) := by unfold aEM; rw [if_pos hc]
 have e2 : ayr b n = (af7, acz b) := by unfold ayr; rw [if_pos hc]
 rw [acQ, acB (decide_eq_true (by rw [List.length_cons]; omega)), aBa, aBa, show ady ((b.1.1, b.1.2), b.2.1, b.2.2.1, b.2.2.2.1, b.2.2.2.2.1, b.2.2.2.2.2) n = ady b n from rfl, apP hI, ab4,
  show ae2 ((b.1.1, b.1.2), b.2.1, b.2.2.1, b.2.2.2.1, b.2.2.2.2.1, b.2.2.2.2.2) n = ae2 b n from rfl, aLV hI, ab4, e1, e2, aco (beq_eq_false_iff_ne.2 hc), acB (bne_iff_ne.2 hc)]
theorem aRe {b : acv} (hI : In b) {ns : List (Int × Int)} (hl : ns.length ≤ 1000) (h0 : ns ≠ []) : ∃ y : acv × Bool, aiQ b ns = some y ∧ (y.2 = true ↔ ado b ∧ (aeA b ns).2 = 0) ∧ (y.2 = true → y = ((aeA b ns).1, true)) := by
 by_cases hc : acz b = 0
 ·have hg := (acr b).1 hc
  have hr := aMh ns b
  refine ⟨_, aHn hg hI.num hl, ⟨fun h => ⟨hg, by rw [hr.1] at h; exact of_decide_eq_true h⟩, fun h => by rw [hr.1]; exact decide_eq_true h.2⟩, fun h => hr.2 (by rw [hr.1] at h; exact of_decide_eq_true h)⟩
 ·cases ns with
  | nil => exact absurd rfl h0
  | cons n t => exact ⟨_, aL1 hI hc n t hl, ⟨fun h => (Bool.noConfusion h), fun h => absurd ((acr b).2 h.1) hc⟩, fun h => Bool.noConfusion h⟩
theorem aDP {b : acv} (hg : ado b) : ∀ {ns : List (Int × Int)}, (∀ n ∈ ns, aiZ b n) → aeA b ns = (b, 0)
 | [], _ => rfl
 | n :: t, h => by
   have e : afW b n = (b, 0) := by unfold afW; rw [if_pos ((aMI hg).2 (h n (by simp)))]
   unfold aeA
   rw [e, if_neg (by simp)]
   exact aDP hg fun m hm => h m (by simp [hm])
theorem aLT {b : acv} (hg : ado b) {ns : List (Int × Int)} (h : ∀ n ∈ ns, aiZ b n) : ads b ns = if adF (acs b) ((acg b).length + 1) then (b, 0) else (af7, 9) := by
 unfold ads
 rw [if_neg (by simp [(acr b).2 hg]), aDP hg h, if_neg (by simp)]
end Go.Proofs.ZzM
end
noncomputable section
namespace Go.Proofs.ZzM
open Go Go.Am
theorem aMg : ∀ (ns : List (Int × Int)) {b : acv}, ado b → (∀ g ∈ b.2.1, I64 g.2.2.2.2.1.1) → In (aB9 b ns).1
 | [], b, hg, hn => hg.inn hn
 | n :: t, b, hg, hn => by
   unfold aB9
   split
   ·exact hg.inn hn
   ·rename_i h
    have h' : (afW b n).2 = 0 := by simpa using h
    exact aMg t (ay2 hg h') (by rw [ay3 h']; exact hn)
theorem aS1 {b : acv} (hI : In b) {ns : List (Int × Int)} (hl : ns.length ≤ 1000) (h0 : ns ≠ []) {y : acv × Bool} (hy : aiQ b ns = some y) : In y.1 := by
 by_cases hc : acz b = 0
 ·have hg := (acr b).1 hc
  rw [aHn hg hI.num hl] at hy
  cases hy
  exact aMg ns hg hI.num
 ·cases ns with
  | nil => exact absurd rfl h0
  | cons n t =>
    rw [aL1 hI hc n t hl] at hy
    cases hy
    exact hI
theorem aIe {b : acv} {n : Int × Int} (h : aiZ b n) (c : Cmp) : aiZ (acn b c) n := by
 obtain ⟨g, hg, e, hd⟩ := h
 exact ⟨g, hg, e, aiV hd⟩
theorem aTq {B : acv} (hR : aOB B) {n : Int × Int} (hn : aiZ B n) {c : Cmp} (hp : (acw B c).2 = 0) (hg : ado (acn B c)) :
 amx (acn B c) n = (if (acw B c).1.1 ≤ c.2.2.2.2.1 ∧ c.2.2.2.2.1 ≤ (acw B c).1.2 then (adE (acW B n c) c.2.2.2.2.1, 0) else ((0, 0), 9)) ∧
 ads (acn B c) [n] = (if (acw B c).1.1 ≤ c.2.2.2.2.1 ∧ c.2.2.2.2.1 ≤ (acw B c).1.2 then (acn B c, 0) else (af7, 9)) ∧
 ((acw B c).1.1 ≤ c.2.2.2.2.1 ∧ c.2.2.2.2.1 ≤ (acw B c).1.2 → ivR (acn B c) n = adE (acW B n c) c.2.2.2.2.1 ∧ (ivR B n).1 ≤ (adE (acW B n c) c.2.2.2.2.1).1 ∧ (adE (acW B n c) c.2.2.2.2.1).1 ≤ (adE (acW B n c) c.2.2.2.2.1).2 ∧ (adE (acW B n c) c.2.2.2.2.1).2 ≤ (ivR B n).2 ∧ aOB (acn B c)) := by
 have hpred := aku hp
 have hiff := aO8 hpred (d := c) rfl hg
 have hq := aLT hg (ns := [n]) (fun k hk => by simp at hk; subst hk; exact aIe hn c)
 have ho : ads (acn B c) [n] = (if (acw B c).1.1 ≤ c.2.2.2.2.1 ∧ c.2.2.2.2.1 ≤ (acw B c).1.2 then (acn B c, 0) else (af7, 9)) := by
  rw [hq]
  by_cases h : (acw B c).1.1 ≤ c.2.2.2.2.1 ∧ c.2.2.2.2.1 ≤ (acw B c).1.2
  ·rw [if_pos h, if_pos (hiff.2 h)]
  ·rw [if_neg h, if_neg (fun e => h (hiff.1 e))]
 have hiv : (acw B c).1.1 ≤ c.2.2.2.2.1 ∧ c.2.2.2.2.1 ≤ (acw B c).1.2 → ivR (acn B c) n = adE (acW B n c) c.2.2.2.2.1 ∧ (ivR B n).1 ≤ (adE (acW B n c) c.2.2.2.2.1).1 ∧ (adE (acW B n c) c.2.2.2.2.1).1 ≤ (adE (acW B n c) c.2.2.2.2.1).2 ∧ (adE (acW B n c) c.2.2.2.2.1).2 ≤ (ivR B n).2 ∧ aOB (acn B c) := by
  intro h
  have hop := hiff.2 h
  have hRm : aOB (acn B c) := ⟨hg, hop, hR.num⟩
  have e : ivR (acn B c) n = adE (acW B n c) c.2.2.2.2.1 := aTu hp (d := c.2.2.2.2.1) hg hop n
  have hnm := aIe hn c
  have o1 := aRS hRm n
  obtain ⟨f1, z1, h1, v1⟩ := iv_at hRm hnm (t := (ivR (acn B c) n).1) (Int.le_refl _) o1
  obtain ⟨f2, z2, h2, v2⟩ := iv_at hRm hnm (t := (ivR (acn B c) n).2) o1 (Int.le_refl _)
  have i1 := iv_in hR hn (auJ.1 h1).1
  have i2 := iv_in hR hn (auJ.1 h2).1
  rw [← e]
  exact ⟨rfl, by omega, o1, by omega, hRm⟩
 refine ⟨?_, ho, hiv⟩
 unfold amx
 rw [ho]
 by_cases h : (acw B c).1.1 ≤ c.2.2.2.2.1 ∧ c.2.2.2.2.1 ≤ (acw B c).1.2
 ·rw [if_pos h, if_pos h]
  dsimp only
  rw [if_neg (by simp), (hiv h).1]
 ·rw [if_neg h, if_neg h]
  rfl
end Go.Proofs.ZzM
end
noncomputable section
namespace Go.Proofs.ZzM
open Go Go.Am
theorem aN8 {b : acv} {c : Cmp} (h : ado (acn b (ab7 c))) (d : Int) : acz (acn b (acA c d)) = 0 ∨ acz (acn b (acA c d)) = 1 := by
 have hl : ∀ e : Cmp, (acn b e).2.2.2.2.1.length = b.2.2.2.2.1.length + 1 := fun e => by simp [acn]
 have hlast := h.compares b.2.2.2.2.1.length (ab7 c) (by simp [acn])
 have hparts : ∀ e ∈ aou (acn b (acA c d)) (ai2 (acn b (acA c d))), e = 0 ∨ e = 1 := by
  intro e he
  simp only [aou, List.mem_append, List.mem_map, List.mem_mapIdx] at he
  rcases he with ⟨u, hu, rfl⟩ | ⟨i, hi, rfl⟩ | ⟨i, hi, rfl⟩ | ⟨u, hu, rfl⟩
  ·exact .inl (h.uses u hu)
  ·exact .inl (h.loans i _ (List.getElem?_eq_getElem hi))
  ·rcases Nat.lt_or_ge i b.2.2.2.2.1.length with h1 | h1
   ·left
    have hx : (acn b (acA c d)).2.2.2.2.1[i] = b.2.2.2.2.1[i] := List.getElem_append_left h1
    have h2 := h.compares i b.2.2.2.2.1[i] (by show (b.2.2.2.2.1 ++ [ab7 c])[i]? = _; rw [List.getElem?_append_left h1, List.getElem?_eq_getElem h1])
    rw [hx]
    have ht : ∀ e : Cmp, (acn b e).2.2.2.2.1.take i = b.2.2.2.2.1.take i := fun e => List.take_append_of_le_length (by omega)
    unfold ak5 at h2 ⊢
    rw [ht] at h2 ⊢
    exact h2
   ·have hi' : i = b.2.2.2.2.1.length := by
     have := hl (acA c d)
     omega
    subst hi'
    have hx : (acn b (acA c d)).2.2.2.2.1[b.2.2.2.2.1.length]'hi = acA c d := by
     show (b.2.2.2.2.1 ++ [acA c d])[b.2.2.2.2.1.length]'(by simp) = _
     rw [List.getElem_append_right (Nat.le_refl _)]
     simp
    rw [hx]
    have ht : ∀ e : Cmp, (acn b e).2.2.2.2.1.take b.2.2.2.2.1.length = b.2.2.2.2.1 := fun e => by
     show (b.2.2.2.2.1 ++ [e]).take _ = _
     rw [List.take_append_of_le_length (Nat.le_refl _), List.take_length]
    unfold ak5 at hlast ⊢
    rw [ht] at hlast ⊢
    cases hn : aIa (acA c d) with
    | false => exact .inr rfl
    | true =>
      left
      have hn0 : aIa (ab7 c) = true := h.nums ajp
      rw [hn0] at hlast
      exact hlast
  ·exact .inl (h.looks u hu)
 have hs : ai1 (acn b (acA c d)).1 0 1000000 = true := by
  have := h.film
  show ai1 b.1 0 1000000 = true
  simp only [ai1, Bool.and_eq_true, decide_eq_true_eq]
  exact ⟨this.1, this.2.1, this.2.2⟩
 have hg : aie (acn b (acA c d)) = 0 := (asj (acn b (acA c d))).2 ⟨h.gauge, h.ids⟩
 have n1 := h.nG; have n2 := h.nU; have n3 := h.nL; have n4 := h.nC; have n5 := h.nK; have n6 := h.nodes; have n7 := h.links
 have e1 : (acn b (acA c d)).2.1.length = (acn b (ab7 c)).2.1.length := rfl
 have e2 : (acn b (acA c d)).2.2.1.length = (acn b (ab7 c)).2.2.1.length := rfl
 have e3 : (acn b (acA c d)).2.2.2.1.length = (acn b (ab7 c)).2.2.2.1.length := rfl
 have e4 : (acn b (acA c d)).2.2.2.2.2.length = (acn b (ab7 c)).2.2.2.2.2.length := rfl
 have e5 := hl (acA c d)
 have e6 := hl (ab7 c)
 unfold acz
 rw [hs, hg, agZ]
 simp only [Bool.not_true, Bool.false_eq_true, if_false, bne_self_eq_false]
 rw [if_neg (by omega), if_neg (by omega), if_neg (by omega), if_neg (by omega), if_neg (by omega)]
 cases hf : (aou (acn b (acA c d)) (ai2 (acn b (acA c d)))).find? fun e => e != 0 with
 | none =>
   left
   dsimp only
   rw [if_neg (by omega), if_neg (by omega)]
 | some e => exact hparts e (List.mem_of_find?_eq_some hf)
def axU (w : ahF) (lo : Int) : Nat → Int
 | 0 => -1
 | k + 1 => max (axU w lo k) (aea w (lo + k))
def aOz (w : ahF) (l : Int × Int) (lo : Int) : Nat → Bool
 | 0 => true
 | k + 1 => aOz w l lo k && (adI (adE w (lo + k)) l != 3)
theorem aMy (w : ahF) (lo : Int) : ∀ (k j : Nat), j < k → aea w (lo + j) ≤ axU w lo k
 | k + 1, j, h => by
   rcases Nat.lt_succ_iff_lt_or_eq.1 h with h | rfl
   ·have := aMy w lo k j h; unfold axU; omega
   ·unfold axU; omega
theorem aMx (w : ahF) (lo m : Int) (hm : -1 ≤ m) : ∀ (k : Nat), (∀ j, j < k → aea w (lo + (j : Nat)) ≤ m) → axU w lo k ≤ m
 | 0, _ => hm
 | k + 1, h => by
   have h1 := aMx w lo m hm k fun j hj => h j (by omega)
   have h2 := h k (by omega)
   unfold axU; omega
theorem aNh (w : ahF) (l : Int × Int) (lo : Int) : ∀ k : Nat, aOz w l lo k = true ↔ ∀ j : Nat, j < k → adI (adE w (lo + j)) l ≠ 3
 | 0 => ⟨fun _ j h => by omega, fun _ => rfl⟩
 | k + 1 => by
   unfold aOz
   rw [Bool.and_eq_true, aNh w l lo k, bne_iff_ne]
   constructor
   ·rintro ⟨h1, h2⟩ j hj
    rcases Nat.lt_succ_iff_lt_or_eq.1 hj with h | rfl
    ·exact h1 j h
    ·exact h2
   ·intro h
    exact ⟨fun j hj => h j (by omega), h k (by omega)⟩
theorem aNb : In af7 := ⟨⟨by simp [af7], by simp [af7], by simp [af7], by simp [af7], by simp [af7], by simp [af7]⟩, by simp [af7]⟩
theorem aRI {b : acv} (hn : ∀ g ∈ b.2.1, I64 g.2.2.2.2.1.1) (n l : Int × Int) (c : Cmp) : alA b n l c = some true := by
 unfold alA ale
 rw [few_ok, ab4, aDE]
 by_cases hf : fewP b = true
 case neg => rw [Bool.eq_false_iff.2 hf]; rfl
 have hI : In b := ⟨aR4 hf, hn⟩
 rw [hf, aco (by rfl), aJ2, ab4]
 by_cases hb : axI c = true
 case neg => rw [Bool.eq_false_iff.2 hb]; rfl
 rw [hb, aco (by rfl)]
 simp only [axI, Bool.and_eq_true, decide_eq_true_eq] at hb
 obtain ⟨y, hy, hy1, hy2⟩ := aRe hI (ns := [n]) (by simp) (by simp)
 have hyI := aS1 hI (by simp) (by simp) hy
 rw [hy, ab4, aEL hyI.size hyI.num (by omega) (by omega), ab4, aNi hI n (by omega) (by omega), ab4, aEK hI n l (by omega) (by omega), ab4]
 by_cases hok : y.2 = true
 case neg => rw [Bool.eq_false_iff.2 hok]; rfl
 rw [hok, aco (by rfl)]
 by_cases hp : (acw y.1 c).2 = 0
 case neg => rw [acB (bne_iff_ne.2 hp), ab4]
 rw [aco (by rw [hp]; rfl)]
 by_cases hw : (axK b n c).2 = 0
 case neg => rw [acB (bne_iff_ne.2 hw), ab4]
 rw [aco (by rw [hw]; rfl)]
 by_cases hst : (ak7 b n l c).2 = 0
 case neg => rw [acB (bne_iff_ne.2 hst), ab4]
 rw [aco (by rw [hst]; rfl)]
 have ho : (ads b [n]).2 = 0 := by
  unfold axK at hw
  by_cases h : (ads b [n]).2 = 0
  ·exact h
  ·rw [if_pos h] at hw; exact absurd hw h
 obtain ⟨hR, hB, hr0, hg0⟩ := agA hI ho
 have hA := aNE hI ho
 have hnd := hA.nodes n (by simp)
 have ey : y.1 = (ads b [n]).1 := by rw [hB, hy2 hok]
 rw [ey] at hp ⊢
 have hl : ¬ l.2 < l.1 := fun h => by
  unfold ak7 at hst
  rw [if_neg (by simp [ho]), if_pos h] at hst
  simp at hst
 have eW : axK b n c = (aqA (acW (ads b [n]).1 n c), 0) := by unfold axK; rw [if_neg (by simp [ho]), if_neg (by simp [hp])]
 have eS : ak7 b n l c = (ajk (acW (ads b [n]).1 n c) (aBo l.1, aBo l.2), 0) := by unfold ak7; rw [if_neg (by simp [ho]), if_neg hl, if_neg (by simp [hp])]
 rw [eW, eS]
 generalize (ads b [n]).1 = B at hR hnd hp ⊢
 have hpr := aku hp
 have pb := aO9 hpr
 have hgB := hR.good
 have hg2 := hpr.good2
 have hwk := aEO (n := n) hp
 have ew1 : (acW B n c).1 = (acw B c).1 := rfl
 have bd := iv_bd hR n
 generalize hLo : (acw B c).1.1 = lo at pb
 generalize hHi : (acw B c).1.2 = hi at pb
 rw [acu (by omega) (by omega)]
 by_cases h60 : 60 ≤ hi - lo
 ·rw [acB (decide_eq_true h60), ab4]
 rw [aco (decide_eq_false (by omega))]
 have hfar : ∀ d, lo ≤ d → d ≤ hi → adI (adE (acW B n c) d) (aBo l.1, aBo l.2) = adI (adE (acW B n c) d) l := by
  intro d _ _
  have a1 := aJ7 hwk.high (d := d) (by unfold Sm; omega)
  have a2 := aJ7 hwk.low (d := d) (by unfold Sm; omega)
  exact aLu (by unfold adE; dsimp only; omega) (by unfold adE; dsimp only; omega)
 let cd : Nat → Int := fun k => if k = 0 then c.2.2.2.2.1 else lo + k - 1
 refine afk (fun v => ∃ k : Nat, (k : Int) ≤ hi - lo + 1 ∧ v = (axU (acW B n c) lo k, aOz (acW B n c) l lo k, lo + (k : Int), cd k)) (fun v => (hi + 1 - v.2.2.1).toNat) ?_ ⟨0, by omega, by simp [axU, aOz, cd]⟩
 rintro v ⟨k, hk, rfl⟩
 by_cases hkh : lo + (k : Int) ≤ hi
 ·-- a result
  have hWith : ahD ((B.1.1, B.1.2), B.2.1, B.2.2.1, B.2.2.2.1, B.2.2.2.2.1, B.2.2.2.2.2) (c.1, c.2.1, c.2.2.1, c.2.2.2.1, lo + (k : Int), c.2.2.2.2.2.1, c.2.2.2.2.2.2.1, c.2.2.2.2.2.2.2) = some (if acz (acn B (acA c (lo + k))) ≠ 0 then (af7, acz (acn B (acA c (lo + k)))) else (acn B (acA c (lo + k)), 0)) := by
   have := aLR hgB.size hR.num (c := acA c (lo + k)) (show c.2.2.1.length ≤ 1000 by omega) (show c.2.2.2.1.length ≤ 1000 by omega)
   unfold aoi at this
   rw [if_neg (by simp [(acr B).2 hgB])] at this
   exact this
  rcases aN8 hg2 (lo + k) with hc | hc
  ·have hgm := (acr _).1 hc
   have hIm : In (acn B (acA c (lo + k))) := hgm.inn hR.num
   have hpe : (acw B (acA c (lo + k))) = acw B c := rfl
   have hwe : acW B n (acA c (lo + k)) = acW B n c := rfl
   obtain ⟨m1, m2, m3⟩ := aTq hR hnd (c := acA c (lo + k)) (by rw [hpe]; exact hp) hgm
   rw [hpe, hwe, hLo, hHi] at m1 m3
   rw [hpe, hLo, hHi] at m2
   have hin : lo ≤ (acA c (lo + k)).2.2.2.2.1 ∧ (acA c (lo + k)).2.2.2.2.1 ≤ hi := ⟨by show lo ≤ lo + (k : Int); omega, hkh⟩
   obtain ⟨q1, q2, q3, q4, q5⟩ := m3 hin
   rw [if_pos hin] at m1 m2
   have ed : (acA c (lo + k)).2.2.2.2.1 = lo + k := rfl
   rw [ed] at m1 q1 q2 q3 q4
   have eJ : aKb (acn B (acA c (lo + k))) n l = (adI (adE (acW B n c) (lo + k)) l, 0) := by
    unfold aKb
    rw [m2]
    dsimp only
    rw [if_neg (by simp), if_neg hl, q1]
   refine .inr ⟨(axU (acW B n c) lo (k + 1), aOz (acW B n c) l lo (k + 1), lo + ((k + 1 : Nat) : Int), cd (k + 1)), ⟨k + 1, by push_cast; omega, rfl⟩, by dsimp only; omega, fun kn => ?_⟩
   dsimp only
   unfold afn
   rw [acB (decide_eq_true hkh), hWith, ab4, if_neg (by simp [hc])]
   dsimp only
   rw [show (n.1, n.2) = n from rfl, show (l.1, l.2) = l from rfl, anF hIm, ab4, m1, aHh hIm, ab4, eJ, aco (by rfl), aco (by rfl), aco (by rfl), aco (by rfl), acu (by dsimp only; omega) (by dsimp only; omega)]
   have e1 : aGP (axU (acW B n c) lo k) ((adE (acW B n c) (lo + (k : Int))).2 - (adE (acW B n c) (lo + (k : Int))).1) = axU (acW B n c) lo (k + 1) := by rw [aGO]; rfl
   have e2 : lo + (k : Int) + 1 = lo + ((k + 1 : Nat) : Int) := by push_cast; omega
   have e3 : cd (k + 1) = lo + k := by simp only [cd]; rw [if_neg (by omega)]; push_cast; omega
   dsimp only
   rw [e1, e3]
   cases ha : aOz (acW B n c) l lo k with
   | true =>
     have : aOz (acW B n c) l lo (k + 1) = ine (adI (adE (acW B n c) (lo + (k : Int))) l) 3 := by
      show (aOz (acW B n c) l lo k && _) = _
      rw [ha, Bool.true_and]
     rw [aee, acu (by omega) (by omega), e2, this]
   | false =>
     have : aOz (acW B n c) l lo (k + 1) = false := by
      show (aOz (acW B n c) l lo k && _) = _
      rw [ha, Bool.false_and]
     rw [acO, acu (by omega) (by omega), e2, this]
  ·refine .inl fun kn => ?_
   dsimp only
   unfold afn
   rw [acB (decide_eq_true hkh), hWith, ab4, if_pos (by rw [hc]; simp), hc]
   dsimp only
   rw [anF aNb, ab4, aHh aNb, ab4, acB (by rfl), aDE, ab4]
 ·-- all results have been seen
  refine .inl fun kn => ?_
  have hk' : (k : Int) = hi - lo + 1 := by omega
  dsimp only
  unfold afn
  rw [aco (decide_eq_false hkh)]
  dsimp only
  rw [ab4, aee]
  have hr : (acW B n c).1.1 ≤ (acW B n c).1.2 := by rw [ew1, hLo, hHi]; omega
  have wg : ∀ d, (acW B n c).1.1 ≤ d → d ≤ (acW B n c).1.2 → 0 ≤ aea (acW B n c) d := fun d h1 h2 => aRf hR hnd hp h1 h2
  have em : axU (acW B n c) lo k = aqA (acW B n c) := by
   obtain ⟨d, d1, d2, d3⟩ := aRc (acW B n c) hr wg
   rw [ew1, hLo] at d1
   rw [ew1, hHi] at d2
   have h0 := wg d (by rw [ew1, hLo]; exact d1) (by rw [ew1, hHi]; exact d2)
   have a1 := aMy (acW B n c) lo k (d - lo).toNat (by omega)
   rw [show lo + (((d - lo).toNat : Nat) : Int) = d by omega] at a1
   have a2 := aMx (acW B n c) lo (aqA (acW B n c)) (by omega) k fun j hj => aOG (acW B n c) (by rw [ew1, hLo]; omega) (by rw [ew1, hHi]; omega)
   omega
  have ea : aOz (acW B n c) l lo k = ajk (acW B n c) (aBo l.1, aBo l.2) := by
   rw [Bool.eq_iff_iff, aNh]
   constructor
   ·intro h
    cases hs : ajk (acW B n c) (aBo l.1, aBo l.2) with
    | true => rfl
    | false =>
      obtain ⟨d, d1, d2, d3⟩ := aKt (acW B n c) _ hr hs
      rw [ew1, hLo] at d1
      rw [ew1, hHi] at d2
      rw [hfar d d1 d2] at d3
      have := h (d - lo).toNat (by omega)
      rw [show lo + (((d - lo).toNat : Nat) : Int) = d by omega] at this
      exact absurd d3 this
   ·intro hs j hj
    have := aNw (acW B n c) _ hs (lo + (j : Nat)) (by rw [ew1, hLo]; omega) (by rw [ew1, hHi]; omega)
    rw [hfar _ (by omega) (by omega)] at this
    exact this
  rw [em, ea, acB (beq_self_eq_true _)]
  simp
end Go.Proofs.ZzM
end