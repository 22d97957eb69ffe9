/- lemmas -/
import Derived.Test.YthhhehllmdfhiaaGreatPlA
import Derived.Test.YthhhehllmdfhiaaGreatMdTA
set_option linter.all false
set_option linter.unusedSectionVars false
set_option linter.unusedVariables false
set_option linter.unusedSimpArgs false
noncomputable section
namespace Go.Proofs.ZzM
open Go Go.Am
structure aQQ (B : acq) : Prop where
 good : adk B
 op : adC (acp B) ((acd B).length + 1) = true
 num : ∀ g ∈ B.2.1, I64 g.2.2.2.2.1.1
theorem agw {b : acq} (hI : In b) {ns : List (Int × Int)} (e : (adg b ns).2 = 0) : aQQ (adg b ns).1 ∧ (adg b ns).1 = (aeu b ns).1 ∧ (aeu b ns).2 = 0 ∧ adk b := by
 unfold adg at e ⊢
 by_cases hc : acy b = 0
 ·rw [if_neg (by simp [hc])] at e ⊢
  by_cases hr : (aeu b ns).2 = 0
  ·rw [if_neg (by simp [hr])] at e ⊢
   cases ho : adC (acp (aeu b ns).1) ((acd (aeu b ns).1).length + 1) with
   | true =>
     rw [if_pos rfl]
     exact ⟨⟨ay7 ((aco b).1 hc) hr, ho, by rw [amt hr]; exact hI.num⟩, rfl, hr, (aco b).1 hc⟩
   | false => rw [ho] at e; simp at e
  ·rw [if_pos hr] at e; exact absurd e hr
 ·rw [if_pos hc] at e; exact absurd e hc
theorem adP (B : acq) (n : Int × Int) : 0 ≤ amr B n.1 n.2 ∧ amr B n.1 n.2 < ((acd B).length + 1 : Nat) := by
 unfold amr
 cases h : ags (acd B) n.1 n.2 with
 | none => dsimp only; omega
 | some j => have := (agW h).1; dsimp only; omega
theorem aBQ {B : acq} (h : adk B) (hn : ∀ g ∈ B.2.1, I64 g.2.2.2.2.1.1) (s : Sys) (n : Int × Int) : ae6 (B, s) n = some (amr B n.1 n.2) := by
 unfold ae6 arM
 rw [show adt (B, s).1 n = adt B n from rfl, apJ (h.inn hn), ab1, anB h]
 split
 ·rename_i e; rw [e]
 ·rfl
theorem aJY {B : acq} {L : List Lk} {N : Nat} (h : afo L N) {to from' : Int} (h1 : 0 ≤ to ∧ to < N) (h2 : 0 ≤ from' ∧ from' < N) : acX (B, (N : Int), L) to from' = some (afp L N from' to).1 := by
 unfold acX ak9
 rw [show (B, (N : Int), L).2 = ((N : Int), L) from rfl, ayQ h h2 h1, ab1]
def aDv (B : acq) : Sys := (((acd B).length : Int) + 1, acp B)
def aOs (B : acq) (s t : Int) : Int := dst (acp B) ((acd B).length + 1) s t
def ivR (B : acq) (n : Int × Int) : Int × Int := (-(aOs B (amr B n.1 n.2) 0), aOs B 0 (amr B n.1 n.2))
theorem ayU (B : acq) : aDv B = ((((acd B).length + 1 : Nat) : Int), acp B) := by unfold aDv; push_cast; rfl
theorem adS (B : acq) : 0 ≤ (0 : Int) ∧ (0 : Int) < ((acd B).length + 1 : Nat) := by omega
section
variable {B : acq} (h : aQQ B)
include h
theorem apx {s t : Int} (hs : 0 ≤ s ∧ s < ((acd B).length + 1 : Nat)) (ht : 0 ≤ t ∧ t < ((acd B).length + 1 : Nat)) : -9007199254740992 ≤ aOs B s t ∧ aOs B s t ≤ 9007199254740992 :=
 aMT h.good.sys h.good.tied h.op hs ht
theorem aqf {to from' : Int} (h1 : 0 ≤ to ∧ to < ((acd B).length + 1 : Nat)) (h2 : 0 ≤ from' ∧ from' < ((acd B).length + 1 : Nat)) : acX (B, aDv B) to from' = some (aOs B from' to) := by
 rw [ayU, aJY h.good.sys h1 h2, aqj h.good.sys h.good.tied h2 h1, if_pos h.op]
 rfl
theorem aEd (n : Int × Int) : ae5 (B, aDv B) n = some (-(aOs B (amr B n.1 n.2) 0)) := by
 unfold ae5 ak8
 have hb := apx h (adP B n) (adS B)
 rw [aBQ h.good h.num, ab1, aqf h (adS B) (adP B n), ab1, acs (by omega) (by omega)]
 congr 1
 omega
theorem auD (n : Int × Int) : afn (B, aDv B) n = some (aOs B 0 (amr B n.1 n.2)) := by
 unfold afn ahY
 rw [aBQ h.good h.num, ab1, aqf h (adP B n) (adS B), ab1]
theorem anj (n : Int × Int) : aeq (B, aDv B) n = some (ivR B n) := by
 unfold aeq ahX
 rw [aEd h, ab1, auD h, ab1]
 rfl
end
def agD (b : acq) (n : Int × Int) : (Int × Int) × Int := if (adg b [n]).2 ≠ 0 then ((0, 0), (adg b [n]).2) else (ivR (adg b [n]).1 n, 0)
theorem anA {b : acq} (hI : In b) (n : Int × Int) : aga b n = some (agD b n) := by
 unfold aga aoN agD
 refine (amw hI (ns := [n]) (by simp) (fun e => some (((0, 0) : Int × Int), e)) (fun e he => by rw [adI (by simp [ine, he])]) (fun z he => by rw [adI (by simp [ine, he])]) (fun _ _ _ => rfl)).trans ?_
 split
 ·rfl
 ·rename_i e
  have hr := (agw hI (by simpa using e)).1
  dsimp only
  rw [apm, show ((((acd (adg b [n]).1).length : Int) + 1, acp (adg b [n]).1) : Sys) = aDv (adg b [n]).1 from rfl, anj hr, ab1]
theorem aOl {ρ : Type} : @alg ρ = @ac4 ρ := rfl
theorem aRH {ρ : Type} : @aoM ρ = @ac4 ρ := rfl
def btR (B : acq) (m n : Int × Int) : Int × Int := (-(aOs B (amr B m.1 m.2) (amr B n.1 n.2)), aOs B (amr B n.1 n.2) (amr B m.1 m.2))
def aHh (b : acq) (m n : Int × Int) : (Int × Int) × Int := if (adg b [m, n]).2 ≠ 0 then ((0, 0), (adg b [m, n]).2) else (btR (adg b [m, n]).1 m n, 0)
theorem aOq {b : acq} (hI : In b) (m n : Int × Int) : ano b m n = some (aHh b m n) := by
 unfold ano arU aHh
 rw [aOl]
 refine (amw hI (ns := [m, n]) (by simp) (fun e => some (((0, 0) : Int × Int), e)) (fun e he => by rw [adI (by simp [ine, he])]) (fun z he => by rw [adI (by simp [ine, he])]) (fun _ _ _ => rfl)).trans ?_
 split
 ·rfl
 ·rename_i e
  have hr := (agw hI (by simpa using e)).1
  dsimp only
  generalize (adg b [m, n]).1 = B at hr ⊢
  have hb := apx hr (adP B m) (adP B n)
  rw [apm, show ((((acd B).length : Int) + 1, acp B) : Sys) = aDv B from rfl, aBQ hr.good hr.num, ab1, aBQ hr.good hr.num, ab1, aqf hr (adP B n) (adP B m), ab1,
   acs (by omega) (by omega), aqf hr (adP B m) (adP B n), ab1]
  unfold btR
  rw [Int.zero_sub]
def adu (s l : Int × Int) : Int := if l.1 ≤ s.1 ∧ s.2 ≤ l.2 then 1 else if s.2 < l.1 ∨ l.2 < s.1 then 2 else 3
theorem aDs (s l : Int × Int) : aj6 s l = some (adu s l) := by
 unfold aj6 arJ adu
 simp only [adJ, ile, ilt, decide_eq_true_eq]
 by_cases h1 : l.1 ≤ s.1 <;> by_cases h2 : s.2 ≤ l.2 <;> by_cases h3 : s.2 < l.1 <;> by_cases h4 : l.2 < s.1 <;> simp [h1, h2, h3, h4]
def aBX (b : acq) (n l : Int × Int) : Int × Int := if (adg b [n]).2 ≠ 0 then (0, (adg b [n]).2) else if l.2 < l.1 then (0, 1) else (adu (ivR (adg b [n]).1 n) l, 0)
theorem aHd {b : acq} (hI : In b) (n l : Int × Int) : amh b n l = some (aBX b n l) := by
 unfold amh azR aBX
 rw [aRH]
 refine (amw hI (ns := [n]) (by simp) (fun e => some ((0 : Int), e)) (fun e he => by rw [acv (by simp [ine, he])]) (fun z he => by rw [acv (by simp [ine, he])]) (fun _ _ _ => rfl)).trans ?_
 split
 ·rfl
 ·rename_i e
  have hr := (agw hI (by simpa using e)).1
  dsimp only
  by_cases hl : l.2 < l.1
  ·rw [acv (by simp [igt, hl]), if_pos hl]
  ·rw [ack (by simp [igt]; omega), if_neg hl, apm, show ((((acd (adg b [n]).1).length : Int) + 1, acp (adg b [n]).1) : Sys) = aDv (adg b [n]).1 from rfl, anj hr, ab1, aDs, ab1]
end Go.Proofs.ZzM
end
noncomputable section
namespace Go.Proofs.ZzM
open Go Go.Am
def aBZ (x y : List Int) : List Int × List Int × Int := if !aje x then ([], [], 1) else if !aje y then ([], [], 1) else (ac6 x y, ac6 y x, 0)
theorem aJ8 {x y : List Int} (hx : x.length ≤ 100000) (hy : y.length ≤ 100000) : aml x y = some (aBZ x y) := by
 unfold aml av5 aBZ
 rw [auv (by omega), ab1]
 cases aje x with
 | false => rfl
 | true =>
   rw [auv (by omega), ab1]
   cases aje y with
   | false => rfl
   | true =>
     rw [alo (by omega) (by omega), ab1, alo (by omega) (by omega), ab1]
     rfl
end Go.Proofs.ZzM
end
noncomputable section
namespace Go.Proofs.ZzM
open Go Go.Am
theorem aJz (ls : List (List Int)) (i : Nat) : (ls.take i).flatten.length ≤ ls.flatten.length := by
 conv => rhs; rw [← List.take_append_drop i ls, List.flatten_append, List.length_append]
 omega
theorem ajG {ls : List (List Int)} (hl : ls.length ≤ 1000000) (hf : ls.flatten.length ≤ 1000000) : acB ls = some ls.flatten := by
 have hk : ∀ n : Nat, n ≤ 4000000 → ∀ (f : Int → Option (List Int)), ck (n : Int) f = f n := fun n h f => acs (by omega) (by omega) f
 have second : acj (fun (v9 : (Val (.pair tI (.slice tI)))) kk12 => acG ls (acx ls) v9.1 v9.2 (fun u10 u11 => kk12 (u10, u11)) (fun z8 => some z8)) ((0 : Int), ([] : List Int)) = some ls.flatten := by
  refine ada ls (fun i => (ls.take i).flatten) (some ls.flatten) (f := fun (v9 : (Val (.pair tI (.slice tI)))) kk12 => acG ls (acx ls) v9.1 v9.2 (fun u10 u11 => kk12 (u10, u11)) (fun z8 => some z8)) rfl (fun i x hi hx kn => ?_) (fun kn => ?_)
  ·try dsimp only
   unfold acG
   have h1 := aJz ls (i + 1)
   rw [take_succ hx, List.flatten_append, List.length_append] at h1
   simp only [List.flatten_cons, List.flatten_nil, List.append_nil] at h1
   rw [acm hi, acg hx, aci hi (by omega), take_succ hx, List.flatten_append]
   have : acK ((List.take i ls).flatten.length + x.length) = true := acn (by omega)
   rw [adI this]
   simp
  ·try dsimp only
   unfold acG
   rw [acJ]
   simp
 unfold acB afV
 refine afE (fun x : Int × Int => ∃ i : Nat, i ≤ ls.length ∧ x = (((ls.take i).flatten.length : Int), (i : Int))) (fun x => ls.length - x.2.toNat) ?_ ⟨0, by omega, rfl⟩
 rintro x ⟨i, hi, rfl⟩
 rcases Nat.lt_or_ge i ls.length with h2 | h2
 ·refine .inr ⟨(((ls.take (i + 1)).flatten.length : Int), (i : Int) + 1), ⟨i + 1, h2, by simp⟩, by simp; omega, fun kn => ?_⟩
  obtain ⟨x, hx⟩ : ∃ x, ls[i]? = some x := ⟨_, List.getElem?_eq_getElem h2⟩
  have h1 := aJz ls (i + 1)
  rw [take_succ hx, List.flatten_append, List.length_append] at h1
  simp only [List.flatten_cons, List.flatten_nil, List.append_nil] at h1
  try dsimp only
  unfold adv
  rw [acm h2, acg hx, acL]
  have e1 : (((List.take i ls).flatten.length : Int) + (x.length : Int)) = ((List.take i ls).flatten.length + x.length : Nat) := by omega
  rw [e1, hk _ (by omega)]
  have : ilt ((((List.take i ls).flatten.length + x.length : Nat)) : Int) 0 = false := by simp [ilt]; omega
  rw [ack this, aci h2 (by omega), take_succ hx]
  simp
 ·refine .inl fun kn => ?_
  obtain rfl : i = ls.length := by omega
  try dsimp only
  unfold adv
  rw [acJ, List.take_length]
  have e2 : ilt ((ls.flatten.length : Nat) : Int) 0 = false := decide_eq_false (by omega)
  dsimp only
  rw [ack e2, Int.sub_zero, hk _ (by omega)]
  rcases Nat.eq_zero_or_pos ls.flatten.length with h0 | h0
  ·have : igt (ls.flatten.length : Int) 0 = false := decide_eq_false (by omega)
   rw [ack this]
   exact second
  ·have : igt (ls.flatten.length : Int) 0 = true := decide_eq_true (by omega)
   rw [acv this]
   have : ((ilt (0 : Int) (ls.flatten.length : Int)) && (acK (Int.toNat (ls.flatten.length : Int)))) = true := by
    rw [Int.toNat_natCast, acn (by omega), Bool.and_true]
    exact decide_eq_true (by omega)
   rw [adI this]
   have : ile 0 (adD (List.replicate (Int.toNat (ls.flatten.length : Int)) (0 : Int))) = true := decide_eq_true (Int.natCast_nonneg _)
   rw [adI this]
   exact second
def onP (day : Int) (ids : List Int) : List (Int × Int) := ids.map fun id => (id, day)
theorem aON {day : Int} {ls : List (List Int)} (hl : ls.length ≤ 1000000) (hf : ls.flatten.length ≤ 1000000) : auI day ls = some (onP day ls.flatten) := by
 unfold auI azF
 rw [ajG hl hf, ab1]
 refine ada ls.flatten (fun i => onP day (ls.flatten.take i)) _ rfl (fun i x hi hx kn => ?_) (fun kn => ?_)
 ·try dsimp only
  unfold akz
  rw [acm hi, acg hx, aci hi (by omega), take_succ hx]
  have : acK (List.length (onP day (ls.flatten.take i)) + List.length ([(x, day)])) = true := acn (by simp [onP]; omega)
  rw [adI this]
  simp [onP]
 ·try dsimp only
  unfold akz
  rw [acJ, List.take_length]
theorem aRd {l : List Int} (hl : l.length ≤ 100000) (m : Int) : ayK l m = some (aje l && decide ((l.length : Int) ≤ m)) := by
 unfold ayK aFn
 rw [aJ8 hl (by simp), ab1]
 have e0 : aje [] = true := by decide
 unfold aBZ
 rw [e0, acL]
 cases aje l <;> rfl
theorem aSX (n : Int) : auJ n = some (aLu n) := by
 unfold auJ azK aLu inP
 rw [adJ]
 by_cases h : 0 ≤ n
 ·rw [if_pos (by simpa [ige] using h)]; simp [h]
 ·rw [if_neg (by simpa [ige] using h)]; simp [h]
theorem aRM {ρ α : Type} (l : List α) (i : Int) (f : α → Option ρ) : acS ((ile (0 : Int) i) && (ilt i (adD l))) (aft l (Int.toNat i) f) = adO l i f := by
 unfold adO
 by_cases h0 : 0 ≤ i
 ·by_cases h1 : i < l.length
  ·have e : ((ile (0 : Int) i) && (ilt i (adD l))) = true := by simp [ile, ilt, h0, h1]
   rw [adI e]
   simp only [h0, decide_true]
   unfold aft
   rfl
  ·have e : ((ile (0 : Int) i) && (ilt i (adD l))) = false := by simp [ile, ilt, h1]
   rw [e]
   simp only [h0, decide_true]
   rw [List.getElem?_eq_none (by omega)]
   rfl
 ·have e : ((ile (0 : Int) i) && (ilt i (adD l))) = false := by simp [ile, ilt, h0]
  rw [e]
  simp only [h0, decide_false]
  rfl
theorem aS6 {ρ : Type} (ns : List (Int × Int)) (n : Int) : @amP ρ ns n = @ac4 ρ n ns := by
 funext v0 v1 v2 v3 v4 v5 v6 v7 kn k0 k1
 unfold amP ac4
 rw [aRM]
def aL6 (B : acq) (ns : List (Int × Int)) (s : Int × Int) : Int × Int := ns.foldl (fun s n => (s.1 + (ivR B n).1, s.2 + (ivR B n).2)) s
def pileR (B : acq) (f : Int × Int) (ns : List (Int × Int)) : Int × Int := aL6 B ns (((ns.length : Int) - 1) * f.1, ((ns.length : Int) - 1) * f.2)
def aTP (b : acq) (day : Int) (ids : List Int) : (Int × Int) × Int :=
 if acy b ≠ 0 then ((0, 0), acy b) else if ids.length = 0 ∨ aje ids = false ∨ aLu day = false then ((0, 0), 1) else
 if (adg b (onP day ids)).2 ≠ 0 then ((0, 0), (adg b (onP day ids)).2) else (pileR (adg b (onP day ids)).1 b.1 (onP day ids), 0)
theorem aKj (B : acq) (x y : List (Int × Int)) (s : Int × Int) : aL6 B (x ++ y) s = aL6 B y (aL6 B x s) := by unfold aL6; rw [List.foldl_append]
theorem aOJ {B : acq} (h : aQQ B) : ∀ (ns : List (Int × Int)) (s : Int × Int) (m : Int), -m ≤ s.1 ∧ s.1 ≤ m → -m ≤ s.2 ∧ s.2 ≤ m →
 (-(m + ns.length * 9007199254740992) ≤ (aL6 B ns s).1 ∧ (aL6 B ns s).1 ≤ m + ns.length * 9007199254740992) ∧ (-(m + ns.length * 9007199254740992) ≤ (aL6 B ns s).2 ∧ (aL6 B ns s).2 ≤ m + ns.length * 9007199254740992)
 | [], s, m, h1, h2 => by unfold aL6; simp; omega
 | n :: t, s, m, h1, h2 => by
   have b1 := apx h (adP B n) (adS B)
   have b2 := apx h (adS B) (adP B n)
   have := aOJ h t (s.1 + (ivR B n).1, s.2 + (ivR B n).2) (m + 9007199254740992) (by unfold ivR; dsimp only; omega) (by unfold ivR; dsimp only; omega)
   show (-(m + ((n :: t).length : Nat) * 9007199254740992) ≤ (aL6 B t _).1 ∧ _) ∧ _
   unfold aL6 at this ⊢
   simp only [List.foldl_cons, List.length_cons]
   push_cast
   omega
theorem aTO {b : acq} (hI : In b) (day : Int) {ids : List Int} (hl : ids.length ≤ 1000) : ayL b day ids = some (aTP b day ids) := by
 unfold ayL aFN aTP
 rw [afZ hI.size hI.num, ab1, aRd (by omega), ab1, aSX, ab1, acL]
 by_cases hc : acy b = 0
 ·rw [ack (by simp [ine, hc]), if_neg (show ¬ (acy b ≠ 0) from fun h => h hc)]
  by_cases h0 : ids.length = 0
  ·rw [acv (by simp [ieq, h0]), if_pos (.inl h0)]
  ·rw [ack (beq_eq_false_iff_ne.2 (by omega))]
   by_cases h1 : aje ids = true
   ·have hp := (aHO ids).1 h1
    have e1 : (aje ids && decide ((ids.length : Int) ≤ 6)) = true := by rw [h1]; simp; omega
    rw [e1, ack (by rfl)]
    by_cases h2 : aLu day = true
    ·have hg := (aco b).1 hc
     rw [ack (by rw [h2]; rfl), if_neg (by simp [h0, h1, h2]), aON (by simp) (by simp; omega), ab1]
     have hlen : (onP day ids).length = ids.length := by simp [onP]
     rw [show ([ids] : List (List Int)).flatten = ids by simp, aS6, ← afZ hI.size hI.num]
     refine (amw hI (ns := onP day ids) (by omega) (fun e => some (((0, 0) : Int × Int), e)) (fun e he => by rw [acv (by simp [ine, he])]) (fun z he => by rw [acv (by simp [ine, he])]) (fun _ _ _ => rfl)).trans ?_
     split
     ·rfl
     ·rename_i e
      have hr := (agw hI (by simpa using e)).1
      have hf := hg.film
      dsimp only
      generalize (adg b (onP day ids)).1 = B at hr ⊢
      have hm : ∀ x : Int, 0 ≤ x → x ≤ 1000000 → 0 ≤ ((ids.length : Int) - 1) * x ∧ ((ids.length : Int) - 1) * x ≤ 10000000 := by
       intro x h0 h1
       have : ((ids.length : Int) - 1) * x ≤ 5 * 1000000 := Int.mul_le_mul (by omega) h1 h0 (by omega)
       exact ⟨Int.mul_nonneg (by omega) h0, by omega⟩
      have m1 := hm b.1.1 (by omega) (by omega)
      have m2 := hm b.1.2 (by omega) (by omega)
      rw [acs (by omega) (by omega), acs (by omega) (by omega), acs (by omega) (by omega), apm, show ((((acd B).length : Int) + 1, acp B) : Sys) = aDv B from rfl]
      unfold pileR
      rw [hlen]
      refine ada (onP day ids) (fun i => aL6 B ((onP day ids).take i) (((ids.length : Int) - 1) * b.1.1, ((ids.length : Int) - 1) * b.1.2)) _ rfl (fun i n hi hn kn => ?_) (fun kn => ?_)
      ·try dsimp only
       unfold amO
       have b1 := apx hr (adP B n) (adS B)
       have b2 := apx hr (adS B) (adP B n)
       have bs := aOJ hr ((onP day ids).take i) (((ids.length : Int) - 1) * b.1.1, ((ids.length : Int) - 1) * b.1.2) 10000000 (by dsimp only; omega) (by dsimp only; omega)
       have bl : (((onP day ids).take i).length : Int) ≤ 6 := by rw [List.length_take]; omega
       rw [acm hi, acg hn, anj hr, ab1, take_succ hn, aKj]
       generalize aL6 B ((onP day ids).take i) (((ids.length : Int) - 1) * b.1.1, ((ids.length : Int) - 1) * b.1.2) = s at bs ⊢
       unfold ivR
       dsimp only
       rw [acs (by omega) (by omega), acs (by omega) (by omega), aci hi (by omega)]
       rfl
      ·try dsimp only
       unfold amO
       rw [acJ, List.take_length]
    ·have h2' : aLu day = false := by simpa using h2
     rw [h2', acv (by rfl), if_pos (.inr (.inr rfl))]
   ·have h1' : aje ids = false := by simpa using h1
    rw [h1', acv (by rfl), if_pos (.inr (.inl rfl))]
 ·rw [acv (by simp [ine, hc]), if_pos hc]
theorem aj3 {α : Type} (p : α → Bool) (l : List α) (i : Nat) : ((l.take i).filter p).length ≤ l.length := by
 have h1 := List.length_filter_le p (l.take i)
 rw [List.length_take] at h1
 omega
end Go.Proofs.ZzM
end
noncomputable section
namespace Go.Proofs.ZzM
open Go Go.Am
def aOO (f : Int → Int → Int) (z : Int) (l : List Int) (d : Int) : Int := match l with | [] => z | x :: _ => f x d
def amm (f : Int → Int → Int) (z : Int) (c : Cmp) : Int := aOO f z (ac6 c.2.2.1 c.2.2.2.1) c.2.1 - aOO f z (ac6 c.2.2.2.1 c.2.2.1) c.2.1
structure aTT (b : acq) (f : Int → Int → Int) (z : Int) (g : acO) : Prop where
 hi : f g.1 g.2.1 ≤ z + (g.2.2.1 + g.2.2.2.1.2)
 lo : z + (g.2.2.1 + g.2.2.2.1.1) ≤ f g.1 g.2.1
 down : ∀ d e, g.2.1 ≤ d → d ≤ e → f g.1 e ≤ f g.1 d
 loss : ∀ d e, g.2.1 ≤ d → d ≤ e → f g.1 d ≤ f g.1 e + agS b g d e
structure aEK (b : acq) (f : Int → Int → Int) (z : Int) : Prop where
 gauge : ∀ g ∈ b.2.1, aTT b f z g
 cmp : ∀ c ∈ b.2.2.2.2.1, (adY b c).1 ≤ amm f z c ∧ amm f z c ≤ (adY b c).2
theorem aJC {b : acq} (h : adk b) {p : Int → Int} (hg : ∀ g ∈ b.2.1, akj b p g) : ∃ f : Int → Int → Int, (∀ g ∈ b.2.1, aTT b f (p 0) g) ∧ ∀ g ∈ b.2.1, ∀ d ∈ acu b g, f g.1 d = p (aey b g.1 d) := by
 let f : Int → Int → Int := fun id d => match ahr b id with | some g => fill b p g d | none => 0
 have hfv : ∀ g ∈ b.2.1, ∀ d, f g.1 d = fill b p g d := fun g hgm d => by
  show (match ahr b g.1 with | some g => fill b p g d | none => 0) = _
  rw [ase h.ids hgm]
 refine ⟨f, fun g hgm => ?_, fun g hgm d hd => by rw [hfv g hgm]; exact ayI h hgm (hg g hgm) hd⟩
 have gf := hg g hgm
 have e0 : f g.1 g.2.1 = p (aey b g.1 g.2.1) := by rw [hfv g hgm]; exact ayI h hgm gf (aip g)
 refine ⟨by rw [e0]; exact gf.hi, by rw [e0]; exact gf.lo, fun d e h0 hde => ?_, fun d e h0 hde => ?_⟩
 ·rw [hfv g hgm, hfv g hgm]
  exact (auF h hgm gf h0 hde).1
 ·rw [hfv g hgm, hfv g hgm]
  exact (auF h hgm gf h0 hde).2
theorem aHz {b : acq} {f : Int → Int → Int} {p : Int → Int} (hm : ∀ g ∈ b.2.1, ∀ d ∈ acu b g, f g.1 d = p (aey b g.1 d)) {l : List Int} {day : Int} (hl : ∀ x ∈ l, ∃ g ∈ b.2.1, g.1 = x ∧ day ∈ acu b g) : p (ayi b l day) = aOO f (p 0) l day := by
 cases l with
 | nil => rfl
 | cons x t =>
   obtain ⟨g, q1, rfl, q3⟩ := hl x (by simp)
   exact (hm g q1 day q3).symm
theorem aBs {b : acq} {f : Int → Int → Int} {p : Int → Int} (hm : ∀ g ∈ b.2.1, ∀ d ∈ acu b g, f g.1 d = p (aey b g.1 d)) {c : Cmp}
 (hl : ∀ x, x ∈ ac6 c.2.2.1 c.2.2.2.1 ∨ x ∈ ac6 c.2.2.2.1 c.2.2.1 → ∃ g ∈ b.2.1, g.1 = x ∧ c.2.1 ∈ acu b g) : p (cx b c) - p (cy b c) = amm f (p 0) c := by
 unfold amm
 rw [awq, awp, aHz hm (fun x hx => hl x (.inl hx)), aHz hm (fun x hx => hl x (.inr hx))]
theorem aDF {b : acq} (h : adk b) (f : Int → Int → Int) (z : Int) {l : List Int} {day : Int} (hl : ∀ x ∈ l, ∃ g ∈ b.2.1, g.1 = x ∧ day ∈ acu b g) : aB7 b f z (ayi b l day) = aOO f z l day := by
 rw [awx h f z hl]
 unfold aOO
 cases l <;> rfl
theorem azb {b : acq} (h : adk b) {f : Int → Int → Int} {z : Int} {c : Cmp} (hl : ∀ x, x ∈ ac6 c.2.2.1 c.2.2.2.1 ∨ x ∈ ac6 c.2.2.2.1 c.2.2.1 → ∃ g ∈ b.2.1, g.1 = x ∧ c.2.1 ∈ acu b g) : aB7 b f z (cx b c) - aB7 b f z (cy b c) = amm f z c := by
 unfold amm
 rw [awq, awp, aDF h f z (fun x hx => hl x (.inl hx)), aDF h f z (fun x hx => hl x (.inr hx))]
theorem aDE {b : acq} (h : adk b) {f : Int → Int → Int} {z : Int} {g : acO} (hg : g ∈ b.2.1) (hh : aTT b f z g) : akj b (aB7 b f z) g := by
 have q : ∀ d ∈ acu b g, aB7 b f z (aey b g.1 d) = f g.1 d := fun d hd => aoj h f z hg hd
 have e0 := q g.2.1 (aip g)
 refine ⟨?_, ?_, fun d e hd he hde => ?_, fun d e hd he hde => ?_⟩
 ·rw [e0, air]; exact hh.hi
 ·rw [e0, air]; exact hh.lo
 ·rw [q d hd, q e he]; exact hh.down d e (h.day hg hd).1 hde
 ·rw [q d hd, q e he]; exact hh.loss d e (h.day hg hd).1 hde
section
variable {b : acq} {c : Cmp}
theorem aMg (h : adk b) {p : Int → Int} (hp : Pot (acp b) p) : ∃ f, aEK b f (p 0) ∧ ∀ g ∈ b.2.1, ∀ d ∈ acu b g, f g.1 d = p (aey b g.1 d) := by
 obtain ⟨hg, hc⟩ := (aE2 h).1 hp
 obtain ⟨f, hf, hm⟩ := aJC h hg
 refine ⟨f, ⟨hf, fun c hcm => ?_⟩, hm⟩
 have := aBs hm (c := c) (fun x hx => ajk h hcm hx)
 have := hc c hcm
 omega
theorem aMD (h : adk b) {f : Int → Int → Int} {z : Int} (hh : aEK b f z) : Pot (acp b) (aB7 b f z) := by
 refine (aE2 h).2 ⟨fun g hg => aDE h hg (hh.gauge g hg), fun c hc => ?_⟩
 have := azb (f := f) (z := z) h (c := c) (fun x hx => ajk h hc hx)
 have := hh.cmp c hc
 omega
theorem aMU (h : adk b) {d : Cmp} (hd : d ∈ b.2.2.2.2.1) : ∀ x, x ∈ ac6 d.2.2.1 d.2.2.2.1 ∨ x ∈ ac6 d.2.2.2.1 d.2.2.1 → ∃ g ∈ (acl b c).2.1, g.1 = x ∧ d.2.1 ∈ acu (acl b c) g := by
 intro x hx
 obtain ⟨g, q1, q2, q3⟩ := ajk h hd hx
 exact ⟨g, q1, q2, ake q3⟩
theorem aPU (h : adk b) (h' : adk (acl b c)) {p : Int → Int} (hp : Pot (acE (acl b c)) p) : ∃ f, aEK b f (p 0) ∧ p (cx (acl b c) c) - p (cy (acl b c) c) = amm f (p 0) c := by
 obtain ⟨hg, hc⟩ := (ayH h').1 hp
 obtain ⟨f, hf, hm⟩ := aJC h' hg
 refine ⟨f, ⟨fun g hgm => ?_, fun d hd => ?_⟩, aBs hm fun x hx => ajk h' aku hx⟩
 ·have := hf g hgm
  exact ⟨this.hi, this.lo, this.down, this.loss⟩
 ·have := aBs hm (c := d) (aMU h hd)
  have := hc d hd
  omega
theorem aPT (h : adk b) (h' : adk (acl b c)) {f : Int → Int → Int} {z : Int} (hh : aEK b f z) : Pot (acE (acl b c)) (aB7 (acl b c) f z) ∧ aB7 (acl b c) f z (cx (acl b c) c) - aB7 (acl b c) f z (cy (acl b c) c) = amm f z c := by
 refine ⟨(ayH h').2 ⟨fun g hg => aDE h' hg ?_, fun d hd => ?_⟩, azb h' fun x hx => ajk h' aku hx⟩
 ·have := hh.gauge g hg
  exact ⟨this.hi, this.lo, this.down, this.loss⟩
 ·have := azb (f := f) (z := z) h' (c := d) (aMU h hd)
  have := hh.cmp d hd
  omega
theorem azp (h : adk b) : adC (acp b) ((acd b).length + 1) = true ↔ ∃ f z, aEK b f z := by
 have := h.sys.n60
 rw [aex h.sys.links (by omega)]
 constructor
 ·rintro ⟨p, hp⟩
  obtain ⟨f, hf, _⟩ := aMg h hp
  exact ⟨f, _, hf⟩
 ·rintro ⟨f, z, hh⟩
  exact ⟨_, aMD h hh⟩
theorem d_max (h : adk b) (h' : adk (acl b c)) {f : Int → Int → Int} {z : Int} (hh : aEK b f z) : dLo b c ≤ amm f z c ∧ amm f z c ≤ dHi b c := by
 have ho : adC (acE (acl b c)) ((acd (acl b c)).length + 1) = true := by rw [aiL h h']; exact (azp h).2 ⟨f, z, hh⟩
 obtain ⟨hp, hd⟩ := aPT h h' hh
 have a1 := awo (afY h') (af9 h') ho (apB h') (apA h') hp
 have a2 := awo (afY h') (af9 h') ho (apA h') (apB h') hp
 unfold dLo dHi
 omega
theorem d_all (h : adk b) (h' : adk (acl b c)) (ho : adC (acp b) ((acd b).length + 1) = true) {t : Int} (h1 : dLo b c ≤ t) (h2 : t ≤ dHi b c) : ∃ f z, aEK b f z ∧ amm f z c = t := by
 rw [← aiL h h'] at ho
 obtain ⟨p, hp, hd⟩ := aQc (afY h') (af9 h') ho (apB h') (apA h') h1 h2
 obtain ⟨f, hf, he⟩ := aPU h h' hp
 exact ⟨f, _, hf, by rw [← he]; exact hd⟩
theorem aTz (h : adk b) (h' : adk (acl b c)) (ho : adC (acp b) ((acd b).length + 1) = true) : dLo b c ≤ dHi b c := by
 rw [← aiL h h'] at ho
 exact aBq (afY h') (af9 h') ho (apB h') (apA h')
theorem aEU (b : acq) (c : Cmp) : (adY b c).1 = c.2.2.2.2.1 - ajl b c ∧ (adY b c).2 = c.2.2.2.2.1 - ayD b c := by
 unfold adY ajl ayD
 constructor
 ·simp only; omega
 ·simp only; omega
theorem auC {d : Cmp} {f : Int → Int → Int} {z : Int} : aEK (acl b d) f z ↔ aEK b f z ∧ (adY b d).1 ≤ amm f z d ∧ amm f z d ≤ (adY b d).2 := by
 constructor
 ·intro h
  exact ⟨⟨fun g hg => by have := h.gauge g hg; exact ⟨this.hi, this.lo, this.down, this.loss⟩, fun c hc => h.cmp c (List.mem_append.2 (.inl hc))⟩, h.cmp d aku⟩
 ·rintro ⟨h, hd⟩
  refine ⟨fun g hg => by have := h.gauge g hg; exact ⟨this.hi, this.lo, this.down, this.loss⟩, fun c hc => ?_⟩
  rcases List.mem_append.1 (show c ∈ b.2.2.2.2.1 ++ [d] from hc) with hc | hc
  ·exact h.cmp c hc
  ·rw [List.mem_singleton] at hc
   subst hc
   exact hd
structure Pred (b : acq) (c : Cmp) (s : Int × Int) : Prop where
 good : adk b
 good2 : adk (acl b (ab5 c))
 order : ayD b c ≤ ajl b c
 has : ∃ f z, aEK b f z
 ends : s.1 - ayD b c ≤ s.2 - ajl b c
 bd : -9007199254740992 ≤ s.1 - ayD b c ∧ s.2 - ajl b c ≤ 9007199254740992
 all : ∀ f z, aEK b f z → s.1 - ayD b c ≤ amm f z c ∧ amm f z c ≤ s.2 - ajl b c
 each : ∀ t, s.1 - ayD b c ≤ t → t ≤ s.2 - ajl b c → ∃ f z, aEK b f z ∧ amm f z c = t
theorem awJ (hp : (acz b c).2 = 0) : Pred b c (acz b c).1 := by
 obtain ⟨h, h'⟩ := ahy hp
 rw [aBW h h'] at hp ⊢
 by_cases ho : adC (acp b) ((acd b).length + 1) = true
 ·rw [if_pos ho] at hp ⊢
  obtain ⟨h1, h2⟩ := aKl hp
  rw [h2]
  have e1 : ayD b (ab5 c) = ayD b c := rfl
  have e2 : ajl b (ab5 c) = ajl b c := rfl
  rw [e1, e2] at *
  have s1 : dLo b (ab5 c) + ayD b c - ayD b c = dLo b (ab5 c) := by omega
  have s2 : dHi b (ab5 c) + ajl b c - ajl b c = dHi b (ab5 c) := by omega
  refine ⟨h, h', h1, (azp h).1 ho, ?_, ?_, fun f z hh => ?_, fun t t1 t2 => ?_⟩
  ·simp only
   rw [s1, s2]
   exact aTz h h' ho
  ·simp only
   rw [s1, s2]
   rw [← aiL h h'] at ho
   have a1 := aMT (afY h') (af9 h') ho (apB h') (apA h')
   have a2 := aMT (afY h') (af9 h') ho (apA h') (apB h')
   unfold dLo dHi
   omega
  ·simp only
   rw [s1, s2]
   exact d_max (c := ab5 c) h h' hh
  ·simp only at t1 t2
   rw [s1] at t1
   rw [s2] at t2
   exact d_all (c := ab5 c) h h' ho t1 t2
 ·rw [if_neg ho] at hp
  simp at hp
end
end Go.Proofs.ZzM
end
noncomputable section
namespace Go.Proofs.ZzM
open Go Go.Am
theorem aEQ {b : acq} (h : adk b) : (aeG b).length = (acp b).length := by
 have g0 : ∀ i, ((b.2.1.take i).mapIdx (adw b)).flatten.length = ((b.2.1.take i).flatMap (ac2 b)).length := by
  intro i
  induction i with
  | zero => simp
  | succ i ih =>
    rcases Nat.lt_or_ge i b.2.1.length with hi | hi
    ·have hg : b.2.1[i]? = some b.2.1[i] := List.getElem?_eq_getElem hi
     rw [ahP _ hg, take_succ hg, List.flatMap_append, List.flatten_append, List.length_append, List.length_append, ih]
     congr 1
     unfold adw ac2
     simp only [List.flatMap_cons, List.flatMap_nil, List.append_nil, List.flatten_cons, List.flatten_nil, List.length_append]
     rw [agH _ _ (fun _ => rfl), agH _ _ (fun _ => rfl)]
     rfl
    ·rw [List.take_of_length_le (by omega)] at ih ⊢
     exact ih
 have c0 := aOk (b := b) b.2.2.2.2.1.length (Nat.le_refl _)
 have g1 := g0 b.2.1.length
 rw [List.take_length] at c0 g1
 unfold aeG acp
 rw [List.length_append, List.length_append, g1, c0.1, c0.2]
theorem aJs {b : acq} : ∀ s ∈ (b.2.1.mapIdx (adw b)).flatten, (s.1 = 1 ∨ s.1 = 2) ∧ 0 ≤ s.2 ∧ s.2 < b.2.1.length := by
 intro s hs
 obtain ⟨l, hl, hm⟩ := List.mem_flatten.1 hs
 obtain ⟨i, hi, rfl⟩ := List.mem_iff_getElem.1 hl
 rw [List.length_mapIdx] at hi
 rw [List.getElem_mapIdx] at hm
 unfold adw at hm
 rcases List.mem_append.1 hm with h | h
 ·simp at h; subst h; exact ⟨.inl rfl, by dsimp only; omega, by dsimp only; omega⟩
 ·obtain ⟨_, _, h⟩ := List.mem_flatMap.1 h
  simp at h; subst h; exact ⟨.inr rfl, by dsimp only; omega, by dsimp only; omega⟩
theorem aJJ {l : List Cmp} : ∀ s ∈ (l.mapIdx fun i (_ : Cmp) => [((3 : Int), (i : Int)), ((3 : Int), (i : Int))]).flatten, s.1 = 3 ∧ 0 ≤ s.2 ∧ s.2 < l.length := by
 intro s hs
 obtain ⟨m, hl, hm⟩ := List.mem_flatten.1 hs
 obtain ⟨i, hi, rfl⟩ := List.mem_iff_getElem.1 hl
 rw [List.length_mapIdx] at hi
 rw [List.getElem_mapIdx] at hm
 simp at hm; subst hm
 exact ⟨rfl, by dsimp only; omega, by dsimp only; omega⟩
theorem aRz (b : acq) (c : Cmp) : ∃ S : List (Int × Int), aeG (acl b c) = S ++ [(3, (b.2.2.2.2.1.length : Int)), (3, (b.2.2.2.2.1.length : Int))] ∧ ∀ s ∈ S, ¬ (s.1 = 3 ∧ s.2 = (b.2.2.2.2.1.length : Int)) := by
 refine ⟨((acl b c).2.1.mapIdx (adw (acl b c))).flatten ++ (b.2.2.2.2.1.mapIdx fun i (_ : Cmp) => [((3 : Int), (i : Int)), ((3 : Int), (i : Int))]).flatten, ?_, fun s hs => ?_⟩
 ·unfold aeG
  rw [show (acl b c).2.2.2.2.1 = b.2.2.2.2.1 ++ [c] from rfl, List.mapIdx_append, List.flatten_append, List.append_assoc]
  simp
 ·rcases List.mem_append.1 hs with h | h
  ·have := aJs s h; omega
  ·have := aJJ s h; omega
theorem av9 (b : acq) (c : Cmp) (h : adk (acl b c)) : acp (acl b c) = acE (acl b c) ++ [(cy (acl b c) c, cx (acl b c) c, (adY (acl b c) c).2), (cx (acl b c) c, cy (acl b c) c, -(adY (acl b c) c).1)] := by
 rw [aA5]
 unfold acp
 rw [show (acl b c).2.2.2.2.1 = b.2.2.2.2.1 ++ [c] from rfl, List.flatMap_append, List.append_assoc]
 simp [acQ]
def aRO (b : acq) (c : Cmp) (s t : Int) : Int := dst (acE (acl b c)) ((acd (acl b c)).length + 1) s t
abbrev End : Type := Int × Int × Int
abbrev alx : Type := (Int × Int) × End × End
def aTu (b : acq) (c : Cmp) (s t : Int) : End :=
 (aRO b c s t, aRO b c s (cy (acl b c) c) + (adY b c).2 + aRO b c (cx (acl b c) c) t, aRO b c s (cx (acl b c) c) - (adY b c).1 + aRO b c (cy (acl b c) c) t)
def worth0 : alx := ((0, 0), (0, 0, 0), (0, 0, 0))
def aeI (b : acq) (n : Int × Int) (c : Cmp) : alx :=
 ((acz b c).1, aTu b (ab5 c) 0 (amr (acl b (ab5 c)) n.1 n.2), aTu b (ab5 c) (amr (acl b (ab5 c)) n.1 n.2) 0)
def aGJ (b : acq) (n : Int × Int) (c : Cmp) : alx × Int := if (acz b c).2 ≠ 0 then (worth0, (acz b c).2) else (aeI b n c, 0)
theorem aok {b : acq} {c : Cmp} (h : (acz b c).2 = 0) : adC (acp b) ((acd b).length + 1) = true := by
 obtain ⟨g1, g2⟩ := ahy h
 rw [aBW g1 g2] at h
 by_cases ho : adC (acp b) ((acd b).length + 1) = true
 ·exact ho
 ·rw [if_neg ho] at h; cases h
section
variable {b : acq} {c : Cmp} (h : adk b) (h' : adk (acl b c)) (ho : adC (acp b) ((acd b).length + 1) = true)
include h h' ho
theorem alp {s t : Int} (hs : 0 ≤ s ∧ s < ((acd (acl b c)).length + 1 : Nat)) (ht : 0 ≤ t ∧ t < ((acd (acl b c)).length + 1 : Nat)) : -9007199254740992 ≤ aRO b c s t ∧ aRO b c s t ≤ 9007199254740992 :=
 aMT (afY h') (af9 h') (by rw [aiL h h']; exact ho) hs ht
theorem ama (B : acq) {s t : Int} (hs : 0 ≤ s ∧ s < ((acd (acl b c)).length + 1 : Nat)) (ht : 0 ≤ t ∧ t < ((acd (acl b c)).length + 1 : Nat)) : acX (B, (((acd (acl b c)).length : Int) + 1, acE (acl b c))) t s = some (aRO b c s t) := by
 rw [show (((acd (acl b c)).length : Int) + 1) = (((acd (acl b c)).length + 1 : Nat) : Int) by push_cast; rfl, aJY (afY h') ht hs, aqj (afY h') (af9 h') hs ht, if_pos (by rw [aiL h h']; exact ho)]
 rfl
theorem aOS : (-4503599627370496 ≤ (adY b c).1 ∧ (adY b c).1 ≤ 4503599627370496) ∧ (-4503599627370496 ≤ (adY b c).2 ∧ (adY b c).2 ≤ 4503599627370496) := by
 have hs := h'.sys
 have e := av9 b c h'
 have m1 := hs.most (cy (acl b c) c, cx (acl b c) c, (adY (acl b c) c).2) (by rw [e]; simp)
 have m2 := hs.most (cx (acl b c) c, cy (acl b c) c, -(adY (acl b c) c).1) (by rw [e]; simp)
 have e2 : adY (acl b c) c = adY b c := rfl
 rw [e2] at m1 m2
 dsimp only at m1 m2
 omega
theorem aMQ (B : acq) {s t : Int} (hs : 0 ≤ s ∧ s < ((acd (acl b c)).length + 1 : Nat)) (ht : 0 ≤ t ∧ t < ((acd (acl b c)).length + 1 : Nat)) :
 aiN t s (B, (((acd (acl b c)).length : Int) + 1, acE (acl b c))) (cy (acl b c) c) (adY b c) (cx (acl b c) c) = some (aTu b c s t) := by
 have hx := apB h'
 have hy := apA h'
 have b1 := alp h h' ho hs ht
 have b2 := alp h h' ho hs hy
 have b3 := alp h h' ho hx ht
 have b4 := alp h h' ho hs hx
 have b5 := alp h h' ho hy ht
 have b6 := aOS h h' ho
 unfold aiN aoG
 rw [ama h h' ho B hs ht, ab1, ama h h' ho B hs hy, ab1, acs (by omega) (by omega), ama h h' ho B hx ht, ab1, acs (by omega) (by omega), ama h h' ho B hs hx, ab1, acs (by omega) (by omega), ama h h' ho B hy ht, ab1, acs (by omega) (by omega)]
 rfl
end
theorem aHN {B : acq} (h : adk B) (hn : ∀ g ∈ B.2.1, I64 g.2.2.2.2.1.1) (s : Sys) (l : List Int) (c : Cmp) : aiO l (B, s) c = some (atP (acd B) l c.2.1) := by
 unfold aiO aoH
 cases l with
 | nil => rw [acL]; rfl
 | cons x t =>
   rw [acL, ack (beq_eq_false_iff_ne.2 (by simp; omega)), show (0 : Int) = ((0 : Nat) : Int) from rfl, acg (show (x :: t)[0]? = some x from rfl), aBQ h hn, ab1]
   rfl
theorem aPZ {ρ : Type} {b : acq} {c : Cmp} (h : adk (acl b c)) (K : List Lk → Option ρ) :
 acj (fun (v17 : Val acf) kk20 => ahl (b.2.2.2.2.1.length : Int) (aeG (acl b c)) (acp (acl b c)) (acx (acp (acl b c))) v17.1 v17.2 (fun u18 u19 => kk20 (u18, u19)) K) ((0 : Int), []) = K (acE (acl b c)) := by
 have hl3 := h.sys.len
 have hsl := aEQ h
 obtain ⟨S, hS, hSk⟩ := aRz b c
 have hL := av9 b c h
 have hSl : S.length = (acE (acl b c)).length := by
  rw [hS, hL, List.length_append, List.length_append] at hsl
  simpa using hsl
 generalize acE (acl b c) = H at hL hSl ⊢
 rw [hS]
 generalize acp (acl b c) = L at hL hsl hl3 ⊢
 have hLl : L.length = H.length + 2 := by rw [hL]; simp
 refine ada L (fun i => (L.take i).take H.length) _ (by simp) (fun i l hi hl kn => ?_) (fun kn => ?_)
 ·try dsimp only
  unfold ahl
  rw [acm hi, acg hl]
  rcases Nat.lt_or_ge i H.length with h1 | h1
  ·have hs : (S ++ [((3 : Int), (b.2.2.2.2.1.length : Int)), (3, (b.2.2.2.2.1.length : Int))])[i]? = some S[i] := by
    rw [List.getElem?_append_left (by omega), List.getElem?_eq_getElem]
   have hk := hSk S[i] (List.getElem_mem _)
   have e : ((aeH (S[i]).1 (3 : Int)) && ((aeH (S[i]).2 (b.2.2.2.2.1.length : Int)) && true)) = false := by
    simp [aeH]; omega
   have e1 : (L.take i).take H.length = L.take i := List.take_of_length_le (by rw [List.length_take]; omega)
   have e2 : (L.take (i + 1)).take H.length = L.take (i + 1) := List.take_of_length_le (by rw [List.length_take]; omega)
   rw [acg hs, e, acv (by rfl), e1, e2, adI (acn (by rw [List.length_take]; simp; omega)), aci hi (by omega), take_succ hl]
  ·have hs : (S ++ [((3 : Int), (b.2.2.2.2.1.length : Int)), (3, (b.2.2.2.2.1.length : Int))])[i]? = some ((3 : Int), (b.2.2.2.2.1.length : Int)) := by
    rw [List.getElem?_append_right (by omega)]
    have : i - S.length = 0 ∨ i - S.length = 1 := by omega
    rcases this with e | e <;> rw [e] <;> rfl
   have e : ((aeH (3 : Int) (3 : Int)) && ((aeH (b.2.2.2.2.1.length : Int) (b.2.2.2.2.1.length : Int)) && true)) = true := by simp [aeH]
   have e1 : (L.take i).take H.length = (L.take (i + 1)).take H.length := by
    rw [List.take_take, List.take_take]
    congr 1
    omega
   rw [acg hs]
   dsimp only
   rw [e, ack (by rfl), aci hi (by omega), e1]
 ·try dsimp only
  unfold ahl
  rw [acJ, List.take_length, hL]
  simp
theorem aJi {B : acq} (hr : aQQ B) (n : Int × Int) {c : Cmp} (hA : c.2.2.1.length ≤ 1000) (hB : c.2.2.2.1.length ≤ 1000) : ame (B, aDv B) n c = some (aGJ B n c) := by
 unfold ame avp aGJ
 have hs := hr.good.size
 rw [show (B, aDv B).1 = B from rfl, aEI hs hr.num hA hB, ab1]
 by_cases hp : (acz B c).2 = 0
 ·obtain ⟨g1, g2⟩ := ahy hp
  have ho := aok hp
  have e1 : aly B (ab5 c) = (acl B (ab5 c), 0) := by
   unfold aly
   rw [if_neg (by simp [(aco B).2 g1]), if_neg (by simp [(aco _).2 g2])]
  have hn2 : ∀ g ∈ (acl B (ab5 c)).2.1, I64 g.2.2.2.2.1.1 := hr.num
  have hC := g2.nC
  have hw : (((acl B (ab5 c)).2.2.2.2.1.length : Int) - 1) = (B.2.2.2.2.1.length : Int) := by simp [acl]
  have hSays : aSq (acl B (ab5 c)) (B.2.2.2.2.1.length : Int) = (adY B (ab5 c), 0) := by
   have e : alz (acl B (ab5 c)) (B.2.2.2.2.1.length : Int) = (ab5 c, 0) := by
    unfold alz
    rw [if_neg (by simp [(aco _).2 g2]), if_neg (by simp [acl]; omega)]
    simp [acl]
   unfold aSq
   rw [e, if_neg (by simp)]
   rfl
  have hCancel : aBZ c.2.2.1 c.2.2.2.1 = (ac6 c.2.2.1 c.2.2.2.1, ac6 c.2.2.2.1 c.2.2.1, 0) := by
   have hnu := (ahd _).1 (g2.nums (aku (c := ab5 c)))
   have h6 : aje c.2.2.1 = true ∧ aje c.2.2.2.1 = true := ⟨hnu.2.2.2.2.2.1, hnu.2.2.2.2.2.2⟩
   unfold aBZ
   rw [h6.1, h6.2]
   rfl
  rw [ack (by rw [hp]; rfl), if_neg (by simp [hp]), show aio B (c.1, c.2.1, c.2.2.1, c.2.2.2.1, (0 : Int), c.2.2.2.2.2) = aio B (ab5 c) from rfl, aLN hs hr.num (c := ab5 c) hA hB, ab1, e1]
  dsimp only
  rw [ack (by rfl), acL, hw, acs (by omega) (by omega), aTN (g2.inn hn2), ab1, hSays, aJ8 (by omega) (by omega), ab1, hCancel, akh (g2.inn hn2), ab1, age g2]
  dsimp only
  refine (aPZ g2 _).trans ?_
  have ex : cx (acl B (ab5 c)) (ab5 c) = atP (acd (acl B (ab5 c))) (ac6 c.2.2.1 c.2.2.2.1) c.2.1 := rfl
  have ey : cy (acl B (ab5 c)) (ab5 c) = atP (acd (acl B (ab5 c))) (ac6 c.2.2.2.1 c.2.2.1) c.2.1 := rfl
  rw [aHN g2 hn2, ab1, aHN g2 hn2, ab1, aBQ g2 hn2, ab1, ← ex, ← ey, aMQ g1 g2 ho _ (adS _) (adP _ n), ab1, aMQ g1 g2 ho _ (adP _ n) (adS _), ab1]
  rfl
 ·rw [acv (bne_iff_ne.2 hp), if_pos hp]
  rfl
end Go.Proofs.ZzM
end
noncomputable section
namespace Go.Proofs.ZzM
open Go Go.Am
theorem aOU {α : Type} [DecidableEq α] {l m : List α} (hl : l.length = m.length) (h : aeN (fun i a => if m[i]? = some a then none else some false) 0 l = none) : l = m := by
 have := ah7.1 h
 refine List.ext_getElem hl fun i h1 h2 => ?_
 have h3 := this i l[i] (List.getElem?_eq_getElem h1)
 rw [Nat.zero_add] at h3
 split at h3
 ·rename_i h4
  rw [List.getElem?_eq_getElem h2] at h4
  exact (Option.some.inj h4).symm
 ·cases h3
theorem aOT {α : Type} [DecidableEq α] {l m : List α} {b : Bool} (h : aeN (fun i a => if m[i]? = some a then none else some false) 0 l = some b) : b = false ∧ l ≠ m := by
 constructor
 ·have : ∀ (k : Nat) (x : List α) (b : Bool), aeN (fun i a => if m[i]? = some a then none else some false) k x = some b → b = false := by
   intro k x
   induction x generalizing k with
   | nil => intro b h; cases h
   | cons a t ih =>
     intro b h
     unfold aeN at h
     split at h
     ·rename_i c hc
      split at hc
      ·cases hc
      ·cases hc; cases h; rfl
     ·exact ih _ _ h
  exact this _ _ _ h
 ·intro e
  subst e
  rw [ah7.2 fun j a ha => by rw [Nat.zero_add, if_pos ha]] at h
  cases h
end Go.Proofs.ZzM
end
noncomputable section
namespace Go.Proofs.ZzM
open Go Go.Am
theorem aOm {b : acq} {c : Cmp} (h : (aly b c).2 = 0) : adk b ∧ adk (acl b c) ∧ aly b c = (acl b c, 0) := by
 unfold aly at h ⊢
 by_cases hb : acy b = 0
 ·rw [if_neg (by simp [hb])] at h ⊢
  by_cases hm : acy (acl b c) = 0
  ·rw [if_neg (by simp [hm])]
   exact ⟨(aco b).1 hb, (aco _).1 hm, rfl⟩
  ·rw [if_pos hm] at h; exact absurd h hm
 ·rw [if_pos hb] at h; exact absurd h hb
end Go.Proofs.ZzM
end
noncomputable section
namespace Go.Proofs.ZzM
open Go Go.Am
section
variable {b : acq} {c d : Cmp} {s : Int × Int}
theorem aO1 (h : Pred b c s) (hd : ab5 d = ab5 c) (h' : adk (acl b d)) : adC (acp (acl b d)) ((acd (acl b d)).length + 1) = true ↔ s.1 ≤ d.2.2.2.2.1 ∧ d.2.2.2.2.1 ≤ s.2 := by
 have e1 : ayD b d = ayD b c := show ayD b (ab5 d) = ayD b (ab5 c) by rw [hd]
 have e2 : ajl b d = ajl b c := show ajl b (ab5 d) = ajl b (ab5 c) by rw [hd]
 have e3 : ∀ f z, amm f z d = amm f z c := fun f z => show amm f z (ab5 d) = amm f z (ab5 c) by rw [hd]
 obtain ⟨l1, l2⟩ := aEU b d
 rw [e2] at l1
 rw [e1] at l2
 rw [azp h']
 constructor
 ·rintro ⟨f, z, hf⟩
  obtain ⟨h1, h2⟩ := auC.1 hf
  have a := h.all f z h1
  rw [e3] at h2
  omega
 ·rintro ⟨h1, h2⟩
  have o := h.order
  have n := h.ends
  obtain ⟨f, z, hf, ht⟩ := h.each (max (s.1 - ayD b c) (d.2.2.2.2.1 - ajl b c)) (by omega) (by omega)
  refine ⟨f, z, auC.2 ⟨hf, ?_⟩⟩
  rw [e3]
  omega
theorem aS4 (h : Pred b c s) : -10000000000000000 ≤ s.1 ∧ s.1 ≤ s.2 ∧ s.2 ≤ 10000000000000000 := by
 have q := h.good2.cmp (aku (c := ab5 c))
 obtain ⟨_, _, b1, b2, b3⟩ := awH (b := b) h.good.film (c := ab5 c) ⟨q.nums, q.r1, q.r2⟩
 have e1 : ayD b c = aBC (adQ b (ab5 c)).1 + (ag2 b (ab5 c)).1 - (ab5 c).2.2.2.2.2.1 := rfl
 have e2 : ajl b c = (adQ b (ab5 c)).2.1 / (adQ b (ab5 c)).2.2 + (ag2 b (ab5 c)).2 + (ab5 c).2.2.2.2.2.1 := rfl
 have o := h.order
 have n := h.ends
 have bd := h.bd
 omega
end
end Go.Proofs.ZzM
end
noncomputable section
namespace Go.Proofs.ZzM
open Go Go.Am
def acW (e : End) : List Int := [e.1 - e.2.1, e.2.2 - e.1, Int.tdiv (e.2.2 - e.2.1) 2, Int.tdiv (e.2.2 - e.2.1) 2 - 1, Int.tdiv (e.2.2 - e.2.1) 2 + 1]
def agX (e : End) (n : Int) : List Int := [n - e.2.1, e.2.2 - n]
def atE (e : End) (d : Int) : Int := min e.1 (min (e.2.1 + d) (e.2.2 - d))
def aeO (w : alx) (d : Int) : Int × Int := (-(atE w.2.2 d), atE w.2.1 d)
def aNY (r : Int × Int) (n : Int) : List Int := [n - 2, n - 1, n, n + 1, n + 2].filter fun d => decide (r.1 < d) && decide (d < r.2)
def amz (r : Int × Int) (l : List Int) : List Int := [r.1, r.2] ++ l.flatMap (aNY r)
def aHj (w : alx) (l : List Int) : Int := l.foldl (fun m d => max m ((aeO w d).2 - (aeO w d).1)) (-1)
def aDr (w : alx) : Int := aHj w (amz w.1 (acW w.2.1 ++ acW w.2.2))
def Sm (n : Int) : Prop := -100000000000000000 ≤ n ∧ n ≤ 100000000000000000
structure aHe (e : End) : Prop where
 s : Sm e.1
 u : Sm e.2.1
 d : Sm e.2.2
structure aHa (w : alx) : Prop where
 lo : Sm w.1.1
 hi : Sm w.1.2
 high : aHe w.2.1
 low : aHe w.2.2
theorem asu (n : Int) : -1 ≤ n - 2 * Int.tdiv n 2 ∧ n - 2 * Int.tdiv n 2 ≤ 1 := by
 have h1 := Int.tmod_add_mul_tdiv n 2
 have h2 := Int.tmod_two_eq n
 omega
theorem ayo {e : End} (h : aHe e) : afF e = some (acW e) := by
 obtain ⟨⟨a1, a2⟩, ⟨b1, b2⟩, c1, c2⟩ := h
 have h2 := asu (e.2.2 - e.2.1)
 unfold afF amJ
 rw [acs (by omega) (by omega), acs (by omega) (by omega), acs (by omega) (by omega), acs (by omega) (by omega), acs (by omega) (by omega), acs (by omega) (by omega)]
 rfl
theorem ayz {e : End} (h : aHe e) {n : Int} (hn : -1000000000000000000 ≤ n ∧ n ≤ 1000000000000000000) : afG e n = some (agX e n) := by
 obtain ⟨⟨a1, a2⟩, ⟨b1, b2⟩, c1, c2⟩ := h
 unfold afG amK
 rw [acs (by omega) (by omega), acs (by omega) (by omega)]
 rfl
theorem aSO {e : End} (h : aHe e) {d : Int} (hd : Sm d) : amf e d = some (atE e d) := by
 obtain ⟨⟨a1, a2⟩, ⟨b1, b2⟩, c1, c2⟩ := h
 obtain ⟨d1, d2⟩ := hd
 unfold amf avs
 rw [acs (by omega) (by omega), acs (by omega) (by omega), aA3, aA3]
 unfold atE
 congr 1
 omega
theorem aQM {e : End} (h : aHe e) {d : Int} (hd : Sm d) : -200000000000000000 ≤ atE e d ∧ atE e d ≤ 100000000000000000 := by
 obtain ⟨⟨a1, a2⟩, ⟨b1, b2⟩, c1, c2⟩ := h
 obtain ⟨d1, d2⟩ := hd
 unfold atE
 omega
theorem aOM {w : alx} (h : aHa w) {d : Int} (hd : Sm d) : adZ w d = some (aeO w d) := by
 unfold adZ ak6
 have b1 := aQM h.low hd
 rw [aSO h.low hd, ab1, acs (by omega) (by omega), aSO h.high hd, ab1]
 unfold aeO
 rw [Int.zero_sub]
theorem aRR (r : Int × Int) (n : Int) : (aNY r n).length ≤ 5 := List.length_filter_le _ _
theorem aBe (r : Int × Int) : ∀ l : List Int, (l.flatMap (aNY r)).length ≤ l.length * 5
 | [] => by simp
 | n :: l => by
   have h1 := aRR r n
   have h2 := aBe r l
   rw [List.flatMap_cons, List.length_append, List.length_cons]
   omega
theorem aTg {ρ : Type} (r : Int × Int) {n : Int} (hn : -4000000000000000000 ≤ n ∧ n ≤ 4000000000000000000) {out : List Int} (ho : out.length ≤ 1000) (K : List Int → Option ρ) :
 acj (fun (v9 : (Val (.pair tI (.slice tI)))) kk12 => afk n r.1 r.2 v9.1 v9.2 (fun u10 u11 => kk12 (u10, u11)) K) (n - 2, out) = K (out ++ aNY r n) := by
 let five : List Int := [n - 2, n - 1, n, n + 1, n + 2]
 have hg : ∀ (i : Nat), i < 5 → five[i]? = some (n - 2 + i) := by
  intro i hi
  have : i = 0 ∨ i = 1 ∨ i = 2 ∨ i = 3 ∨ i = 4 := by omega
  rcases this with rfl | rfl | rfl | rfl | rfl <;> simp only [five, List.getElem?_cons_zero, List.getElem?_cons_succ] <;> congr 1 <;> omega
 refine afE (fun v => ∃ i : Nat, i ≤ 5 ∧ v = (n - 2 + (i : Int), out ++ (five.take i).filter fun d => decide (r.1 < d) && decide (d < r.2))) (fun v => (n + 3 - v.1).toNat) ?_ ⟨0, by omega, by simp⟩
 rintro v ⟨i, hi, rfl⟩
 rcases Nat.lt_or_ge i 5 with h5 | h5
 ·refine .inr ⟨(n - 2 + ((i + 1 : Nat) : Int), out ++ (five.take (i + 1)).filter fun d => decide (r.1 < d) && decide (d < r.2)), ⟨i + 1, h5, rfl⟩, by dsimp only; omega, fun kn => ?_⟩
  have hl : ((five.take i).filter fun d => decide (r.1 < d) && decide (d < r.2)).length ≤ 5 := aj3 _ five i
  dsimp only
  unfold afk
  rw [acs (by omega) (by omega), acv (decide_eq_true (by omega)), take_succ (hg i h5), List.filter_append]
  have e0 : n - 2 + (i : Int) + 1 = n - 2 + ((i + 1 : Nat) : Int) := by push_cast; omega
  by_cases h1 : r.1 < n - 2 + (i : Int)
  ·rw [acv (show igt (n - 2 + (i : Int)) r.1 = true from decide_eq_true h1)]
   by_cases h2 : n - 2 + (i : Int) < r.2
   ·rw [acv (show ilt (n - 2 + (i : Int)) r.2 = true from decide_eq_true h2), adI (acn (by rw [List.length_append]; simp only [List.length_singleton]; omega)), acs (by omega) (by omega), e0]
    simp [h1, h2]
   ·rw [ack (show ilt (n - 2 + (i : Int)) r.2 = false from decide_eq_false h2), acs (by omega) (by omega), e0]
    simp [h1, h2]
  ·rw [ack (show igt (n - 2 + (i : Int)) r.1 = false from decide_eq_false h1), acs (by omega) (by omega), e0]
   simp [h1]
 ·refine .inl fun kn => ?_
  obtain rfl : i = 5 := by omega
  dsimp only
  unfold afk
  rw [acs (by omega) (by omega), ack (decide_eq_false (by omega))]
  rfl
theorem aPn (w : alx) {l : List Int} (hl : l.length ≤ 100) (hn : ∀ n ∈ l, -2000000000000000000 ≤ n ∧ n ≤ 2000000000000000000) : agz w l = some (amz w.1 l) := by
 unfold agz ak7
 refine ada l (fun i => [w.1.1, w.1.2] ++ (l.take i).flatMap (aNY w.1)) _ rfl (fun i n hi ha kn => ?_) (fun kn => ?_)
 ·try dsimp only
  unfold agk
  have hb := hn n (List.mem_of_getElem? ha)
  have h5 := aBe w.1 (l.take i)
  have ht : (l.take i).length ≤ 100 := by rw [List.length_take]; omega
  rw [acm hi, acg ha, acs (by omega) (by omega)]
  refine (aTg w.1 (by omega) (by rw [List.length_append]; simp only [List.length_cons, List.length_nil]; omega) _).trans ?_
  rw [aci hi (by omega), take_succ ha, List.flatMap_append, List.append_assoc]
  simp
 ·try dsimp only
  unfold agk
  rw [acJ, List.take_length]
  rfl
theorem aks {r : Int × Int} {l : List Int} {d : Int} : d ∈ amz r l ↔ d = r.1 ∨ d = r.2 ∨ (r.1 < d ∧ d < r.2 ∧ ∃ n ∈ l, n - 2 ≤ d ∧ d ≤ n + 2) := by
 unfold amz aNY
 simp only [List.mem_append, List.mem_cons, List.not_mem_nil, or_false, List.mem_flatMap, List.mem_filter, Bool.and_eq_true, decide_eq_true_eq]
 constructor
 ·rintro ((h | h) | ⟨n, hn, h, h1, h2⟩)
  ·exact .inl h
  ·exact .inr (.inl h)
  ·exact .inr (.inr ⟨h1, h2, n, hn, by omega, by omega⟩)
 ·rintro (h | h | ⟨h1, h2, n, hn, h3, h4⟩)
  ·exact .inl (.inl h)
  ·exact .inl (.inr h)
  ·exact .inr ⟨n, hn, by omega, h1, h2⟩
theorem aMs (r : Int × Int) {l : List Int} (hl : l.length ≤ 100) : (amz r l).length ≤ 600 := by
 have := aBe r l
 unfold amz
 rw [List.length_append]
 simp only [List.length_cons, List.length_nil]
 omega
theorem aPm {w : alx} (h : aHa w) {l : List Int} : ∀ d ∈ amz w.1 l, Sm d := by
 intro d hd
 obtain ⟨a1, a2⟩ := h.lo
 obtain ⟨b1, b2⟩ := h.hi
 rcases aks.1 hd with h | h | ⟨h1, h2, _⟩
 ·rw [h]; exact ⟨a1, a2⟩
 ·rw [h]; exact ⟨b1, b2⟩
 ·exact ⟨by omega, by omega⟩
theorem ayp {e : End} (h : aHe e) : ∀ n ∈ acW e, -1000000000000000000 ≤ n ∧ n ≤ 1000000000000000000 := by
 obtain ⟨⟨a1, a2⟩, ⟨b1, b2⟩, c1, c2⟩ := h
 have h2 := asu (e.2.2 - e.2.1)
 intro n hn
 unfold acW at hn
 simp only [List.mem_cons, List.not_mem_nil, or_false] at hn
 omega
theorem aQ4 {w : alx} (h : aHa w) : ahs w = some (aDr w) := by
 unfold ahs ajP
 have hl : ([acW w.2.1, acW w.2.2] : List (List Int)).flatten = acW w.2.1 ++ acW w.2.2 := by simp
 have hll : (acW w.2.1 ++ acW w.2.2).length = 10 := rfl
 rw [ayo h.high, ab1, ayo h.low, ab1, ajG (by simp) (by rw [hl, hll]; omega), ab1, hl, aPn w (by rw [hll]; omega) (fun n hn => by
  rcases List.mem_append.1 hn with hn | hn
  ·have := ayp h.high n hn; omega
  ·have := ayp h.low n hn; omega), ab1]
 have hnl := aMs w.1 (l := acW w.2.1 ++ acW w.2.2) (by rw [hll]; omega)
 have hsm := aPm h (l := acW w.2.1 ++ acW w.2.2)
 unfold aDr
 generalize amz w.1 (acW w.2.1 ++ acW w.2.2) = l at hnl hsm ⊢
 refine afE (fun v => ∃ i : Nat, i ≤ l.length ∧ v = (aHj w (l.take i), (i : Int))) (fun v => l.length - v.2.toNat) ?_ ⟨0, by omega, rfl⟩
 rintro v ⟨i, hi, rfl⟩
 rcases Nat.lt_or_ge i l.length with h2 | h2
 ·have ha : l[i]? = some l[i] := List.getElem?_eq_getElem h2
  have hs := hsm l[i] (List.getElem_mem _)
  generalize l[i] = d at ha hs
  refine .inr ⟨(aHj w (l.take (i + 1)), ((i + 1 : Nat) : Int)), ⟨i + 1, h2, rfl⟩, by dsimp only; omega, fun kn => ?_⟩
  dsimp only
  unfold afW
  have b1 := aQM h.low hs
  have b2 := aQM h.high hs
  rw [acm h2, acg ha, show adZ ((w.1.1, w.1.2), (w.2.1.1, w.2.1.2.1, w.2.1.2.2), w.2.2.1, w.2.2.2.1, w.2.2.2.2) d = adZ w d from rfl, aOM h hs, ab1, acs (by unfold aeO; dsimp only; omega) (by unfold aeO; dsimp only; omega), aci h2 (by omega), aLl, take_succ ha]
  unfold aHj
  rw [List.foldl_append]
  rfl
 ·refine .inl fun kn => ?_
  obtain rfl : i = l.length := by omega
  dsimp only
  unfold afW
  rw [acJ, List.take_length]
theorem aEL {b : acq} {n : Int × Int} {c : Cmp} (hp : (acz b c).2 = 0) : aHa (aeI b n c) := by
 obtain ⟨g1, g2⟩ := ahy hp
 have ho := aok hp
 have hb := aS4 (awJ hp)
 have hx := apB g2
 have hy := apA g2
 have b6 := aOS g1 g2 ho
 have key : ∀ {s t : Int}, 0 ≤ s ∧ s < ((acd (acl b (ab5 c))).length + 1 : Nat) → 0 ≤ t ∧ t < ((acd (acl b (ab5 c))).length + 1 : Nat) → aHe (aTu b (ab5 c) s t) := by
  intro s t hs ht
  have b1 := alp g1 g2 ho hs ht
  have b2 := alp g1 g2 ho hs hy
  have b3 := alp g1 g2 ho hx ht
  have b4 := alp g1 g2 ho hs hx
  have b5 := alp g1 g2 ho hy ht
  unfold aTu
  exact ⟨⟨by dsimp only; omega, by dsimp only; omega⟩, ⟨by dsimp only; omega, by dsimp only; omega⟩, by dsimp only; omega, by dsimp only; omega⟩
 exact ⟨⟨by show _ ≤ (acz b c).1.1; omega, by show (acz b c).1.1 ≤ _; omega⟩, ⟨by show _ ≤ (acz b c).1.2; omega, by show (acz b c).1.2 ≤ _; omega⟩, key (adS _) (adP _ n), key (adP _ n) (adS _)⟩
def aEF (b : acq) (n : Int × Int) (c : Cmp) : Int × Int :=
 if (adg b [n]).2 ≠ 0 then (0, (adg b [n]).2) else if (acz (adg b [n]).1 c).2 ≠ 0 then (0, (acz (adg b [n]).1 c).2) else (aDr (aeI (adg b [n]).1 n c), 0)
theorem aQ5 {ρ : Type} : @aoK ρ = @ac4 ρ := rfl
theorem aNa {b : acq} (hI : In b) (n : Int × Int) {c : Cmp} (hA : c.2.2.1.length ≤ 1000) (hB : c.2.2.2.1.length ≤ 1000) : amg b n c = some (aEF b n c) := by
 unfold amg azO aEF
 rw [aQ5]
 refine (amw hI (ns := [n]) (by simp) (fun e => some ((0 : Int), e)) (fun e he => by rw [adI (by simp [ine, he])]) (fun z he => by rw [adI (by simp [ine, he])]) (fun _ _ _ => rfl)).trans ?_
 split
 ·rfl
 ·rename_i e
  have hr := (agw hI (by simpa using e)).1
  dsimp only
  rw [apm, show ((((acd (adg b [n]).1).length : Int) + 1, acp (adg b [n]).1) : Sys) = aDv (adg b [n]).1 from rfl, aJi hr n hA hB, ab1]
  unfold aGJ
  by_cases hp : (acz (adg b [n]).1 c).2 = 0
  ·rw [if_neg (by simp [hp]), if_neg (by simp [hp]), ack (by rfl), aQ4 (aEL hp), ab1]
  ·rw [if_pos hp, if_pos hp, acv (bne_iff_ne.2 hp)]
def ayf (x : Int) : Int := max (-288230376151711744) (min x 288230376151711744)
def ak1 (w : alx) (l : Int × Int) : List Int := (acW w.2.1 ++ acW w.2.2) ++ (agX w.2.1 l.1 ++ agX w.2.2 (-l.1)) ++ (agX w.2.1 l.2 ++ agX w.2.2 (-l.2))
def ako (w : alx) (l : Int × Int) : Bool := (amz w.1 (ak1 w l)).all fun d => adu (aeO w d) l != 3
def aqi (b : acq) (n l : Int × Int) (c : Cmp) : Bool × Int :=
 if (adg b [n]).2 ≠ 0 then (false, (adg b [n]).2) else if l.2 < l.1 then (false, 1) else if (acz (adg b [n]).1 c).2 ≠ 0 then (false, (acz (adg b [n]).1 c).2) else (ako (aeI (adg b [n]).1 n c) (ayf l.1, ayf l.2), 0)
theorem aNn {ρ : Type} : @alb ρ = @ac4 ρ := rfl
theorem aSE (x : Int) : aht x = some (ayf x) := by
 unfold aht amN ayf
 rw [aA3, aLl]
theorem ayA {e : End} (h : aHe e) {n : Int} (hn : -300000000000000000 ≤ n ∧ n ≤ 300000000000000000) : ∀ m ∈ agX e n, -1000000000000000000 ≤ m ∧ m ≤ 1000000000000000000 := by
 obtain ⟨⟨a1, a2⟩, ⟨b1, b2⟩, c1, c2⟩ := h
 intro m hm
 unfold agX at hm
 simp only [List.mem_cons, List.not_mem_nil, or_false] at hm
 omega
theorem aEH {b : acq} (hI : In b) (n l : Int × Int) {c : Cmp} (hA : c.2.2.1.length ≤ 1000) (hB : c.2.2.2.1.length ≤ 1000) : ah9 b n l c = some (aqi b n l c) := by
 unfold ah9 arR aqi
 rw [aNn]
 refine (amw hI (ns := [n]) (by simp) (fun e => some (false, e)) (fun e he => by rw [acv (by simp [ine, he])]) (fun z he => by rw [acv (by simp [ine, he])]) (fun _ _ _ => rfl)).trans ?_
 split
 ·rfl
 ·rename_i e
  have hr := (agw hI (by simpa using e)).1
  dsimp only
  by_cases hl : l.2 < l.1
  ·rw [acv (by simp [igt, hl]), if_pos hl]
  ·rw [ack (by simp [igt]; omega), if_neg hl, apm, show ((((acd (adg b [n]).1).length : Int) + 1, acp (adg b [n]).1) : Sys) = aDv (adg b [n]).1 from rfl, aJi hr n hA hB, ab1]
   unfold aGJ
   by_cases hp : (acz (adg b [n]).1 c).2 = 0
   ·rw [if_neg (by simp [hp]), if_neg (by simp [hp]), ack (by rfl)]
    have hw := aEL (n := n) hp
    dsimp only
    generalize aeI (adg b [n]).1 n c = w at hw ⊢
    have f1 : -300000000000000000 ≤ ayf l.1 ∧ ayf l.1 ≤ 300000000000000000 := by unfold ayf; omega
    have f2 : -300000000000000000 ≤ ayf l.2 ∧ ayf l.2 ≤ 300000000000000000 := by unfold ayf; omega
    have q1 : ([acW w.2.1, acW w.2.2] : List (List Int)).flatten = acW w.2.1 ++ acW w.2.2 := by simp
    have q2 : ∀ x y z : List Int, ([x, y, z] : List (List Int)).flatten = x ++ (y ++ z) := by intro x y z; simp
    rw [ayo hw.high, ab1, ayo hw.low, ab1, ajG (by simp) (by rw [q1]; simp [acW]), ab1, q1, aSE, ab1, aSE, ab1]
    generalize ayf l.1 = l1 at f1 ⊢
    generalize ayf l.2 = l2 at f2 ⊢
    rw [ayz hw.high (by omega), ab1, acs (by omega) (by omega), Int.zero_sub, ayz hw.low (by omega), ab1, ajG (by simp) (by rw [q2]; simp [acW, agX]), ab1, q2,
     ayz hw.high (by omega), ab1, acs (by omega) (by omega), Int.zero_sub, ayz hw.low (by omega), ab1, ajG (by simp) (by rw [q2]; simp [acW, agX]), ab1, q2]
    have hll : (ak1 w (l1, l2)).length = 18 := rfl
    have qs : acW w.2.1 ++ acW w.2.2 ++ (agX w.2.1 l1 ++ agX w.2.2 (-l1)) ++ (agX w.2.1 l2 ++ agX w.2.2 (-l2)) = ak1 w (l1, l2) := rfl
    rw [qs, aPn w (by rw [hll]; omega) (fun m hm => by
     unfold ak1 at hm
     simp only [List.mem_append] at hm
     rcases hm with ((hm | hm) | (hm | hm)) | (hm | hm)
     ·have := ayp hw.high m hm; omega
     ·have := ayp hw.low m hm; omega
     ·have := ayA hw.high f1 m hm; omega
     ·have := ayA hw.low (n := -l1) (by omega) m hm; omega
     ·have := ayA hw.high f2 m hm; omega
     ·have := ayA hw.low (n := -l2) (by omega) m hm; omega), ab1]
    have hnl := aMs w.1 (l := ak1 w (l1, l2)) (by rw [hll]; omega)
    have hsm := aPm hw (l := ak1 w (l1, l2))
    unfold ako
    generalize amz w.1 (ak1 w (l1, l2)) = ds at hnl hsm ⊢
    refine (agG ds (fun d => adu (aeO w d) (l1, l2) == 3) (fun z30 => some ((!(ige z30 (0 : Int))), (0 : Int))) (some (false, 0)) (some (true, 0)) (fun j => by rw [show ige (j : Int) 0 = true from decide_eq_true (by omega)]; rfl) (fun i d hi hd kn => ?_) (fun kn => ?_)).trans ?_
    ·try dsimp only
     unfold aij
     rw [acm hi, acg hd, show adZ ((w.1.1, w.1.2), (w.2.1.1, w.2.1.2.1, w.2.1.2.2), w.2.2.1, w.2.2.2.1, w.2.2.2.2) d = adZ w d from rfl, aOM hw (hsm d (List.mem_of_getElem? hd)), ab1, aDs, ab1, aci hi (by omega), adJ]
    ·try dsimp only
     unfold aij
     rw [acJ]
    ·rw [show (fun d => adu (aeO w d) (l1, l2) != 3) = (fun d => !(adu (aeO w d) (l1, l2) == 3)) from rfl, ← List.not_any_eq_all_not]
     cases ds.any fun d => adu (aeO w d) (l1, l2) == 3 <;> rfl
   ·rw [if_pos hp, if_pos hp, acv (bne_iff_ne.2 hp)]
end Go.Proofs.ZzM
end
noncomputable section
namespace Go.Proofs.ZzM
open Go Go.Am
def aki (b : acq) (n : Int × Int) : Prop := ∃ g ∈ b.2.1, g.1 = n.1 ∧ n.2 ∈ acu b g
theorem aMC {b : acq} (h : adk b) {n : Int × Int} : amr b n.1 n.2 ≠ 0 ↔ aki b n := by
 unfold amr
 constructor
 ·intro hne
  cases hx : ags (acd b) n.1 n.2 with
  | none => rw [hx] at hne; simp at hne
  | some j =>
    have hm := List.mem_of_getElem? (agW hx).2
    unfold acd at hm
    obtain ⟨g, hg, hd⟩ := List.mem_flatMap.1 hm
    obtain ⟨d, hd, e⟩ := List.mem_map.1 hd
    simp only [Prod.mk.injEq] at e
    obtain ⟨e1, rfl⟩ := e
    exact ⟨g, hg, e1, hd⟩
 ·rintro ⟨g, hg, e, hd⟩
  obtain ⟨i, hi, rfl⟩ := List.mem_iff_getElem.1 hg
  obtain ⟨k, hk, e2⟩ := List.mem_iff_getElem.1 hd
  rw [← e, aFd h (List.getElem?_eq_getElem hi) (by rw [List.getElem?_eq_getElem hk, e2])]
  dsimp only
  omega
theorem aJq (b : acq) (x d : Int) : amr b x d = aey b x d := rfl
theorem aQf (b : acq) (n : Int × Int) (g : acO) {d : Int} (hd : d ∈ acu b g) : d ∈ acu (ag8 b n) g := by
 unfold acu at hd ⊢
 rw [apQ] at hd ⊢
 unfold aDj ag8 at *
 simp only [List.mem_append, List.mem_map, List.mem_filter] at hd ⊢
 rcases hd with (h | h) | ⟨m, ⟨h1, h2⟩, h3⟩
 ·exact .inl (.inl h)
 ·exact .inl (.inr h)
 ·exact .inr ⟨m, ⟨.inl h1, h2⟩, h3⟩
theorem aPC {b : acq} (n : Int × Int) (h' : adk (ag8 b n)) : aki (ag8 b n) n := by
 have hu := h'.looks n (by simp [ag8])
 unfold aQ9 at hu
 split at hu
 ·omega
 obtain ⟨g, hg, _⟩ := avh h' hu
 obtain ⟨hm, e⟩ := akX hg
 refine ⟨g, hm, e, ?_⟩
 unfold acu
 rw [apQ]
 unfold aDj ag8
 simp only [List.mem_append, List.mem_map, List.mem_filter]
 exact .inr ⟨n, ⟨.inr (by simp), by simp [e]⟩, rfl⟩
theorem ayX {b : acq} {n : Int × Int} (e : (afQ b n).2 = 0) : (afQ b n = (b, 0) ∧ amr b n.1 n.2 ≠ 0) ∨ (afQ b n = (ag8 b n, 0) ∧ adk (ag8 b n) ∧ amr b n.1 n.2 = 0) := by
 unfold afQ at e ⊢
 split
 ·rename_i h; exact .inl ⟨rfl, h⟩
 ·rename_i h1
  rw [if_neg h1] at e
  split
  ·rename_i h2; rw [if_pos h2] at e; exact absurd e h2
  ·rename_i h2; exact .inr ⟨rfl, (aco _).1 (by simpa using h2), by simpa using h1⟩
theorem aHF : ∀ {ns : List (Int × Int)} {b : acq}, (aeu b ns).2 = 0 → ∀ n, aki b n → aki (aeu b ns).1 n
 | [], b, _, n, hn => hn
 | m :: t, b, e, n, hn => by
   unfold aeu at e ⊢
   split
   ·rename_i h1; rw [if_pos h1] at e; exact absurd e h1
   ·rename_i h1
    rw [if_neg h1] at e
    refine aHF e n ?_
    rcases ayX (by simpa using h1) with ⟨h, _⟩ | ⟨h, _, _⟩
    ·rw [h]; exact hn
    ·rw [h]
     obtain ⟨g, hg, e1, hd⟩ := hn
     exact ⟨g, hg, e1, aQf b m g hd⟩
theorem aHE : ∀ {ns : List (Int × Int)} {b : acq}, adk b → (aeu b ns).2 = 0 → ∀ n ∈ ns, aki (aeu b ns).1 n
 | [], b, _, _, n, hn => by simp at hn
 | m :: t, b, hg, e, n, hn => by
   unfold aeu at e ⊢
   split
   ·rename_i h1; rw [if_pos h1] at e; exact absurd e h1
   ·rename_i h1
    rw [if_neg h1] at e
    have h1' : (afQ b m).2 = 0 := by simpa using h1
    rcases List.mem_cons.1 hn with rfl | hn
    ·refine aHF e n ?_
     rcases ayX h1' with ⟨h, h2⟩ | ⟨h, h2, _⟩
     ·rw [h]; exact (aMC hg).1 h2
     ·rw [h]; exact aPC n h2
    ·exact aHE (ayV hg h1') e n hn
theorem aPD {b : acq} {n : Int × Int} {f : Int → Int → Int} {z : Int} : aEK (ag8 b n) f z ↔ aEK b f z :=
 ⟨fun h => ⟨fun g hg => by have := h.gauge g hg; exact ⟨this.hi, this.lo, this.down, this.loss⟩, h.cmp⟩, fun h => ⟨fun g hg => by have := h.gauge g hg; exact ⟨this.hi, this.lo, this.down, this.loss⟩, h.cmp⟩⟩
theorem aHG : ∀ {ns : List (Int × Int)} {b : acq}, (aeu b ns).2 = 0 → ∀ {f : Int → Int → Int} {z : Int}, aEK (aeu b ns).1 f z ↔ aEK b f z
 | [], b, _, f, z => Iff.rfl
 | m :: t, b, e, f, z => by
   unfold aeu at e ⊢
   split
   ·rename_i h1; rw [if_pos h1] at e; exact absurd e h1
   ·rename_i h1
    rw [if_neg h1] at e
    rw [aHG e]
    rcases ayX (by simpa using h1) with ⟨h, _⟩ | ⟨h, _, _⟩
    ·rw [h]
    ·rw [h]; exact aPD
section
variable {B : acq} (h : aQQ B)
include h
theorem aRv {p : Int → Int} {f : Int → Int → Int} (hm : ∀ g ∈ B.2.1, ∀ d ∈ acu B g, f g.1 d = p (aey B g.1 d)) {n : Int × Int} (hn : aki B n) : p (amr B n.1 n.2) = f n.1 n.2 := by
 obtain ⟨g, hg, e, hd⟩ := hn
 rw [aJq, ← e, hm g hg n.2 hd]
theorem aRn (f : Int → Int → Int) (z : Int) {n : Int × Int} (hn : aki B n) : aB7 B f z (amr B n.1 n.2) = f n.1 n.2 := by
 obtain ⟨g, hg, e, hd⟩ := hn
 rw [aJq, ← e, aoj h.good f z hg hd]
theorem iv_in {n : Int × Int} (hn : aki B n) {f : Int → Int → Int} {z : Int} (hh : aEK B f z) : (ivR B n).1 ≤ f n.1 n.2 - z ∧ f n.1 n.2 - z ≤ (ivR B n).2 := by
 have hp := aMD h.good hh
 have a1 := awo h.good.sys h.good.tied h.op (adP B n) (adS B) hp
 have a2 := awo h.good.sys h.good.tied h.op (adS B) (adP B n) hp
 rw [aRn h f z hn, air] at a1 a2
 unfold ivR aOs
 dsimp only
 omega
theorem iv_at {n : Int × Int} (hn : aki B n) {t : Int} (h1 : (ivR B n).1 ≤ t) (h2 : t ≤ (ivR B n).2) : ∃ f z, aEK B f z ∧ f n.1 n.2 - z = t := by
 obtain ⟨p, hp, e⟩ := aQc h.good.sys h.good.tied h.op (adP B n) (adS B) (t := t) h1 h2
 obtain ⟨f, hf, hm⟩ := aMg h.good hp
 exact ⟨f, p 0, hf, by rw [← aRv h hm hn]; exact e⟩
theorem aRI (n : Int × Int) : (ivR B n).1 ≤ (ivR B n).2 := aBq h.good.sys h.good.tied h.op (adP B n) (adS B)
theorem iv_bd (n : Int × Int) : -9007199254740992 ≤ (ivR B n).1 ∧ (ivR B n).2 ≤ 9007199254740992 := by
 have a1 := apx h (adP B n) (adS B)
 have a2 := apx h (adS B) (adP B n)
 unfold ivR
 dsimp only
 omega
end
structure Asked (b : acq) (ns : List (Int × Int)) (B : acq) : Prop where
 room : aQQ B
 nodes : ∀ n ∈ ns, aki B n
 hist : ∀ {f : Int → Int → Int} {z : Int}, aEK B f z ↔ aEK b f z
 good : adk b
 gauges : B.2.1 = b.2.1
theorem aNx {b : acq} (hI : In b) {ns : List (Int × Int)} (e : (adg b ns).2 = 0) : Asked b ns (adg b ns).1 := by
 obtain ⟨h1, h2, h3, h4⟩ := agw hI e
 exact ⟨h1, by rw [h2]; exact aHE h4 h3, by rw [h2]; exact aHG h3, h4, by rw [h2]; exact amt h3⟩
def axC (c : Cmp) : Bool := decide (c.2.2.1.length ≤ 10) && decide (c.2.2.2.1.length ≤ 10)
theorem aJX (c : Cmp) : amd c = some (axC c) := by
 unfold amd avj axC
 rw [acL, acL, adJ]
 by_cases h : c.2.2.1.length ≤ 10
 ·rw [if_pos (by simp [ile]; omega)]
  simp [ile, h]
  omega
 ·rw [if_neg (by simp [ile]; omega)]
  simp [h]
def fewP (b : acq) : Bool :=
 !((b.2.2.2.2.1.take 50).any fun c => !axC c) && (decide (b.2.1.length ≤ 14) && (decide (b.2.2.1.length ≤ 45) && (decide (b.2.2.2.1.length ≤ 14) && (decide (b.2.2.2.2.1.length ≤ 42) && decide (b.2.2.2.2.2.length ≤ 12)))))
theorem few_ok (b : acq) : ayJ b = some (fewP b) := by
 unfold ayJ aFl
 have last : (ifb (ile (acx b.2.1) (14 : Int)) (ifb (ile (acx b.2.2.1) (45 : Int)) (ifb (ile (acx b.2.2.2.1) (14 : Int)) (ifb (ile (acx b.2.2.2.2.1) (42 : Int)) (some (ile (acx b.2.2.2.2.2) (12 : Int))) (some false)) (some false)) (some false)) (some false)) =
  some (decide (b.2.1.length ≤ 14) && (decide (b.2.2.1.length ≤ 45) && (decide (b.2.2.2.1.length ≤ 14) && (decide (b.2.2.2.2.1.length ≤ 42) && decide (b.2.2.2.2.2.length ≤ 12))))) := by
  have e : ∀ (n m : Nat), ile (n : Int) (m : Int) = decide (n ≤ m) := fun n m => by simp [ile]
  rw [acL, acL, acL, acL, acL, show (14 : Int) = ((14 : Nat) : Int) from rfl, show (45 : Int) = ((45 : Nat) : Int) from rfl, show (42 : Int) = ((42 : Nat) : Int) from rfl, show (12 : Int) = ((12 : Nat) : Int) from rfl, e, e, e, e, e]
  generalize decide (b.2.1.length ≤ 14) = x1
  generalize decide (b.2.2.1.length ≤ 45) = x2
  generalize decide (b.2.2.2.1.length ≤ 14) = x3
  generalize decide (b.2.2.2.2.1.length ≤ 42) = x4
  cases x1 <;> cases x2 <;> cases x3 <;> cases x4 <;> rfl
 rw [last]
 refine Eq.trans (agG (b.2.2.2.2.1.take 50) (fun c => !axC c) (fun _ => some false) (some false) (some (decide (b.2.1.length ≤ 14) && (decide (b.2.2.1.length ≤ 45) && (decide (b.2.2.2.1.length ≤ 14) && (decide (b.2.2.2.2.1.length ≤ 42) && decide (b.2.2.2.2.2.length ≤ 12)))))) (fun _ => rfl) (fun i c hi hc kn => ?_) (fun kn => ?_)) ?_
 ·try dsimp only
  unfold amB
  rw [List.length_take] at hi
  have hc' : b.2.2.2.2.1[i]? = some c := by rw [List.getElem?_take] at hc; split at hc <;> simp_all
  rw [acm (show i < b.2.2.2.2.1.length by omega), acv (decide_eq_true (by omega)), acg hc', aJX, ab1, acs (by omega) (by omega), adJ]
 ·try dsimp only
  unfold amB
  rw [List.length_take, adJ]
  split
  ·rename_i h
   have h' : 50 < b.2.2.2.2.1.length := by rw [acL] at h; simp [ilt] at h; omega
   rw [ack (decide_eq_false (by omega))]
  ·rfl
 ·unfold fewP
  cases List.any (List.take 50 b.2.2.2.2.1) (fun c => !axC c) <;> rfl
theorem aRV {b : acq} (h : fewP b = true) : ahx b := by
 simp only [fewP, Bool.and_eq_true, Bool.not_eq_true', decide_eq_true_eq] at h
 obtain ⟨h0, h1, h2, h3, h4, h5⟩ := h
 refine ⟨by omega, by omega, by omega, by omega, by omega, fun c hc => ?_⟩
 rw [List.take_of_length_le (by omega)] at h0
 have := List.any_eq_false.1 h0 c hc
 simp [axC] at this
 omega
end Go.Proofs.ZzM
end
noncomputable section
namespace Go.Proofs.ZzM
open Go Go.Am
section
variable {L : List Lk} {N : Nat} {x y H G : Int}
theorem aNl (hxy : x ≠ y) {s : Int} {vs : List Int} {v d : Int} (w : Wl (L ++ [(y, x, H), (x, y, -G)]) (fun u => u = s) vs v d) : (v :: vs).Nodup →
 (∃ vs, Wl L (fun u => u = s) vs v d) ∨ (∃ d1 d2, (∃ vs, Wl L (fun u => u = s) vs y d1) ∧ (∃ vs, Wl L (fun u => u = x) vs v d2) ∧ d = d1 + H + d2 ∧ x ∈ v :: vs ∧ y ∈ v :: vs) ∨
 (∃ d1 d2, (∃ vs, Wl L (fun u => u = s) vs x d1) ∧ (∃ vs, Wl L (fun u => u = y) vs v d2) ∧ d = d1 - G + d2 ∧ x ∈ v :: vs ∧ y ∈ v :: vs) := by
 induction w with
 | nil hs => intro _; exact .inl ⟨[], .nil hs⟩
 | @step vs u v m d hw hl ih =>
   intro hn
   have hn2 : (u :: vs).Nodup := (List.nodup_cons.1 hn).2
   have hv : v ∉ u :: vs := (List.nodup_cons.1 hn).1
   have up : ∀ {a : Int}, a ∈ u :: vs → a ∈ v :: u :: vs := fun h => List.mem_cons_of_mem _ h
   rcases List.mem_append.1 hl with h1 | h1
   ·rcases ih hn2 with ⟨vs1, q⟩ | ⟨d1, d2, q1, ⟨vs2, q2⟩, q3, q4, q5⟩ | ⟨d1, d2, q1, ⟨vs2, q2⟩, q3, q4, q5⟩
    ·exact .inl ⟨_, .step q h1⟩
    ·exact .inr (.inl ⟨d1, d2 + m, q1, ⟨_, .step q2 h1⟩, by omega, up q4, up q5⟩)
    ·exact .inr (.inr ⟨d1, d2 + m, q1, ⟨_, .step q2 h1⟩, by omega, up q4, up q5⟩)
   ·simp only [List.mem_cons, List.not_mem_nil, or_false, Prod.mk.injEq] at h1
    rcases h1 with ⟨e1, e2, e3⟩ | ⟨e1, e2, e3⟩
    ·subst e2; subst e3
     rcases ih hn2 with ⟨vs1, q⟩ | ⟨d1, d2, q1, q2, q3, q4, q5⟩ | ⟨d1, d2, q1, q2, q3, q4, q5⟩
     ·refine .inr (.inl ⟨d, 0, ⟨vs1, by rw [← e1]; exact q⟩, ⟨[], .nil rfl⟩, by omega, by simp, by rw [← e1]; simp⟩)
     ·exact absurd q4 hv
     ·exact absurd q4 hv
    ·subst e2; subst e3
     rcases ih hn2 with ⟨vs1, q⟩ | ⟨d1, d2, q1, q2, q3, q4, q5⟩ | ⟨d1, d2, q1, q2, q3, q4, q5⟩
     ·refine .inr (.inr ⟨d, 0, ⟨vs1, by rw [← e1]; exact q⟩, ⟨[], .nil rfl⟩, by omega, by rw [← e1]; simp, by simp⟩)
     ·exact absurd q5 hv
     ·exact absurd q5 hv
theorem ap9 (h : afo L N) (ht : auY L N) (ho : adC L N = true) {s t : Int} (hs : 0 ≤ s ∧ s < N) (hv : 0 ≤ t ∧ t < N) : ∃ vs, Wl L (fun u => u = s) vs t (dst L N s t) := by
 have h2 := h.n60
 obtain ⟨p, hp⟩ := (aex h.links (by omega)).1 ho
 obtain ⟨vs, hw⟩ := (agd h.links (by omega) hp hs).att t hv.1 hv.2 (aMS h ht ho hs hv)
 exact ⟨vs, aH6.1 hw⟩
theorem apw (h : afo L N) (ho : adC L N = true) {s t d : Int} (hs : 0 ≤ s ∧ s < N) {vs : List Int} (hw : Wl L (fun u => u = s) vs t d) : dst L N s t ≤ d := by
 have h2 := h.n60
 obtain ⟨p, hp⟩ := (aex h.links (by omega)).1 ho
 exact (agd h.links (by omega) hp hs).low t vs d (aH6.2 hw)
theorem aTy (h : afo L N) (ht : auY L N) (ho : adC L N = true) (h' : afo (L ++ [(y, x, H), (x, y, -G)]) N) (ho' : adC (L ++ [(y, x, H), (x, y, -G)]) N = true) (hx : 0 ≤ x ∧ x < N) (hy : 0 ≤ y ∧ y < N) (hxy : x ≠ y) {s t : Int} (hs : 0 ≤ s ∧ s < N) (hv : 0 ≤ t ∧ t < N) :
 dst (L ++ [(y, x, H), (x, y, -G)]) N s t = min (dst L N s t) (min (dst L N s y + H + dst L N x t) (dst L N s x - G + dst L N y t)) := by
 have h2 := h.n60
 have sub : ∀ l ∈ L, l ∈ L ++ [(y, x, H), (x, y, -G)] := fun l hl => List.mem_append.2 (.inl hl)
 have ht' : auY (L ++ [(y, x, H), (x, y, -G)]) N := ⟨fun v a b => by obtain ⟨vs, d, w, q⟩ := ht.to v a b; exact ⟨vs, d, w.sub sub, q⟩, fun v a b => by obtain ⟨vs, d, w, q⟩ := ht.from' v a b; exact ⟨vs, d, w.sub sub, q⟩⟩
 obtain ⟨v1, w1⟩ := ap9 h ht ho hs hv
 obtain ⟨v2, w2⟩ := ap9 h ht ho hs hy
 obtain ⟨v3, w3⟩ := ap9 h ht ho hx hv
 obtain ⟨v4, w4⟩ := ap9 h ht ho hs hx
 obtain ⟨v5, w5⟩ := ap9 h ht ho hy hv
 have a1 := apw h' ho' hs (w1.sub sub)
 have a2 : dst (L ++ [(y, x, H), (x, y, -G)]) N s t ≤ dst L N s y + H + dst L N x t := by
  obtain ⟨ws, q⟩ := (Wl.step (w2.sub sub) (show (y, x, H) ∈ L ++ [(y, x, H), (x, y, -G)] by simp)).app (w3.sub sub)
  exact apw h' ho' hs q
 have a3 : dst (L ++ [(y, x, H), (x, y, -G)]) N s t ≤ dst L N s x - G + dst L N y t := by
  obtain ⟨ws, q⟩ := (Wl.step (w4.sub sub) (show (x, y, -G) ∈ L ++ [(y, x, H), (x, y, -G)] by simp)).app (w5.sub sub)
  have := apw h' ho' hs q
  omega
 obtain ⟨vs, w⟩ := ap9 h' ht' ho' hs hv
 obtain ⟨p, hp⟩ := (aex h'.links (by omega)).1 ho'
 obtain ⟨vs', d', w', hd, hnd⟩ := w.simple hp
 rcases aNl hxy w' hnd with ⟨_, q⟩ | ⟨d1, d2, ⟨_, q1⟩, ⟨_, q2⟩, q3, _⟩ | ⟨d1, d2, ⟨_, q1⟩, ⟨_, q2⟩, q3, _⟩
 ·have := apw h ho hs q
  omega
 ·have := apw h ho hs q1
  have := apw h ho hx q2
  omega
 ·have := apw h ho hs q1
  have := apw h ho hy q2
  omega
end
def adL (c : Cmp) (d : Int) : Cmp := (c.1, c.2.1, c.2.2.1, c.2.2.2.1, d, c.2.2.2.2.2)
theorem aOR (b : acq) (c : Cmp) (d : Int) : adY b (adL c d) = ((adY b (ab5 c)).1 + d, (adY b (ab5 c)).2 + d) := by
 obtain ⟨a1, a2⟩ := aEU b (adL c d)
 obtain ⟨b1, b2⟩ := aEU b (ab5 c)
 have e1 : ajl b (adL c d) = ajl b (ab5 c) := rfl
 have e2 : ayD b (adL c d) = ayD b (ab5 c) := rfl
 have e3 : (adL c d).2.2.2.2.1 = d := rfl
 have e4 : (ab5 c).2.2.2.2.1 = 0 := rfl
 rw [e1, e3] at a1
 rw [e2, e3] at a2
 rw [e4] at b1 b2
 exact Prod.ext (by dsimp only; omega) (by dsimp only; omega)
theorem aJG (b : acq) (c : Cmp) (d : Int) (g : acO) : acu (acl b (adL c d)) g = acu (acl b (ab5 c)) g := by
 unfold acu aDj acl
 simp only [List.filter_append, List.map_append]
 have e : ((([adL c d] : List Cmp).filter fun x => !(x.2.2.1.contains g.1 == x.2.2.2.1.contains g.1)).map fun x => x.2.1) = ((([ab5 c] : List Cmp).filter fun x => !(x.2.2.1.contains g.1 == x.2.2.2.1.contains g.1)).map fun x => x.2.1) := by
  cases hq : (!(c.2.2.1.contains g.1 == c.2.2.2.1.contains g.1)) with
  | true => rw [List.filter_cons_of_pos (by exact hq), List.filter_cons_of_pos (by exact hq)]; rfl
  | false => rw [List.filter_cons_of_neg (by exact Bool.eq_false_iff.1 hq), List.filter_cons_of_neg (by exact Bool.eq_false_iff.1 hq)]
 rw [e]
theorem ahO (b : acq) (c : Cmp) (d : Int) : acd (acl b (adL c d)) = acd (acl b (ab5 c)) := by
 unfold acd
 have : (fun g : acO => (acu (acl b (adL c d)) g).map fun e => ((g.1, e) : Int × Int)) = fun g : acO => (acu (acl b (ab5 c)) g).map fun e => ((g.1, e) : Int × Int) := by
  funext g
  rw [aJG]
 rw [this]
 rfl
theorem aPV (b : acq) (c : Cmp) (d : Int) : acE (acl b (adL c d)) = acE (acl b (ab5 c)) := by
 rw [aA5, aA5]
 have e1 : ac2 (acl b (adL c d)) = ac2 (acl b (ab5 c)) := by
  funext g
  unfold ac2
  rw [aJG, ahO]
  rfl
 have e2 : acQ (acl b (adL c d)) = acQ (acl b (ab5 c)) := by
  funext x
  unfold acQ cx cy
  rw [ahO]
  rfl
 rw [e1, e2]
 rfl
theorem aRN (b : acq) (c : Cmp) (d : Int) (i j : Int) : amr (acl b (adL c d)) i j = amr (acl b (ab5 c)) i j := by unfold amr; rw [ahO]
theorem aNT (b : acq) (c : Cmp) (d : Int) (h : adk (acl b (adL c d))) : acp (acl b (adL c d)) = acE (acl b (ab5 c)) ++ [(cy (acl b (ab5 c)) (ab5 c), cx (acl b (ab5 c)) (ab5 c), (adY b (ab5 c)).2 + d), (cx (acl b (ab5 c)) (ab5 c), cy (acl b (ab5 c)) (ab5 c), -((adY b (ab5 c)).1 + d))] := by
 rw [av9 b (adL c d) h, aPV]
 have e1 : cy (acl b (adL c d)) (adL c d) = cy (acl b (ab5 c)) (ab5 c) := by unfold cy; rw [ahO]; rfl
 have e2 : cx (acl b (adL c d)) (adL c d) = cx (acl b (ab5 c)) (ab5 c) := by unfold cx; rw [ahO]; rfl
 have e3 : adY (acl b (adL c d)) (adL c d) = adY b (adL c d) := rfl
 rw [e1, e2, e3, aOR]
theorem aTl {b : acq} {c : Cmp} (hp : (acz b c).2 = 0) {d : Int} (hg : adk (acl b (adL c d))) (ho : adC (acp (acl b (adL c d))) ((acd (acl b (adL c d))).length + 1) = true) (n : Int × Int) :
 ivR (acl b (adL c d)) n = aeO (aeI b n c) d := by
 obtain ⟨g1, g2⟩ := ahy hp
 have hop := aok hp
 have hh : adC (acE (acl b (ab5 c))) ((acd (acl b (ab5 c))).length + 1) = true := by rw [aiL g1 g2]; exact hop
 have hx := apB g2
 have hy := apA g2
 have hxy := aMW g2 (aku (c := ab5 c))
 have hs := hg.sys
 have hl := aNT b c d hg
 rw [ahO] at hs ho
 rw [hl] at hs ho
 have key : ∀ {s t : Int}, 0 ≤ s ∧ s < ((acd (acl b (ab5 c))).length + 1 : Nat) → 0 ≤ t ∧ t < ((acd (acl b (ab5 c))).length + 1 : Nat) → aOs (acl b (adL c d)) s t = atE (aTu b (ab5 c) s t) d := by
  intro s t h1 h2
  unfold aOs
  rw [ahO, hl, aTy (afY g2) (af9 g2) hh hs ho hx hy hxy h1 h2]
  unfold atE aTu aRO
  dsimp only
  omega
 unfold ivR aeO aeI
 rw [aRN, key (adP _ n) (adS _), key (adS _) (adP _ n)]
theorem ayq {w : alx} {d : Int} (hd : w.1.1 < d ∧ d < w.1.2) {l : List Int} (hn : d ∉ amz w.1 l) : ∀ n ∈ l, n + 2 < d ∨ d < n - 2 := by
 intro n hm
 rcases (show n + 2 < d ∨ d ≤ n + 2 by omega) with h | h
 ·exact .inl h
 ·rcases (show d < n - 2 ∨ n - 2 ≤ d by omega) with h2 | h2
  ·exact .inr h2
  ·exact absurd (aks.2 (.inr (.inr ⟨hd.1, hd.2, n, hm, by omega, by omega⟩))) hn
theorem apN (e : End) {d : Int} (h : ∀ n ∈ acW e, n + 2 < d ∨ d < n - 2) : atE e (d + 1) - atE e d = atE e d - atE e (d - 1) := by
 have t1 := h (e.1 - e.2.1) (by simp [acW])
 have t2 := h (e.2.2 - e.1) (by simp [acW])
 have t3 := h (Int.tdiv (e.2.2 - e.2.1) 2) (by simp [acW])
 have hh := asu (e.2.2 - e.2.1)
 generalize Int.tdiv (e.2.2 - e.2.1) 2 = k at t3 hh
 unfold atE
 omega
def afI (w : alx) (d : Int) : Int := (aeO w d).2 - (aeO w d).1
theorem aLW (w : alx) : ∀ (l : List Int) (m : Int), m ≤ l.foldl (fun m d => max m ((aeO w d).2 - (aeO w d).1)) m ∧ ∀ d ∈ l, afI w d ≤ l.foldl (fun m d => max m ((aeO w d).2 - (aeO w d).1)) m
 | [], m => ⟨Int.le_refl _, fun d h => by simp at h⟩
 | a :: l, m => by
   have := aLW w l (max m ((aeO w a).2 - (aeO w a).1))
   rw [List.foldl_cons]
   refine ⟨by omega, fun d hd => ?_⟩
   rcases List.mem_cons.1 hd with rfl | hd
   ·unfold afI; omega
   ·exact this.2 d hd
theorem aPl (w : alx) {l : List Int} (h1 : ∀ n ∈ acW w.2.1, n ∈ l) (h2 : ∀ n ∈ acW w.2.2, n ∈ l) : ∀ (k : Nat) (d : Int), w.1.1 ≤ d → d ≤ w.1.2 →
 ((w.1.2 - d).toNat = k → (d = w.1.1 ∨ afI w (d - 1) ≤ afI w d) → ∃ e ∈ amz w.1 l, afI w d ≤ afI w e) := by
 intro k
 induction k with
 | zero =>
   intro d a b hk _
   exact ⟨d, aks.2 (.inr (.inl (by omega))), Int.le_refl _⟩
 | succ k ih =>
   intro d a b hk hs
   by_cases hn : d ∈ amz w.1 l
   ·exact ⟨d, hn, Int.le_refl _⟩
   ·have hd : w.1.1 < d ∧ d < w.1.2 := by
     constructor
     ·rcases Int.lt_or_eq_of_le a with h | h
      ·exact h
      ·exact absurd (aks.2 (.inl h.symm)) hn
     ·omega
    have t := ayq hd hn
    have s1 := apN w.2.1 fun n hm => t n (h1 n hm)
    have s2 := apN w.2.2 fun n hm => t n (h2 n hm)
    have hge : afI w d ≤ afI w (d + 1) := by
     rcases hs with h | h
     ·omega
     ·unfold afI aeO at h ⊢
      dsimp only at h ⊢
      omega
    obtain ⟨e, he, hw⟩ := ih (d + 1) (by omega) (by omega) (by omega) (.inr (by rw [show d + 1 - 1 = d by omega]; exact hge))
    exact ⟨e, he, by omega⟩
theorem aNC (w : alx) {l : List Int} (h1 : ∀ n ∈ acW w.2.1, n ∈ l) (h2 : ∀ n ∈ acW w.2.2, n ∈ l) : ∀ (k : Nat) (d : Int), w.1.1 ≤ d → d ≤ w.1.2 →
 ((d - w.1.1).toNat = k → (d = w.1.2 ∨ afI w (d + 1) ≤ afI w d) → ∃ e ∈ amz w.1 l, afI w d ≤ afI w e) := by
 intro k
 induction k with
 | zero =>
   intro d a b hk _
   exact ⟨d, aks.2 (.inl (by omega)), Int.le_refl _⟩
 | succ k ih =>
   intro d a b hk hs
   by_cases hn : d ∈ amz w.1 l
   ·exact ⟨d, hn, Int.le_refl _⟩
   ·have hd : w.1.1 < d ∧ d < w.1.2 := by
     constructor
     ·omega
     ·rcases Int.lt_or_eq_of_le b with h | h
      ·exact h
      ·exact absurd (aks.2 (.inr (.inl h))) hn
    have t := ayq hd hn
    have s1 := apN w.2.1 fun n hm => t n (h1 n hm)
    have s2 := apN w.2.2 fun n hm => t n (h2 n hm)
    have hge : afI w d ≤ afI w (d - 1) := by
     rcases hs with h | h
     ·omega
     ·unfold afI aeO at h ⊢
      dsimp only at h ⊢
      omega
    obtain ⟨e, he, hw⟩ := ih (d - 1) (by omega) (by omega) (by omega) (.inr (by rw [show d - 1 + 1 = d by omega]; exact hge))
    exact ⟨e, he, by omega⟩
theorem aOz (w : alx) {d : Int} (h1 : w.1.1 ≤ d) (h2 : d ≤ w.1.2) : afI w d ≤ aDr w := by
 have t1 : ∀ n ∈ acW w.2.1, n ∈ acW w.2.1 ++ acW w.2.2 := fun n h => List.mem_append.2 (.inl h)
 have t2 : ∀ n ∈ acW w.2.2, n ∈ acW w.2.1 ++ acW w.2.2 := fun n h => List.mem_append.2 (.inr h)
 have : ∃ e ∈ amz w.1 (acW w.2.1 ++ acW w.2.2), afI w d ≤ afI w e := by
  by_cases hs : d = w.1.1 ∨ afI w (d - 1) ≤ afI w d
  ·exact aPl w t1 t2 _ d h1 h2 rfl hs
  ·by_cases hs2 : d = w.1.2 ∨ afI w (d + 1) ≤ afI w d
   ·exact aNC w t1 t2 _ d h1 h2 rfl hs2
   ·by_cases hn : d ∈ amz w.1 (acW w.2.1 ++ acW w.2.2)
    ·exact ⟨d, hn, Int.le_refl _⟩
    ·have hd : w.1.1 < d ∧ d < w.1.2 := by omega
     have t := ayq hd hn
     have s1 := apN w.2.1 fun n hm => t n (t1 n hm)
     have s2 := apN w.2.2 fun n hm => t n (t2 n hm)
     exfalso
     unfold afI aeO at hs hs2
     dsimp only at hs hs2
     omega
 obtain ⟨e, he, hw⟩ := this
 have := (aLW w (amz w.1 (acW w.2.1 ++ acW w.2.2)) (-1)).2 e he
 unfold aDr aHj
 omega
theorem aNU (w : alx) (l : Int × Int) {d : Int} (h : ∀ n ∈ ak1 w l, n + 2 < d ∨ d < n - 2) (ho : adu (aeO w d) l = 3) : adu (aeO w (d + 1)) l = 3 := by
 have q : ∀ n, (n ∈ acW w.2.1 ∨ n ∈ acW w.2.2 ∨ n ∈ agX w.2.1 l.1 ∨ n ∈ agX w.2.2 (-l.1) ∨ n ∈ agX w.2.1 l.2 ∨ n ∈ agX w.2.2 (-l.2)) → n + 2 < d ∨ d < n - 2 := fun n hn => h n (by
  unfold ak1
  simp only [List.mem_append]
  rcases hn with h | h | h | h | h | h <;> simp [h])
 have key : ∀ (e : End) (n : Int), (∀ m ∈ acW e, m + 2 < d ∨ d < m - 2) → (∀ m ∈ agX e n, m + 2 < d ∨ d < m - 2) → ((atE e d ≤ n ↔ atE e (d + 1) ≤ n) ∧ (atE e d < n ↔ atE e (d + 1) < n)) := by
  intro e n t m
  have t1 := t (e.1 - e.2.1) (by simp [acW])
  have t2 := t (e.2.2 - e.1) (by simp [acW])
  have t3 := t (Int.tdiv (e.2.2 - e.2.1) 2) (by simp [acW])
  have hh := asu (e.2.2 - e.2.1)
  have m1 := m (n - e.2.1) (by simp [agX])
  have m2 := m (e.2.2 - n) (by simp [agX])
  generalize Int.tdiv (e.2.2 - e.2.1) 2 = k at t3 hh
  unfold atE
  omega
 obtain ⟨a1, a2⟩ := key w.2.1 l.1 (fun m hm => q m (.inl hm)) (fun m hm => q m (.inr (.inr (.inl hm))))
 obtain ⟨b1, b2⟩ := key w.2.1 l.2 (fun m hm => q m (.inl hm)) (fun m hm => q m (.inr (.inr (.inr (.inr (.inl hm))))))
 obtain ⟨c1, c2⟩ := key w.2.2 (-l.1) (fun m hm => q m (.inr (.inl hm))) (fun m hm => q m (.inr (.inr (.inr (.inl hm)))))
 obtain ⟨d1, d2⟩ := key w.2.2 (-l.2) (fun m hm => q m (.inr (.inl hm))) (fun m hm => q m (.inr (.inr (.inr (.inr (.inr hm))))))
 unfold adu aeO at ho ⊢
 dsimp only at ho ⊢
 split at ho
 ·omega
 ·rename_i h1
  split at ho
  ·omega
  ·rename_i h2
   rw [if_neg (by omega), if_neg (by omega)]
theorem aNo (w : alx) (l : Int × Int) (hs : ako w l = true) : ∀ d, w.1.1 ≤ d → d ≤ w.1.2 → adu (aeO w d) l ≠ 3 := by
 unfold ako at hs
 rw [List.all_eq_true] at hs
 have key : ∀ (k : Nat) (d : Int), w.1.1 ≤ d → d ≤ w.1.2 → (w.1.2 - d).toNat = k → adu (aeO w d) l ≠ 3 := by
  intro k
  induction k with
  | zero =>
    intro d a b hk
    simpa using hs d (aks.2 (.inr (.inl (by omega))))
  | succ k ih =>
    intro d a b hk
    by_cases hn : d ∈ amz w.1 (ak1 w l)
    ·simpa using hs d hn
    ·have hd : w.1.1 < d ∧ d < w.1.2 := by
      constructor
      ·rcases Int.lt_or_eq_of_le a with h | h
       ·exact h
       ·exact absurd (aks.2 (.inl h.symm)) hn
      ·omega
     intro hv
     exact ih (d + 1) (by omega) (by omega) (by omega) (aNU w l (ayq hd hn) hv)
 exact fun d a b => key _ d a b rfl
theorem aLp {s l : Int × Int} (h1 : -288230376151711744 < s.1 ∧ s.1 < 288230376151711744) (h2 : -288230376151711744 < s.2 ∧ s.2 < 288230376151711744) : adu s (ayf l.1, ayf l.2) = adu s l := by
 unfold adu ayf
 dsimp only
 have e1 : (max (-288230376151711744) (min l.1 288230376151711744) ≤ s.1 ∧ s.2 ≤ max (-288230376151711744) (min l.2 288230376151711744)) ↔ (l.1 ≤ s.1 ∧ s.2 ≤ l.2) := by omega
 have e2 : (s.2 < max (-288230376151711744) (min l.1 288230376151711744) ∨ max (-288230376151711744) (min l.2 288230376151711744) < s.1) ↔ (s.2 < l.1 ∨ l.2 < s.1) := by omega
 simp only [e1, e2]
end Go.Proofs.ZzM
end
noncomputable section
namespace Go.Proofs.ZzM
open Go Go.Am
theorem aDT (x y : Int) (g : Bool) : ∀ m : List (Int × Bool), alH (k := tI) (v := .bool) x (ayy (k := tI) (v := .bool) y g m) = if x = y then some g else alH (k := tI) (v := .bool) x m
 | [] => by
   unfold ayy alH agT alH
   by_cases h : x = y <;> simp [h]
 | e :: m => by
   unfold ayy
   by_cases h : y = e.1
   ·have : agT tI y e.1 = true := by simp [agT, h]
    rw [this]
    try dsimp only
    unfold alH agT
    by_cases h2 : x = y
    ·simp [h2]
    ·have : ¬ x = e.1 := fun h3 => h2 (h3.trans h.symm)
     simp [h2, this]
   ·have : agT tI y e.1 = false := by simp [agT, h]
    rw [this]
    try dsimp only
    have ih := aDT x y g m
    unfold alH
    by_cases h2 : x = e.1
    ·have : agT tI x e.1 = true := by simp [agT, h2]
     rw [this]
     have : ¬ x = y := fun h3 => h (h3.symm.trans h2)
     simp [this]
    ·have : agT tI x e.1 = false := by simp [agT, h2]
     rw [this]
     exact ih
def aB1 (l : List Int) : List (Int × Bool) := l.foldl (fun m x => ayy (k := tI) (v := .bool) x true m) []
theorem aof (l : List Int) (x : Int) : aB1 (l ++ [x]) = ayy (k := tI) (v := .bool) x true (aB1 l) := by unfold aB1; rw [List.foldl_append]; rfl
theorem aId (x : Int) : ∀ (l : List Int) (m : List (Int × Bool)), alH (k := tI) (v := .bool) x (l.foldl (fun m x => ayy (k := tI) (v := .bool) x true m) m) = if l.contains x then some true else alH (k := tI) (v := .bool) x m
 | [], m => by simp
 | y :: l, m => by
   rw [List.foldl_cons, aId x l, aDT]
   by_cases h : x = y
   ·subst h; simp
   ·simp [h]
theorem aIb (l : List Int) (x : Int) : alH (k := tI) (v := .bool) x (aB1 l) = if l.contains x then some true else none := aId x l []
def asv (b : acq) (s : Int × Int) : List Int := if s.1 = 3 then (match b.2.2.2.2.1[s.2.toNat]? with | some c => c.2.2.1 ++ c.2.2.2.1 | none => []) else (match b.2.1[s.2.toNat]? with | some g => [g.1] | none => [])
def aBv (b : acq) (ss looks : List (Int × Int)) : List Int := ss.flatMap (asv b) ++ looks.map fun n => n.1
def auQ (ss : List (Int × Int)) : List Int := (ss.filter fun s => s.1 == 3).map fun s => s.2
def asc (w : List Int) : Nat → List Cmp → List Cmp
 | _, [] => []
 | i, c :: t => if w.contains (i : Int) then c :: asc w (i + 1) t else asc w (i + 1) t
def cutP (b : acq) (ss looks : List (Int × Int)) : acq :=
 (b.1, b.2.1.filter fun g => (aBv b ss looks).contains g.1, b.2.2.1.filter fun u => (aBv b ss looks).contains u.1, b.2.2.2.1.filter fun l => (aBv b ss looks).contains l.1, asc (auQ ss) 0 b.2.2.2.2.1, looks)
def aTM (b : acq) (s : Int × Int) : Prop := ((s.1 = 1 ∨ s.1 = 2) ∧ 0 ≤ s.2 ∧ s.2 < b.2.1.length) ∨ (s.1 = 3 ∧ 0 ≤ s.2 ∧ s.2 < b.2.2.2.2.1.length)
theorem aEe (w : List Int) (c : Cmp) : ∀ (l : List Cmp) (i : Nat), asc w i (l ++ [c]) = asc w i l ++ if w.contains ((i + l.length : Nat) : Int) then [c] else []
 | [], i => by simp only [List.nil_append, asc, List.length_nil, Nat.add_zero]
 | a :: l, i => by
   have e : ((i + 1 + l.length : Nat) : Int) = ((i + (l.length + 1) : Nat) : Int) := by congr 1; omega
   simp only [List.cons_append, asc, aEe w c l (i + 1), List.length_cons, e]
   split <;> rfl
theorem aAX (w : List Int) : ∀ (l : List Cmp) (i : Nat), (asc w i l).length ≤ l.length
 | [], i => by simp [asc]
 | a :: l, i => by
   have := aAX w l (i + 1)
   simp only [asc]
   split <;> simp only [List.length_cons] <;> omega
theorem apf {ρ : Type} (x : Int) (l : List Int) (f : Bool → Option ρ) (g : Option ρ) : aHi (k := tI) (v := .bool) x (aB1 l) f g = if l.contains x then f true else g := by
 unfold aHi
 rw [aIb]
 by_cases h : l.contains x = true
 ·rw [if_pos h, if_pos h]
 ·rw [if_neg h, if_neg h]
section
variable {ρ : Type}
theorem cut_L3 (l : List (Int × Int)) (hl : l.length ≤ 1000) (ids : List Int) (K : List (Int × Int) → Option ρ) : acj (fun (v47 : (Val (.pair tI (.slice ab3)))) kk50 => alQ l (acx l) (aB1 ids) v47.1 v47.2 (fun u48 u49 => kk50 (u48, u49)) K) ((0 : Int), []) = K (l.filter fun u => ids.contains u.1) := by
 refine ada l (fun i => (l.take i).filter fun u => ids.contains u.1) _ rfl (fun i a hi ha kn => ?_) (fun kn => ?_)
 ·try dsimp only
  unfold alQ
  have h1 := aj3 (fun u : Int × Int => ids.contains u.1) l i
  rw [acm hi, acg ha, apf, take_succ ha, List.filter_append]
  by_cases h : ids.contains a.1 = true
  ·rw [if_pos h, aei, adI (acn (by simp only [List.length_singleton]; omega)), aci hi (by omega)]
   simp only [List.filter_cons, List.filter_nil, h, if_pos]
  ·rw [if_neg h, aci hi (by omega)]
   simp only [List.filter_cons, List.filter_nil, h, if_neg, Bool.false_eq_true, not_false_eq_true, List.append_nil]
 ·try dsimp only
  unfold alQ
  rw [acJ, List.take_length]
theorem cut_L4 (l : List ayO) (hl : l.length ≤ 1000) (ids : List Int) (K : List ayO → Option ρ) : acj (fun (v47 : (Val (.pair tI (.slice adB)))) kk50 => alP l (acx l) (aB1 ids) v47.1 v47.2 (fun u48 u49 => kk50 (u48, u49)) K) ((0 : Int), []) = K (l.filter fun u => ids.contains u.1) := by
 refine ada l (fun i => (l.take i).filter fun u => ids.contains u.1) _ rfl (fun i a hi ha kn => ?_) (fun kn => ?_)
 ·try dsimp only
  unfold alP
  have h1 := aj3 (fun u : ayO => ids.contains u.1) l i
  rw [acm hi, acg ha, apf, take_succ ha, List.filter_append]
  by_cases h : ids.contains a.1 = true
  ·rw [if_pos h, aei, adI (acn (by simp only [List.length_singleton]; omega)), aci hi (by omega)]
   simp only [List.filter_cons, List.filter_nil, h, if_pos]
  ·rw [if_neg h, aci hi (by omega)]
   simp only [List.filter_cons, List.filter_nil, h, if_neg, Bool.false_eq_true, not_false_eq_true, List.append_nil]
 ·try dsimp only
  unfold alP
  rw [acJ, List.take_length]
theorem cut_L5 (l : List Cmp) (hl : l.length ≤ 1000) (hp : ∀ c ∈ l, c.2.2.1.length ≤ 1000 ∧ c.2.2.2.1.length ≤ 1000) (w : List Int) (K : List Cmp → Option ρ) : acj (fun (v47 : (Val (.pair tI (.slice ab9)))) kk50 => alO l (acx l) (aB1 w) v47.1 v47.2 (fun u48 u49 => kk50 (u48, u49)) K) ((0 : Int), []) = K (asc w 0 l) := by
 refine ada l (fun i => asc w 0 (l.take i)) _ rfl (fun i a hi ha kn => ?_) (fun kn => ?_)
 ·try dsimp only
  unfold alO
  have h1 := aAX w (l.take i) 0
  have h2 := hp a (List.mem_of_getElem? ha)
  have e : (l.take i).length = i := by rw [List.length_take]; omega
  rw [acm hi, acg ha, apf, take_succ ha, aEe, e, Nat.zero_add]
  by_cases h : w.contains (i : Int) = true
  ·rw [if_pos h, if_pos h, aei, adI (acn (by omega)), adI (acn (by omega)), adI (acn (by simp only [List.length_singleton]; omega)), aci hi (by omega)]
  ·rw [if_neg h, if_neg h, aci hi (by omega)]
   simp only [List.append_nil]
 ·try dsimp only
  unfold alO
  rw [acJ, List.take_length]
theorem cut_L2 (looks : List (Int × Int)) (hl : looks.length ≤ 1000) (ids : List Int) (K : List (Int × Bool) → Option ρ) : acj (fun (v51 : (Val (.pair tI (.map tI .bool)))) kk54 => alR looks (acx looks) v51.1 v51.2 (fun u52 u53 => kk54 (u52, u53)) K) ((0 : Int), aB1 ids) = K (aB1 (ids ++ looks.map fun n => n.1)) := by
 refine ada looks (fun i => aB1 (ids ++ (looks.take i).map fun n => n.1)) _ (by simp) (fun i a hi ha kn => ?_) (fun kn => ?_)
 ·try dsimp only
  unfold alR
  rw [acm hi, acg ha, aci hi (by omega), take_succ ha, List.map_append, ← List.append_assoc, List.map_singleton, aof]
 ·try dsimp only
  unfold alR
  rw [acJ, List.take_length]
theorem cut_L1 (xs : List Int) (hl : xs.length ≤ 10000) (ids : List Int) (K : List (Int × Bool) → Option ρ) : acj (fun (v13 : (Val (.pair tI (.map tI .bool)))) kk16 => alS xs (acx xs) v13.1 v13.2 (fun u14 u15 => kk16 (u14, u15)) K) ((0 : Int), aB1 ids) = K (aB1 (ids ++ xs)) := by
 refine ada xs (fun i => aB1 (ids ++ xs.take i)) _ (by simp) (fun i a hi ha kn => ?_) (fun kn => ?_)
 ·try dsimp only
  unfold alS
  rw [acm hi, acg ha, aci hi (by omega), take_succ ha, ← List.append_assoc, aof]
 ·try dsimp only
  unfold alS
  rw [acJ, List.take_length]
end
theorem ah6 {ρ α : Type} {l : List α} {i : Int} (h0 : 0 ≤ i) {a : α} (h : l[i.toNat]? = some a) (f : α → Option ρ) : adO l i f = f a := by
 obtain ⟨n, rfl⟩ := Int.eq_ofNat_of_zero_le h0
 exact acg (by simpa using h) f
theorem cut_ok {b : acq} (hs : ahx b) {ss looks : List (Int × Int)} (h1 : ss.length ≤ 1000) (h2 : looks.length ≤ 1000) (hv : ∀ s ∈ ss, aTM b s) : aBj b ss looks = some (cutP b ss looks) := by
 have g1 := hs.gauges; have g2 := hs.uses; have g3 := hs.loans; have g4 := hs.compares; have g5 := hs.looks
 unfold aBj aPu atl
 refine ada ss (fun i => (aB1 ((ss.take i).flatMap (asv b)), aB1 (auQ (ss.take i)))) _ rfl (fun i s hi ha kn => ?_) (fun kn => ?_)
 ·try dsimp only
  unfold apU
  have hok := hv s (List.mem_of_getElem? ha)
  rw [acm hi, acg ha, take_succ ha, List.flatMap_append]
  have e3 : auQ (ss.take i ++ [s]) = auQ (ss.take i) ++ if s.1 = 3 then [s.2] else [] := by
   unfold auQ
   rw [List.filter_append, List.map_append]
   congr 1
   by_cases h : s.1 = 3 <;> simp [h]
  rw [e3]
  rcases hok with ⟨hk, h0, h3⟩ | ⟨hk, h0, h3⟩
  ·have hg : b.2.1[s.2.toNat]? = some b.2.1[s.2.toNat] := List.getElem?_eq_getElem (by omega)
   generalize b.2.1[s.2.toNat] = g at hg
   have e1 : asv b s = [g.1] := by
    unfold asv
    rw [if_neg (by omega), hg]
   have e2 : List.flatMap (asv b) [s] = [g.1] := by simp [e1]
   rw [ack (decide_eq_false (by omega)), if_neg (by omega), List.append_nil, e2, aof]
   rcases hk with hk | hk
   ·rw [acv (decide_eq_true hk), ah6 h0 hg, aci hi (by omega)]
   ·rw [ack (decide_eq_false (by omega)), acv (decide_eq_true hk), ah6 h0 hg, aci hi (by omega)]
  ·have hc : b.2.2.2.2.1[s.2.toNat]? = some b.2.2.2.2.1[s.2.toNat] := List.getElem?_eq_getElem (by omega)
   have hp := hs.piles b.2.2.2.2.1[s.2.toNat] (List.getElem_mem _)
   generalize b.2.2.2.2.1[s.2.toNat] = c at hc hp
   have e1 : asv b s = c.2.2.1 ++ c.2.2.2.1 := by
    unfold asv
    rw [if_pos hk, hc]
   have e2 : List.flatMap (asv b) [s] = c.2.2.1 ++ c.2.2.2.1 := by simp [e1]
   rw [ack (decide_eq_false (by omega)), ack (decide_eq_false (by omega)), ack (decide_eq_false (by omega)), adI (decide_eq_true hk), if_pos hk, e2, ah6 h0 hc, ah6 h0 hc, ajG (by simp) (by simp; omega), ab1]
   rw [show ([c.2.2.1, c.2.2.2.1] : List (List Int)).flatten = c.2.2.1 ++ c.2.2.2.1 by simp]
   refine (cut_L1 (c.2.2.1 ++ c.2.2.2.1) (by simp; omega) _ _).trans ?_
   rw [aof, aci hi (by omega)]
 ·try dsimp only
  unfold apU
  rw [acJ]
  dsimp only
  rw [List.take_length]
  refine (cut_L2 looks h2 _ _).trans ?_
  rw [show (ss.flatMap (asv b) ++ looks.map fun n => n.1) = aBv b ss looks from rfl]
  unfold ap2
  try dsimp only
  rw [adI (acn (by omega)), ab1]
  have ek : (List.filter (fun g => (alH (k := tI) (v := .bool) g.1 (aB1 (aBv b ss looks))).getD false) b.2.1) = b.2.1.filter fun g => (aBv b ss looks).contains g.1 := by
   refine List.filter_congr fun g _ => ?_
   rw [aIb]
   cases (aBv b ss looks).contains g.1 <;> rfl
  rw [ek]
  unfold aiC
  dsimp only
  refine (cut_L3 b.2.2.1 g2 _ _).trans ?_
  refine (cut_L4 b.2.2.2.1 g3 _ _).trans ?_
  refine (cut_L5 b.2.2.2.2.1 g4 hs.piles _ _).trans ?_
  rfl
end Go.Proofs.ZzM
end
noncomputable section
namespace Go.Proofs.ZzM
open Go Go.Am
instance dec1 : DecidableEq ((Int × Int) × Int) := fun a b => instDecidableEqProd a b
instance dec2 : DecidableEq ((Int × Int) × ((Int × Int) × Int)) := fun a b => instDecidableEqProd a b
instance dec3 : DecidableEq (Int × (Int × Int) × ((Int × Int) × Int)) := fun a b => instDecidableEqProd a b
instance dec4 : DecidableEq (Int × Int × (Int × Int) × ((Int × Int) × Int)) := fun a b => instDecidableEqProd a b
instance decG : DecidableEq acO := fun a b => instDecidableEqProd a b
instance decL : DecidableEq ayO := fun a b => instDecidableEqProd a b
instance decI4 : DecidableEq (Int × (Int × (Int × Int))) := fun a b => instDecidableEqProd a b
instance decI5 : DecidableEq (List Int × Int × (Int × (Int × Int))) := fun a b => instDecidableEqProd a b
instance decI6 : DecidableEq (List Int × List Int × Int × (Int × (Int × Int))) := fun a b => instDecidableEqProd a b
instance decI7 : DecidableEq (Int × List Int × List Int × Int × (Int × (Int × Int))) := fun a b => instDecidableEqProd a b
instance decC : DecidableEq Cmp := fun a b => instDecidableEqProd a b
def aFh {α : Type} [DecidableEq α] (x : α) (l : List α) : Bool := l.any fun a => decide (x = a)
theorem aMt {α : Type} [DecidableEq α] {x : α} {l : List α} : aFh x l = true ↔ x ∈ l := by
 unfold aFh
 rw [List.any_eq_true]
 exact ⟨fun ⟨a, h1, h2⟩ => by rw [of_decide_eq_true h2]; exact h1, fun h => ⟨x, h, decide_eq_true rfl⟩⟩
theorem aKH {α : Type} [DecidableEq α] (l : List α) (x : α) : ige (match l.findIdx? (fun a => decide (x = a)) with | some j => (j : Int) | none => -1) 0 = aFh x l := by
 cases h : l.findIdx? (fun a => decide (x = a)) with
 | none =>
   have : aFh x l = false := by
    cases hm : aFh x l with
    | false => rfl
    | true => have := List.findIdx?_eq_none_iff.1 h x (aMt.1 hm); simp at this
   rw [this]
   rfl
 | some j =>
   obtain ⟨hj, hp, _⟩ := List.findIdx?_eq_some_iff_getElem.1 h
   have : x ∈ l := by rw [of_decide_eq_true hp]; exact List.getElem_mem _
   rw [aMt.2 this]
   exact decide_eq_true (by dsimp only; omega)
theorem aPp {ρ : Type} (o : Option Nat) (f : Int → Option ρ) : (match o with | some j => f (j : Int) | none => f (-1)) = f (match o with | some j => (j : Int) | none => -1) := by cases o <;> rfl
theorem aJ6 {l : List (Int × Int)} (hl : l.length ≤ 1000000) (x : Int × Int) : ade l x = some (aFh x l) := by
 unfold ade aeh ae4 ae1
 have e : acj (fun (v5 : Int) kk7 => ac9 l (acx l) x.1 x.2 v5 (fun u6 => kk7 u6) (fun z3 => some z3) (fun _ => some (-1 : Int))) (0 : Int) = some (match l.findIdx? (fun a => decide (x = a)) with | some j => (j : Int) | none => -1) := by
  refine (af7 l (fun a => decide (x = a)) (fun z => some z) (some (-1)) (fun i a hi ha kn => ?_) (fun kn => ?_)).trans (aPp _ some)
  ·try dsimp only
   unfold ac9
   have e : ((aeH x.1 a.1) && ((aeH x.2 a.2) && true)) = decide (x = a) := by
    rw [Bool.eq_iff_iff]; simp [aeH, Prod.ext_iff]
   rw [acm hi, acg ha, aci hi (by omega), adJ, e]
  ·try dsimp only
   unfold ac9
   rw [acJ]
 rw [e, ab1]
 exact congrArg some (aKH l x)
theorem aHf {l : List ayO} (hl : l.length ≤ 1000000) (x : ayO) : ac1 l x = some (aFh x l) := by
 unfold ac1 ad1 aeD aeB
 have e : acj (fun (v5 : Int) kk7 => ac0 l (acx l) x.1 x.2.1.1 x.2.1.2 x.2.2 v5 (fun u6 => kk7 u6) (fun z3 => some z3) (fun _ => some (-1 : Int))) (0 : Int) = some (match l.findIdx? (fun a => decide (x = a)) with | some j => (j : Int) | none => -1) := by
  refine (af7 l (fun a => decide (x = a)) (fun z => some z) (some (-1)) (fun i a hi ha kn => ?_) (fun kn => ?_)).trans (aPp _ some)
  ·try dsimp only
   unfold ac0
   have e : ((aeH x.1 a.1) && ((aeH x.2.1.1 a.2.1.1) && ((aeH x.2.1.2 a.2.1.2) && ((aeH x.2.2 a.2.2) && true)))) = decide (x = a) := by
    rw [Bool.eq_iff_iff]; simp [aeH, Prod.ext_iff, and_assoc]
   rw [acm hi, acg ha, aci hi (by omega), adJ, e]
  ·try dsimp only
   unfold ac0
   rw [acJ]
 rw [e, ab1]
 exact congrArg some (aKH l x)
theorem aJ7 {l : List acO} (hl : l.length ≤ 1000000) (x : acO) : adl l x = some (aFh x l) := by
 unfold adl adN aed aeb
 have e : acj (fun (v5 : Int) kk7 => acV l (acx l) x.1 x.2.1 x.2.2.1 x.2.2.2.1.1 x.2.2.2.1.2 x.2.2.2.2.1.1 x.2.2.2.2.1.2 x.2.2.2.2.2 v5 (fun u6 => kk7 u6) (fun z3 => some z3) (fun _ => some (-1 : Int))) (0 : Int) = some (match l.findIdx? (fun a => decide (x = a)) with | some j => (j : Int) | none => -1) := by
  refine (af7 l (fun a => decide (x = a)) (fun z => some z) (some (-1)) (fun i a hi ha kn => ?_) (fun kn => ?_)).trans (aPp _ some)
  ·try dsimp only
   unfold acV
   have e : ((aeH x.1 a.1) && ((aeH x.2.1 a.2.1) && ((aeH x.2.2.1 a.2.2.1) && ((aeH x.2.2.2.1.1 a.2.2.2.1.1) && ((aeH x.2.2.2.1.2 a.2.2.2.1.2) && ((aeH x.2.2.2.2.1.1 a.2.2.2.2.1.1) && ((aeH x.2.2.2.2.1.2 a.2.2.2.2.1.2) && ((aeH x.2.2.2.2.2 a.2.2.2.2.2) && true)))))))) = decide (x = a) := by
    rw [Bool.eq_iff_iff]; simp [aeH, Prod.ext_iff, and_assoc]
   rw [acm hi, acg ha, aci hi (by omega), adJ, e]
  ·try dsimp only
   unfold acV
   rw [acJ]
 rw [e, ab1]
 exact congrArg some (aKH l x)
def aPS (b : acq) : List Int := b.2.1.map fun g => g.1
def ahK {α : Type} [DecidableEq α] (x y : List α) (w : α → Bool) : Bool := x.all fun a => !w a || aFh a y
def aRq (s b : acq) : Bool :=
 ahK s.2.2.2.2.1 b.2.2.2.2.1 (fun _ => true) && (decide (s.1 = b.1) && (ahK s.2.1 b.2.1 (fun _ => true) && (ahK s.2.2.1 b.2.2.1 (fun u => (aPS s).contains u.1) && (ahK b.2.2.1 s.2.2.1 (fun u => (aPS s).contains u.1) &&
  (ahK s.2.2.2.1 b.2.2.2.1 (fun u => (aPS s).contains u.1) && ahK b.2.2.2.1 s.2.2.2.1 (fun u => (aPS s).contains u.1))))))
section
variable {ρ : Type}
theorem awz {α : Type} [DecidableEq α] (x y : List α) (w : α → Bool) (X Y KF : Option ρ) {f : Int → (Int → Option ρ) → Option ρ}
 (h : ∀ (i : Nat) (a : α), i < x.length → x[i]? = some a → ∀ kn, f i kn = if !(!w a || aFh a y) then (ifb (!(ige (i : Int) 0)) X KF) else kn ((i : Int) + 1))
 (hn : ∀ kn, f x.length kn = Y) : acj f 0 = if ahK x y w then Y else KF := by
 refine (agG x (fun a => !(!w a || aFh a y)) (fun z => ifb (!(ige z 0)) X KF) KF Y (fun j => by rw [show ige (j : Int) 0 = true from decide_eq_true (by omega)]; rfl) h hn).trans ?_
 unfold ahK
 rw [List.all_eq_not_any_not]
 cases x.any fun a => !(!w a || aFh a y) <;> rfl
theorem aS9 : @amH ρ = @ah0 ρ := rfl
theorem aEb {x y : List Int} (hl : x.length = y.length) (hx : x.length ≤ 1000000) (k0 : Bool → Option ρ) (K : Option ρ) :
 acj (fun (v30 : Int) kk32 => ah0 x y (acx x) v30 (fun u31 => kk32 u31) k0 (fun _ => K)) (0 : Int) = if x = y then K else k0 false := by
 refine (al6 x (fun i a => if y[i]? = some a then none else some false) k0 K (fun i a hi ha kn => ?_) (fun kn => ?_)).trans ?_
 ·try dsimp only
  unfold ah0
  have hm : y[i]? = some y[i] := List.getElem?_eq_getElem (by omega)
  rw [acm hi, acg ha, acg hm, aci hi (by omega), hm, adJ]
  by_cases h : a = y[i]
  ·simp [ine, h]
  ·have h' : ¬ y[i] = a := fun e => h e.symm
   simp [ine, h, h']
 ·try dsimp only
  unfold ah0
  rw [acJ]
 ·cases h : aeN (fun i a => if y[i]? = some a then none else some false) 0 x with
  | none => rw [if_pos (aOU hl h)]
  | some b =>
    obtain ⟨h1, h2⟩ := aOT h
    rw [if_neg h2, h1]
theorem aOV {l : List Cmp} (hl : l.length ≤ 1000) (c : Cmp) (hA : c.2.2.1.length ≤ 1000) (hB : c.2.2.2.1.length ≤ 1000) (k0 : Int → Option ρ) (K1 KF : Option ρ) (hk : ∀ j : Nat, k0 (j : Int) = K1) :
 acj (fun (v41 : Int) kk43 => ajU l (acx l) c.1 c.2.1 c.2.2.1 c.2.2.2.1 c.2.2.2.2.1 c.2.2.2.2.2.1 c.2.2.2.2.2.2.1 c.2.2.2.2.2.2.2 v41 (fun u42 => kk43 u42) k0 (fun _ => KF)) (0 : Int) = if aFh c l then K1 else KF := by
 refine (agG l (fun d => decide (c = d)) k0 K1 KF hk (fun i d hi hd kn => ?_) (fun kn => ?_)).trans rfl
 ·try dsimp only
  unfold ajU
  have hsplit : (c = d) ↔ (c.1 = d.1 ∧ c.2.1 = d.2.1 ∧ c.2.2.2.2.1 = d.2.2.2.2.1 ∧ c.2.2.2.2.2.1 = d.2.2.2.2.2.1 ∧ (c.2.2.2.2.2.2.1 = d.2.2.2.2.2.2.1 ∧ c.2.2.2.2.2.2.2 = d.2.2.2.2.2.2.2) ∧ c.2.2.1 = d.2.2.1 ∧ c.2.2.2.1 = d.2.2.2.1) := by
   simp only [Prod.ext_iff]
   constructor
   ·rintro ⟨a1, a2, a3, a4, a5, a6, a7, a8⟩; exact ⟨a1, a2, a5, a6, ⟨a7, a8⟩, a3, a4⟩
   ·rintro ⟨a1, a2, a5, a6, ⟨a7, a8⟩, a3, a4⟩; exact ⟨a1, a2, a3, a4, a5, a6, a7, a8⟩
  have hno : ∀ {P : Prop}, ¬ P → (c = d → P) → (if decide (c = d) = true then k0 (i : Int) else kn ((i : Int) + 1)) = kn ((i : Int) + 1) := fun h1 h2 => by
   rw [if_neg]
   intro h
   exact h1 (h2 (of_decide_eq_true h))
  rw [acm hi, acg hd, aci hi (by omega)]
  by_cases a1 : c.1 = d.1
  case neg => rw [hno a1 (fun e => (hsplit.1 e).1), ack (beq_eq_false_iff_ne.2 a1)]
  rw [acv (beq_iff_eq.2 a1)]
  by_cases a2 : c.2.1 = d.2.1
  case neg => rw [hno a2 (fun e => (hsplit.1 e).2.1), ack (beq_eq_false_iff_ne.2 a2)]
  rw [acv (beq_iff_eq.2 a2)]
  by_cases a3 : c.2.2.2.2.1 = d.2.2.2.2.1
  case neg => rw [hno a3 (fun e => (hsplit.1 e).2.2.1), ack (beq_eq_false_iff_ne.2 a3)]
  rw [acv (beq_iff_eq.2 a3)]
  by_cases a4 : c.2.2.2.2.2.1 = d.2.2.2.2.2.1
  case neg => rw [hno a4 (fun e => (hsplit.1 e).2.2.2.1), ack (beq_eq_false_iff_ne.2 a4)]
  rw [acv (beq_iff_eq.2 a4)]
  by_cases a5 : c.2.2.2.2.2.2.1 = d.2.2.2.2.2.2.1 ∧ c.2.2.2.2.2.2.2 = d.2.2.2.2.2.2.2
  case neg => rw [hno a5 (fun e => (hsplit.1 e).2.2.2.2.1), ack (by simp only [aeH, Bool.and_true, Bool.and_eq_false_iff, decide_eq_false_iff_not]; exact Decidable.not_and_iff_or_not.1 a5)]
  rw [acv (by simp [aeH, a5.1, a5.2]), acL, acL, acL, acL]
  have rest : ∀ X Y : Option ρ, (c.2.2.1 = d.2.2.1) → (if decide (c = d) = true then k0 (i : Int) else kn ((i : Int) + 1)) = (if c.2.2.2.1 = d.2.2.2.1 then k0 (i : Int) else kn ((i : Int) + 1)) := by
   intro _ _ h
   by_cases g : c.2.2.2.1 = d.2.2.2.1
   ·rw [if_pos (decide_eq_true (hsplit.2 ⟨a1, a2, a3, a4, a5, h, g⟩)), if_pos g]
   ·rw [if_neg g]; exact hno g (fun e => (hsplit.1 e).2.2.2.2.2.2)
  by_cases l1 : c.2.2.1.length = d.2.2.1.length
  case neg =>
   rw [hno l1 (fun e => by rw [e]), acv (bne_iff_ne.2 (by omega))]
  rw [ack (by rw [l1]; exact bne_self_eq_false' _)]
  have e3 := aEb (ρ := ρ) l1 (by omega)
  rw [acL] at e3
  rw [e3]
  by_cases g1 : c.2.2.1 = d.2.2.1
  case neg => rw [if_neg g1, acM, hno g1 (fun e => (hsplit.1 e).2.2.2.2.2.1)]
  rw [if_pos g1, rest none none g1]
  by_cases l2 : c.2.2.2.1.length = d.2.2.2.1.length
  case neg =>
   rw [acv (bne_iff_ne.2 (by omega)), if_neg (fun e => l2 (by rw [e]))]
  rw [ack (by rw [l2]; exact bne_self_eq_false' _), aS9]
  have e4 := aEb (ρ := ρ) l2 (by omega)
  rw [acL] at e4
  rw [e4, acM]
 ·try dsimp only
  unfold ajU
  rw [acJ]
theorem aS8 : @ahZ ρ = @agP ρ := rfl
theorem aS7 : @ac7 ρ = @adE ρ := rfl
theorem aTR {x y : List acO} (hx : x.length ≤ 1000) (hy : y.length ≤ 1000) (X Y KF : Option ρ) : acj (fun (v225 : Int) kk227 => ajT x (acx x) y v225 (fun u226 => kk227 u226) (fun z => ifb (!(ige z 0)) X KF) (fun _ => Y)) (0 : Int) = if ahK x y (fun _ => true) then Y else KF := by
 refine awz x y (fun _ => true) X Y KF (fun i a hi ha kn => ?_) (fun kn => ?_)
 ·try dsimp only
  unfold ajT
  rw [acm hi, acg ha, aJ7 (by omega), ab1, aci hi (by omega), adJ]
  simp
 ·try dsimp only
  unfold ajT
  rw [acJ]
theorem aQV {x y : List (Int × Int)} (hx : x.length ≤ 1000) (hy : y.length ≤ 1000) (ids : List Int) (X Y KF : Option ρ) : acj (fun (v225 : Int) kk227 => agP x (acx x) (aB1 ids) y v225 (fun u226 => kk227 u226) (fun z => ifb (!(ige z 0)) X KF) (fun _ => Y)) (0 : Int) = if ahK x y (fun u => ids.contains u.1) then Y else KF := by
 refine awz x y (fun u => ids.contains u.1) X Y KF (fun i a hi ha kn => ?_) (fun kn => ?_)
 ·try dsimp only
  unfold agP
  rw [acm hi, acg ha, apf, aJ6 (by omega), ab1]
  by_cases h : ids.contains a.1 = true
  ·rw [if_pos h, aei, aci hi (by omega), adJ, h]
   simp
  ·rw [if_neg h, aci hi (by omega)]
   have h' := Bool.not_eq_true _ ▸ h
   rw [h']
   simp
 ·try dsimp only
  unfold agP
  rw [acJ]
theorem aQU {x y : List ayO} (hx : x.length ≤ 1000) (hy : y.length ≤ 1000) (ids : List Int) (X Y KF : Option ρ) : acj (fun (v225 : Int) kk227 => adE x (acx x) (aB1 ids) y v225 (fun u226 => kk227 u226) (fun z => ifb (!(ige z 0)) X KF) (fun _ => Y)) (0 : Int) = if ahK x y (fun u => ids.contains u.1) then Y else KF := by
 refine awz x y (fun u => ids.contains u.1) X Y KF (fun i a hi ha kn => ?_) (fun kn => ?_)
 ·try dsimp only
  unfold adE
  rw [acm hi, acg ha, apf, aHf (by omega), ab1]
  by_cases h : ids.contains a.1 = true
  ·rw [if_pos h, aei, aci hi (by omega), adJ, h]
   simp
  ·rw [if_neg h, aci hi (by omega)]
   have h' := Bool.not_eq_true _ ▸ h
   rw [h']
   simp
 ·try dsimp only
  unfold adE
  rw [acJ]
theorem aTQ {x y : List ayO} (hx : x.length ≤ 1000) (hy : y.length ≤ 1000) (ids : List Int) (k : Bool → Option ρ) : acj (fun (v225 : Int) kk227 => adE x (acx x) (aB1 ids) y v225 (fun u226 => kk227 u226) (fun z => k (!(ige z 0))) (fun _ => k true)) (0 : Int) = k (ahK x y (fun u => ids.contains u.1)) := by
 have h := aQU (ρ := ρ) hx hy ids (k true) (k true) (k false)
 have e : (fun z : Int => ifb (!(ige z 0)) (k true) (k false)) = fun z => k (!(ige z 0)) := by
  funext z
  cases (!(ige z 0)) <;> rfl
 rw [e] at h
 rw [h]
 cases ahK x y (fun u => ids.contains u.1) <;> rfl
theorem aTS {x y : List Cmp} (hx : x.length ≤ 1000) (hp : ∀ c ∈ x, c.2.2.1.length ≤ 1000 ∧ c.2.2.2.1.length ≤ 1000) (hy : y.length ≤ 1000) (K : Option Bool) : acj (fun (v228 : Int) kk230 => ajV x (acx x) y v228 (fun u229 => kk230 u229) (fun z44 => some z44) (fun _ => K)) (0 : Int) = if (x.all fun c => aFh c y) = true then K else some false := by
 refine (agG x (fun c => !aFh c y) (fun _ => some false) (some false) K (fun _ => rfl) (fun i c hi hc kn => ?_) (fun kn => ?_)).trans ?_
 rotate_left
 ·try dsimp only
  unfold ajV
  rw [acJ]
 ·rw [List.all_eq_not_any_not]
  cases x.any fun c => !aFh c y <;> rfl
 ·try dsimp only
  unfold ajV
  have h := hp c (List.mem_of_getElem? hc)
  rw [acm hi, acg hc]
  refine (aOV hy c h.1 h.2 _ (kn ((i : Int) + 1)) (some false) (fun j => by rw [show ige (j : Int) 0 = true from decide_eq_true (by omega), aci hi (by omega)]; rfl)).trans ?_
  cases aFh c y <;> rfl
end
theorem part_ok {s b : acq} (hs : ahx s) (hb : ahx b) : auH s b = some (aRq s b) := by
 have g1 := hs.gauges; have g2 := hs.uses; have g3 := hs.loans; have g4 := hs.compares
 have b1 := hb.gauges; have b2 := hb.uses; have b3 := hb.loans; have b4 := hb.compares
 unfold auH aFy aRq
 rw [aS8, aS7]
 refine (ada s.2.1 (fun i => aB1 (aPS (s.1, s.2.1.take i, s.2.2))) (some _) rfl (fun i g hi hg kn => ?_) (fun kn => ?_))
 ·try dsimp only
  unfold amI
  rw [acm hi, acg hg, aci hi (by omega)]
  unfold aPS
  dsimp only
  rw [take_succ hg, List.map_append, List.map_singleton, aof]
 ·try dsimp only
  unfold amI
  rw [acJ, List.take_length]
  try dsimp only
  rw [show aPS (s.1, s.2.1, s.2.2) = aPS s from rfl]
  refine (aTS g4 hs.piles b4 _).trans ?_
  rw [show (ahK s.2.2.2.2.1 b.2.2.2.2.1 fun _ => true) = s.2.2.2.2.1.all fun c => aFh c b.2.2.2.2.1 from rfl]
  by_cases hc : (s.2.2.2.2.1.all fun c => aFh c b.2.2.2.2.1) = true
  case neg => rw [if_neg hc, Bool.eq_false_iff.2 hc]; rfl
  rw [if_pos hc, hc, Bool.true_and]
  by_cases hf : s.1 = b.1
  case neg =>
   have ef : (aeH s.1.1 b.1.1 && (aeH s.1.2 b.1.2 && true)) = false := by
    rw [Prod.ext_iff] at hf
    simp [aeH]
    omega
   rw [ef, acM, decide_eq_false hf]
   rfl
  have ef : (aeH s.1.1 b.1.1 && (aeH s.1.2 b.1.2 && true)) = true := by simp [aeH, hf]
  rw [ef, aei, decide_eq_true hf, Bool.true_and]
  refine (aTR g1 b1 _ _ _).trans ?_
  cases ahK s.2.1 b.2.1 fun _ => true
  case false => rfl
  rw [if_pos rfl, Bool.true_and]
  refine (aQV g2 b2 _ _ _ _).trans ?_
  cases ahK s.2.2.1 b.2.2.1 fun u => (aPS s).contains u.1
  case false => rfl
  rw [if_pos rfl, Bool.true_and]
  refine (aQV b2 g2 _ _ _ _).trans ?_
  cases ahK b.2.2.1 s.2.2.1 fun u => (aPS s).contains u.1
  case false => rfl
  rw [if_pos rfl, Bool.true_and]
  refine (aQU g3 b3 _ _ _ _).trans ?_
  cases ahK s.2.2.2.1 b.2.2.2.1 fun u => (aPS s).contains u.1
  case false => rfl
  rw [if_pos rfl, Bool.true_and]
  exact aTQ b3 g3 _ some
end Go.Proofs.ZzM
end
noncomputable section
namespace Go.Proofs.ZzM
open Go Go.Am
def an4 (x : List Int) (y : List Int) (l : Lk) : List Int := if gv x l.2.1 = afr then y else y.set l.1.toNat (min (gv y l.1) (l.2.2 + gv x l.2.1))
def aJE (L : List Lk) (N : Nat) (x : List Int) : List Int := L.foldl (an4 x) (List.replicate N afr)
def exL (L : List Lk) (N : Nat) (to : Int) : Nat → List Int
 | 0 => (List.replicate N afr).set to.toNat 0
 | k + 1 => aJE L N (exL L N to k)
def ai9 (L : List Lk) (N : Nat) (to : Int) (most : Nat) : List (List Int) := (List.range (most + 1)).map (exL L N to)
section
variable {L : List Lk} {N : Nat}
theorem aEt (x y : List Int) (l : Lk) : (an4 x y l).length = y.length := by unfold an4; split <;> simp
theorem awl (x : List Int) : ∀ (M : List Lk) (y : List Int), (M.foldl (an4 x) y).length = y.length
 | [], y => rfl
 | l :: M, y => by rw [List.foldl_cons, awl x M, aEt]
theorem aN1 (x : List Int) : (aJE L N x).length = N := by unfold aJE; rw [awl]; simp
theorem aLq (to : Int) (k : Nat) : (exL L N to k).length = N := by
 cases k with
 | zero => simp [exL]
 | succ k => exact aN1 _
def Lim (B : Int) (x : List Int) : Prop := ∀ v : Int, gv x v ≠ afr → -B ≤ gv x v ∧ gv x v ≤ B
theorem gv_out {x : List Int} {v : Int} (h : ¬ v.toNat < x.length) : gv x v = 0 := by
 unfold gv
 rw [List.getElem?_eq_none (by omega)]
 rfl
theorem aPM {B : Int} (hB : 0 ≤ B) : Lim B (List.replicate N afr) := by
 intro v hv
 by_cases h : v.toNat < N
 ·exfalso; apply hv
  unfold gv
  rw [List.getElem?_replicate, if_pos h]
  rfl
 ·rw [gv_out (by simpa using h)]; omega
theorem aPL {B : Int} {y : List Int} (hy : Lim B y) {u : Int} (hu : 0 ≤ u) (hl : u.toNat < y.length) {a : Int} (ha : a ≠ afr → -B ≤ a ∧ a ≤ B) : Lim B (y.set u.toNat a) := by
 intro v hv
 by_cases h : v.toNat = u.toNat
 ·have : gv (y.set u.toNat a) v = a := by
   unfold gv
   rw [h, List.getElem?_set_self hl]
   rfl
  rw [this] at hv ⊢
  exact ha hv
 ·have : gv (y.set u.toNat a) v = gv y v := by
   unfold gv
   rw [List.getElem?_set_ne (fun e => h e.symm)]
  rw [this] at hv ⊢
  exact hy v hv
theorem aRE (hS : afo L N) {B : Int} (hB : 0 ≤ B) (hB2 : B ≤ 1000000000000000000) {x y : List Int} (hx : Lim B x) (hy : Lim (B + 4503599627370496) y) (hl : y.length = N) {l : Lk} (hm : l ∈ L) : Lim (B + 4503599627370496) (an4 x y l) := by
 unfold an4
 split
 ·exact hy
 ·rename_i hf
  have h1 := hS.inr l hm
  have h2 := hS.most l hm
  have h3 := hx _ hf
  refine aPL hy h1.1.1 (by omega) fun ha => ?_
  by_cases h4 : gv y l.1 = afr
  ·rw [h4] at ha ⊢
   have : min afr (l.2.2 + gv x l.2.1) = l.2.2 + gv x l.2.1 := by unfold afr; omega
   rw [this]; omega
  ·have := hy _ h4
   omega
theorem aMy (hS : afo L N) {B : Int} (hB : 0 ≤ B) (hB2 : B ≤ 1000000000000000000) {x : List Int} (hx : Lim B x) : ∀ (M : List Lk), (∀ l ∈ M, l ∈ L) → ∀ y : List Int, y.length = N → Lim (B + 4503599627370496) y → Lim (B + 4503599627370496) (M.foldl (an4 x) y)
 | [], _, y, _, hy => hy
 | l :: M, hM, y, hl, hy => by
   rw [List.foldl_cons]
   exact aMy hS hB hB2 hx M (fun m hm => hM m (by simp [hm])) _ (by rw [aEt, hl]) (aRE hS hB hB2 hx hy hl (hM l (by simp)))
theorem aLh (hS : afo L N) {to : Int} (ht : 0 ≤ to ∧ to < N) : ∀ k : Nat, k ≤ 200 → Lim (k * 4503599627370496) (exL L N to k)
 | 0, _ => by
   unfold exL
   exact aPL (aPM (by omega)) ht.1 (by simp; omega) (fun _ => by omega)
 | k + 1, hk => by
   have := aMy hS (B := k * 4503599627370496) (by omega) (by omega) (aLh hS ht k (by omega)) L (fun _ h => h) (List.replicate N afr) (by simp) (aPM (by omega))
   unfold exL aJE
   have e : (((k + 1 : Nat) : Int) * 4503599627370496) = (k : Int) * 4503599627370496 + 4503599627370496 := by push_cast; omega
   rw [e]
   exact this
theorem aJB {ρ : Type} (hN : N ≤ 1000) (K : List Int → Option ρ) {f : Int × List Int → (Int × List Int → Option ρ) → Option ρ}
 (hf : ∀ (v : Int × List Int) kk, f v kk = apW (N : Int) v.1 v.2 (fun u34 u35 => kk (u34, u35)) K) : acj f ((0 : Int), List.replicate N (0 : Int)) = K (List.replicate N afr) := by
 refine ada (List.replicate N (0 : Int)) (fun i => List.replicate i afr ++ List.replicate (N - i) (0 : Int)) _ (by simp) (fun i a hi ha kn => ?_) (fun kn => ?_)
 ·rw [hf]
  dsimp only
  unfold apW
  rw [List.length_replicate] at hi
  have hlen : (List.replicate i afr ++ List.replicate (N - i) (0 : Int)).length = N := by simp; omega
  have e1 : ilt (i : Int) (N : Int) = true := decide_eq_true (by omega)
  rw [acv e1, show adD (List.replicate i afr ++ List.replicate (N - i) (0 : Int)) = (N : Int) by unfold adD; rw [hlen], af8 (by omega) (by omega), agK (by rw [hlen]; omega), acs (by omega) (by omega)]
  congr 2
  rw [Int.toNat_natCast]
  rw [List.set_append_right _ _ (by simp), List.length_replicate, Nat.sub_self]
  rw [show N - i = (N - (i + 1)) + 1 by omega, List.replicate_succ, List.set_cons_zero, List.replicate_succ']
  simp
 ·rw [hf]
  dsimp only
  unfold apW
  rw [List.length_replicate]
  have e1 : ilt (N : Int) (N : Int) = false := decide_eq_false (by omega)
  rw [ack e1]
  simp
theorem okN (hN : N ≤ 1000) {ρ : Type} (x : Option ρ) : acS ((ile (0 : Int) (N : Int)) && (acK (Int.toNat (N : Int)))) x = x := by
 rw [adI]
 rw [Int.toNat_natCast, acn (by omega), Bool.and_true]
 exact decide_eq_true (by omega)
theorem aPK {ρ : Type} (hS : afo L N) {B : Int} (hB : 0 ≤ B) (hB2 : B ≤ 1000000000000000000) {x : List Int} (hx : Lim B x) (hxl : x.length = N) (K : List Int → Option ρ) :
 acj (fun (v20 : (Val (.pair tI (.slice tI)))) kk23 => atF x L (acx L) v20.1 v20.2 (fun u21 u22 => kk23 (u21, u22)) K) ((0 : Int), List.replicate N afr) = K (aJE L N x) := by
 have hl3 := hS.len
 refine ada L (fun i => (L.take i).foldl (an4 x) (List.replicate N afr)) _ rfl (fun i l hi hl kn => ?_) (fun kn => ?_)
 ·try dsimp only
  unfold atF
  have hm := List.mem_of_getElem? hl
  have h1 := hS.inr l hm
  have h2 := hS.most l hm
  rw [acm hi, acg hl, apj h1.2.1 (by omega), take_succ hl, List.foldl_append, aci hi (by omega)]
  have hlen : ((L.take i).foldl (an4 x) (List.replicate N afr)).length = N := by rw [awl]; simp
  generalize (L.take i).foldl (an4 x) (List.replicate N afr) = y at hlen ⊢
  by_cases hf : gv x l.2.1 = afr
  ·rw [ack (by rw [hf]; rfl)]
   simp only [List.foldl_cons, List.foldl_nil]
   unfold an4
   rw [if_pos hf]
  ·have h3 := hx _ hf
   rw [acv (bne_iff_ne.2 hf), show adD y = (N : Int) by unfold adD; rw [hlen], af8 h1.1.1 h1.1.2, agK (by omega), apj h1.2.1 (by omega), acs (by omega) (by omega), af8 h1.1.1 h1.1.2, agK (by omega), aci hi (by omega)]
   simp only [List.foldl_cons, List.foldl_nil]
   unfold an4
   rw [if_neg hf, aA3]
 ·try dsimp only
  unfold atF
  rw [acJ, List.take_length]
  rfl
theorem aRX {ρ : Type} : @aFT ρ = @apW ρ := rfl
theorem ag4 (to : Int) (m : Nat) : (ai9 L N to m).length = m + 1 := by simp [ai9]
theorem awk {to : Int} {m k : Nat} (hk : k ≤ m) : (ai9 L N to m)[k]? = some (exL L N to k) := by
 unfold ai9
 rw [List.getElem?_map, List.getElem?_range (by omega)]
 rfl
theorem aRW (hS : afo L N) {to : Int} (ht : 0 ≤ to ∧ to < N) {most : Nat} (hm : most ≤ 100) : apo ((N : Int), L) to (most : Int) = some (ai9 L N to most) := by
 have hN := hS.n60
 unfold apo azZ
 dsimp only
 rw [okN (by omega), Int.toNat_natCast]
 refine (aJB (by omega) _ (fun v kk => by rw [acL, List.length_replicate])).trans ?_
 rw [show adD (List.replicate N afr) = (N : Int) by simp [adD], af8 ht.1 ht.2, agK (by simp; omega)]
 refine ada (List.replicate most ()) (fun i => ai9 L N to i) _ (by simp [ai9, exL]) (fun i a hi ha kn => ?_) (fun kn => ?_)
 ·try dsimp only
  unfold ayB
  rw [List.length_replicate] at hi
  have e1 : ilt (i : Int) (most : Int) = true := decide_eq_true (by omega)
  rw [acv e1, acL, ag4]
  have e2 : (((i + 1 : Nat) : Int) - 1) = (i : Int) := by omega
  rw [e2, acs (by omega) (by omega), show adD (ai9 L N to i) = ((i + 1 : Nat) : Int) by unfold adD; rw [ag4], af8 (by omega) (by omega), Int.toNat_natCast, amx (awk (Nat.le_refl i)), okN (by omega), Int.toNat_natCast]
  rw [aRX]
  refine (aJB (by omega) _ (fun v kk => by rw [acL, List.length_replicate])).trans ?_
  refine (aPK hS (B := i * 4503599627370496) (by omega) (by omega) (aLh hS ht i (by omega)) (aLq _ _) _).trans ?_
  rw [adI (acn (by simp only [ag4, List.length_singleton]; omega)), acs (by omega) (by omega)]
  congr 2
  unfold ai9
  rw [List.range_succ (n := i + 1), List.map_append]
  rfl
 ·try dsimp only
  unfold ayB
  rw [List.length_replicate]
  have e1 : ilt (most : Int) (most : Int) = false := decide_eq_false (by omega)
  rw [ack e1]
def aB8 (L : List Lk) (x : List Int) (good : Int → Bool) (u sum : Int) : Option Nat := L.findIdx? fun l => l.1 == u && (decide (gv x l.2.1 ≠ afr) && good (sum + l.2.2 + gv x l.2.1))
def alq (L : List Lk) (rest : Nat → List Int) (good : Int → Bool) : Nat → Int → Int → List Int → List Int
 | 0, _, _, out => out
 | k + 1, u, sum, out => match aB8 L (rest k) good u sum with
   | some i => alq L rest good k (L[i]?.getD (0, 0, 0)).2.1 (sum + (L[i]?.getD (0, 0, 0)).2.2) (out ++ [(i : Int)])
   | none => alq L rest good k u sum out
def folL {ρ : Type} (good : Int → Bool) (c0 : Int) (c1 : List (List Int)) (c2 : List Lk) (c3 : Int) (v0 : Int) (v1 : Int) (v2 : Int) (v3 : List Int) (kn : Int → Int → Int → List Int → Option ρ) (k0 : Int × Int × List Int → Option ρ) : Option ρ :=
 ifb (ilt v2 c3) (adO c2 v2 fun e7 => ifb (ieq e7.1 v0) (ck (c0 - (1 : Int)) fun n8 => adO c1 n8 fun e9 => adO e9 e7.2.1 fun e10 => ifb (ine e10 (1152921504606846976 : Int)) (ck (v1 + e7.2.2) fun n11 => ck (c0 - (1 : Int)) fun n12 => adO c1 n12 fun e13 => adO e13 e7.2.1 fun e14 => ck (n11 + e14) fun n15 => ifb (good n15) (acS (acK ((List.length v3) + (List.length ([v2])))) (ck (v1 + e7.2.2) fun n16 => k0 (e7.2.1, n16, (v3 ++ ([v2]))))) (ck (v2 + (1 : Int)) fun n17 => kn v0 v1 n17 v3)) (ck (v2 + (1 : Int)) fun n18 => kn v0 v1 n18 v3)) (ck (v2 + (1 : Int)) fun n19 => kn v0 v1 n19 v3)) (k0 (v0, v1, v3))
theorem aTs {ρ : Type} (hS : afo L N) (good : Int → Bool) {rest : List (List Int)} {k : Nat} {x : List Int} (hr : rest[k]? = some x) (hk : k ≤ 100) (hx : Lim 1000000000000000000 x) (hxl : x.length = N) {u sum : Int} (hs : -1000000000000000000 ≤ sum ∧ sum ≤ 1000000000000000000) {out : List Int} (ho : out.length ≤ 1000)
 (K : Int × Int × List Int → Option ρ) : acj (fun (v : Int × Int × Int × List Int) kk => folL good ((k + 1 : Nat) : Int) rest L (acx L) v.1 v.2.1 v.2.2.1 v.2.2.2 (fun a b c d => kk (a, b, c, d)) K) (u, sum, (0 : Int), out) =
  match aB8 L x good u sum with | some i => K ((L[i]?.getD (0, 0, 0)).2.1, sum + (L[i]?.getD (0, 0, 0)).2.2, out ++ [(i : Int)]) | none => K (u, sum, out) := by
 have hl3 := hS.len
 refine afE (fun v => ∃ i : Nat, i ≤ L.length ∧ v = (u, sum, (i : Int), out) ∧ ∀ j l, j < i → L[j]? = some l → (l.1 == u && (decide (gv x l.2.1 ≠ afr) && good (sum + l.2.2 + gv x l.2.1))) = false) (fun v => L.length - v.2.2.1.toNat) ?_ ⟨0, by omega, rfl, fun j l h => by omega⟩
 rintro v ⟨i, hi, rfl, hp⟩
 have e0 : (((k + 1 : Nat) : Int) - 1) = (k : Int) := by omega
 rcases Nat.lt_or_ge i L.length with h2 | h2
 ·have hl : L[i]? = some L[i] := List.getElem?_eq_getElem h2
  generalize L[i] = l at hl
  have hm := List.mem_of_getElem? hl
  have h1 := hS.inr l hm
  have h4 := hS.most l hm
  have hstep : (l.1 == u && (decide (gv x l.2.1 ≠ afr) && good (sum + l.2.2 + gv x l.2.1))) = false → ∃ y, (∃ i : Nat, i ≤ L.length ∧ y = (u, sum, (i : Int), out) ∧ ∀ j l, j < i → L[j]? = some l → (l.1 == u && (decide (gv x l.2.1 ≠ afr) && good (sum + l.2.2 + gv x l.2.1))) = false) ∧ (L.length - y.2.2.1.toNat < L.length - ((u, sum, (i : Int), out) : Int × Int × Int × List Int).2.2.1.toNat) ∧ y = (u, sum, (i : Int) + 1, out) := fun hf =>
   ⟨_, ⟨i + 1, h2, by rw [show ((i + 1 : Nat) : Int) = (i : Int) + 1 by push_cast; rfl], fun j m hj hm => by
    rcases Nat.lt_succ_iff_lt_or_eq.1 hj with h | rfl
    ·exact hp j m h hm
    ·rw [hl] at hm; cases hm; exact hf⟩, by simp; omega, rfl⟩
  by_cases hf : (l.1 == u && (decide (gv x l.2.1 ≠ afr) && good (sum + l.2.2 + gv x l.2.1))) = true
  ·refine .inl fun kn => ?_
   have hfi : aB8 L x good u sum = some i := by
    unfold aB8
    rw [List.findIdx?_eq_some_iff_getElem]
    obtain ⟨hh, rfl⟩ := List.getElem?_eq_some_iff.1 hl
    exact ⟨h2, hf, fun j hj => by have := hp j _ hj (List.getElem?_eq_getElem (by omega)); rw [this]; simp⟩
   rw [hfi]
   simp only [Bool.and_eq_true, beq_iff_eq, decide_eq_true_eq] at hf
   have h5 := hx _ hf.2.1
   dsimp only
   unfold folL
   rw [acm h2, acg hl, acv (by simp [hf.1]), e0, acs (by omega) (by omega), acg hr, apj h1.2.1 (by omega), acv (bne_iff_ne.2 hf.2.1), acs (by omega) (by omega), acs (by omega) (by omega), acg hr, apj h1.2.1 (by omega), acs (by omega) (by omega), acv hf.2.2,
    adI (acn (by simp; omega)), acs (by omega) (by omega), hl]
   rfl
  ·have hf' := Bool.not_eq_true _ ▸ hf
   obtain ⟨y, hy1, hy2, rfl⟩ := hstep hf'
   refine .inr ⟨_, hy1, hy2, fun kn => ?_⟩
   dsimp only
   unfold folL
   rw [acm h2, acg hl, aci h2 (by omega)]
   by_cases g1 : l.1 = u
   ·rw [acv (by simp [g1]), e0, acs (by omega) (by omega), acg hr, apj h1.2.1 (by omega)]
    by_cases g2 : gv x l.2.1 = afr
    ·rw [ack (by rw [g2]; rfl)]
    ·have h5 := hx _ g2
     have g3 : good (sum + l.2.2 + gv x l.2.1) = false := by simpa [g1, g2] using hf'
     rw [acv (bne_iff_ne.2 g2), acs (by omega) (by omega), acs (by omega) (by omega), acg hr, apj h1.2.1 (by omega), acs (by omega) (by omega), ack g3]
   ·rw [ack (by simpa using g1)]
 ·refine .inl fun kn => ?_
  obtain rfl : i = L.length := by omega
  have hfi : aB8 L x good u sum = none := by
   unfold aB8
   rw [List.findIdx?_eq_none_iff]
   intro l hl
   obtain ⟨j, hj, rfl⟩ := List.mem_iff_getElem.1 hl
   exact hp j _ hj (List.getElem?_eq_getElem hj)
  rw [hfi]
  dsimp only
  unfold folL
  rw [acJ]
def aTr {ρ : Type} (good : Int → Bool) (c0 : List (List Int)) (c6 : List Lk) (v0 : Int) (v1 : Int) (v2 : Int) (v3 : List Int) (kn : Int → Int → Int → List Int → Option ρ) (k0 : List Int → Option ρ) : Option ρ :=
 ifb (igt v1 (0 : Int)) (acj (fun (v22 : Int × Int × Int × List Int) kk27 => folL good v1 c0 c6 (acx c6) v22.1 v22.2.1 v22.2.2.1 v22.2.2.2 (fun u23 u24 u25 u26 => kk27 (u23, u24, u25, u26)) (fun z20 => ck (v1 - (1 : Int)) fun n21 => kn z20.1 n21 z20.2.1 z20.2.2)) (v0, v2, (0 : Int), v3)) (k0 v3)
theorem aSb {ρ : Type} (c0 : List (List Int)) (c4 : Int) (c6 : List Lk) : @akM ρ c0 c4 c6 = aTr (fun n => ieq n c4) c0 c6 := rfl
theorem aTq {ρ : Type} (hS : afo L N) (good : Int → Bool) {rest : List (List Int)} {R : Nat → List Int} {k0 : Nat} (hk : k0 ≤ 100) (hr : ∀ k, k < k0 → rest[k]? = some (R k)) (hx : ∀ k, k < k0 → Lim 900000000000000000 (R k) ∧ (R k).length = N) (u : Int) (K : List Int → Option ρ) :
 acj (fun (v : Int × Int × Int × List Int) kk => aTr good rest L v.1 v.2.1 v.2.2.1 v.2.2.2 (fun a b c d => kk (a, b, c, d)) K) (u, (k0 : Int), (0 : Int), []) = K (alq L R good k0 u 0 []) := by
 have key := al7 (f := fun (v : Int × Int × Int × List Int) kk => aTr good rest L v.1 v.2.1 v.2.2.1 v.2.2.2 (fun a b c d => kk (a, b, c, d)) K) (F := fun v => K (alq L R good v.2.1.toNat v.1 v.2.2.1 v.2.2.2))
  (fun v => ∃ k : Nat, v.2.1 = k ∧ k ≤ k0 ∧ (-(((k0 - k : Nat) : Int) * 4503599627370496) ≤ v.2.2.1 ∧ v.2.2.1 ≤ ((k0 - k : Nat) : Int) * 4503599627370496) ∧ v.2.2.2.length ≤ k0 - k) (fun v => v.2.1.toNat) (fun v hv kn hk => ?_) (x := (u, (k0 : Int), 0, [])) ⟨k0, rfl, Nat.le_refl _, by simp, by simp⟩
 ·rw [key]; simp
 ·obtain ⟨u, k', sum, out⟩ := v
  obtain ⟨k, e, h1, h2, h3⟩ := hv
  dsimp only at e h2 h3 hk ⊢
  subst e
  rw [Int.toNat_natCast] at hk ⊢
  unfold aTr
  cases k with
  | zero =>
    rw [ack (by rfl)]
    rfl
  | succ k =>
    rw [acv (decide_eq_true (by omega))]
    have hh := hx k (by omega)
    have hlim : Lim 1000000000000000000 (R k) := fun v hv => by have := hh.1 v hv; omega
    refine (aTs hS good (hr k (by omega)) (by omega) hlim hh.2 (by omega) (by omega) _).trans ?_
    unfold alq
    have e0 : (((k + 1 : Nat) : Int) - 1) = (k : Int) := by omega
    cases hn : aB8 L (R k) good u sum with
    | none =>
      dsimp only
      rw [e0, acs (by omega) (by omega), hk _ ⟨k, rfl, by omega, by dsimp only; omega, by dsimp only; omega⟩ (by simp)]
      simp
    | some i =>
      have hi : i < L.length := by
       unfold aB8 at hn
       exact (List.findIdx?_eq_some_iff_getElem.1 hn).1
      have hl : L[i]? = some L[i] := List.getElem?_eq_getElem hi
      have h4 := hS.most L[i] (List.getElem_mem _)
      dsimp only
      rw [hl]
      simp only [Option.getD_some]
      rw [e0, acs (by omega) (by omega), hk _ ⟨k, rfl, by omega, by dsimp only; omega, by simp; omega⟩ (by simp)]
      simp
def aBY (L : List Lk) (N : Nat) (u v : Int) : List Int × Int :=
 if (afp L N u v).2 ≠ 0 then ([], (afp L N u v).2) else
 match (ai9 L N v N).findIdx? (fun x => gv x u == (afp L N u v).1) with
 | some k => (alq L (exL L N v) (fun n => ieq n (afp L N u v).1) k u 0 [], 0)
 | none => ([], 0)
theorem aNf (hS : afo L N) {u v : Int} (hu : 0 ≤ u ∧ u < N) (hv : 0 ≤ v ∧ v < N) : apr ((N : Int), L) u v = some (aBY L N u v) := by
 have hN := hS.n60
 unfold apr aAi aBY
 rw [ayQ hS hu hv, ab1]
 by_cases h : (afp L N u v).2 = 0
 ·rw [ack (by rw [h]; rfl), if_neg (by simp [h]), aRW hS hv (by omega), ab1]
  rw [aSb]
  let k0 : Int → Option (List Int × Int) := fun j => acj (fun (v29 : Int × Int × Int × List Int) kk34 => aTr (fun n => ieq n (afp L N u v).1) (ai9 L N v N) L v29.1 v29.2.1 v29.2.2.1 v29.2.2.2 (fun u30 u31 u32 u33 => kk34 (u30, u31, u32, u33)) (fun z28 => some ((z28, (0 : Int)) : List Int × Int))) (u, j, (0 : Int), [])
  refine (af7 (ai9 L N v N) (fun x => gv x u == (afp L N u v).1) k0 (k0 (-1)) (fun i x hi hx kn => ?_) (fun kn => ?_)).trans ?_
  rotate_left
  ·try dsimp only
   unfold akN
   rw [acJ]
  ·have hex : ∀ k, k < N + 1 → (ai9 L N v N)[k]? = some (exL L N v k) := fun k hk => awk (by omega)
   have hlim : ∀ k, k < N + 1 → Lim 900000000000000000 (exL L N v k) ∧ (exL L N v k).length = N := fun k hk => ⟨fun w hw => by
    have := aLh hS hv k (by omega) w hw; omega, aLq _ _⟩
   cases hf : (ai9 L N v N).findIdx? (fun x => gv x u == (afp L N u v).1) with
   | none =>
     have := al7 (f := fun (v29 : Int × Int × Int × List Int) kk34 => aTr (fun n => ieq n (afp L N u v).1) (ai9 L N v N) L v29.1 v29.2.1 v29.2.2.1 v29.2.2.2 (fun u30 u31 u32 u33 => kk34 (u30, u31, u32, u33)) (fun z28 => some ((z28, (0 : Int)) : List Int × Int))) (F := fun _ => some (([], 0) : List Int × Int)) (fun v => v.2.1 = -1 ∧ v.2.2.2 = []) (fun _ => 0) (fun x hx kn hk => by
      unfold aTr
      rw [hx.1, hx.2]
      rfl) (x := (u, (-1 : Int), (0 : Int), [])) ⟨rfl, rfl⟩
     exact this
   | some k =>
     have hk := (List.findIdx?_eq_some_iff_getElem.1 hf).1
     rw [ag4] at hk
     exact aTq hS _ (R := exL L N v) (by omega) (fun j hj => hex j (by omega)) (fun j hj => hlim j (by omega)) u (fun z => some ((z, (0 : Int)) : List Int × Int))
  ·try dsimp only
   unfold akN
   have hxl : x.length = N := by
    have hi' := hi
    rw [ag4] at hi'
    rw [awk (by omega)] at hx
    cases hx
    exact aLq _ _
   rw [ag4] at hi
   rw [acL, ag4, acv (decide_eq_true (by omega)), acg hx, apj hu.1 (by omega), acs (by omega) (by omega), adJ]
 ·rw [acv (bne_iff_ne.2 h), if_pos h]
end
end Go.Proofs.ZzM
end
noncomputable section
namespace Go.Proofs.ZzM
open Go Go.Am
abbrev aSt : Type := acq × (Int × Int) × Bool × Int × List Int
def aQq : aSt := (aif, (0, 0), false, 0, [])
def arj (L : List Lk) : Int → Int → List Int → Int × Int × Bool
 | u, s, [] => (u, s, true)
 | u, s, i :: t => if (L[i.toNat]?.getD (0, 0, 0)).1 = u then arj L (L[i.toNat]?.getD (0, 0, 0)).2.1 (s + (L[i.toNat]?.getD (0, 0, 0)).2.2) t else (0, 0, false)
def aJ0 (L : List Lk) (i : Int) : Bool := decide (i < 0) || decide ((L.length : Int) ≤ i)
def ahp (L : List Lk) (l : List Int) : Int := if 80 < l.length then 2 else if l.any (aJ0 L) then 1 else 0
def aeF (L : List Lk) (u v : Int) (l : List Int) : Int × Int :=
 if ahp L l ≠ 0 then (0, ahp L l) else if (arj L u 0 l).2.2 = true ∧ (arj L u 0 l).1 = v then ((arj L u 0 l).2.1, 0) else (0, 8)
def aSJ (u : Int) (w : Int × Int × Bool) : Int := if w.2.2 = true ∧ w.1 = u ∧ w.2.1 < 0 then 0 else 8
def anC (L : List Lk) (l : List Int) : Int :=
 if ahp L l ≠ 0 then ahp L l else match l with
 | [] => 8
 | i :: _ => aSJ (L[i.toNat]?.getD (0, 0, 0)).1 (arj L (L[i.toNat]?.getD (0, 0, 0)).1 0 l)
section
variable {L : List Lk} {N : Nat}
theorem aEh (N : Int) (hL : L.length ≤ 1000) (l : List Int) : aj8 (N, L) l = some (ahp L l) := by
 unfold aj8 arV ahp
 dsimp only
 rw [acL]
 by_cases h : 80 < l.length
 ·rw [acv (decide_eq_true (by omega)), if_pos h]
 ·rw [ack (decide_eq_false (by omega)), if_neg h, ← acL l]
  refine (agG l (aJ0 L) (fun z => ifb (ige z 0) (some 1) (some 0)) (some 1) (some 0) (fun j => by rw [show ige (j : Int) 0 = true from decide_eq_true (by omega)]; rfl) (fun i a hi ha kn => ?_) (fun kn => ?_)).trans ?_
  ·try dsimp only
   unfold aik aJ0
   rw [acm hi, acg ha, aci hi (by omega), acL, adJ, adJ]
   by_cases h1 : a < 0
   ·simp [ilt, h1]
   ·by_cases h2 : (L.length : Int) ≤ a
    ·simp [ilt, ige, h1, h2]
    ·simp [ilt, ige, h1, h2]
  ·try dsimp only
   unfold aik
   rw [acJ]
  ·cases l.any (aJ0 L) <;> rfl
theorem aLm {l : List Int} (h : ahp L l = 0) : l.length ≤ 80 ∧ ∀ i ∈ l, 0 ≤ i ∧ i.toNat < L.length := by
 unfold ahp at h
 split at h
 ·omega
 ·rename_i h1
  split at h
  ·omega
  ·rename_i h2
   refine ⟨by omega, fun i hi => ?_⟩
   have := List.any_eq_false.1 (Bool.eq_false_iff.2 h2) i hi
   simp [aJ0] at this
   omega
theorem aOA (hS : afo L N) (u : Int) {l : List Int} (h : ahp L l = 0) : auL ((N : Int), L) u l = some (arj L u 0 l) := by
 obtain ⟨hl, hi⟩ := aLm h
 unfold auL aFR
 dsimp only
 have := al7 (f := fun (v7 : Int × Int × Int) kk11 => amT l (acx l) L v7.1 v7.2.1 v7.2.2 (fun u8 u9 u10 => kk11 (u8, u9, u10)) (fun z5 => some (z5.1, z5.2.1, z5.2.2)) (fun z6 => some (z6.1, z6.2, true)))
  (F := fun v => some (arj L v.1 v.2.1 (l.drop v.2.2.toNat))) (fun v => ∃ i : Nat, v.2.2 = i ∧ i ≤ l.length ∧ (-(i * 4503599627370496) ≤ v.2.1 ∧ v.2.1 ≤ i * 4503599627370496)) (fun v => l.length - v.2.2.toNat) (fun v hv kn hk => ?_) (x := (u, (0 : Int), (0 : Int))) ⟨0, rfl, by omega, by simp⟩
 ·exact this
 ·obtain ⟨w, s, n⟩ := v
  obtain ⟨i, e, h1, h2⟩ := hv
  dsimp only at e h2 hk ⊢
  subst e
  rw [Int.toNat_natCast] at hk ⊢
  unfold amT
  rcases Nat.lt_or_ge i l.length with h3 | h3
  ·have ha : l[i]? = some l[i] := List.getElem?_eq_getElem h3
   have hd : l.drop i = l[i] :: l.drop (i + 1) := List.drop_eq_getElem_cons h3
   rw [hd]
   have hx := hi l[i] (List.getElem_mem _)
   generalize l[i] = a at ha hx
   have hg : L[a.toNat]? = some L[a.toNat] := List.getElem?_eq_getElem hx.2
   have hm := hS.most _ (List.mem_of_getElem? hg)
   generalize L[a.toNat] = x at hg hm
   rw [acm h3, acg ha, ah6 hx.1 hg]
   unfold arj
   rw [hg]
   simp only [Option.getD_some]
   by_cases hc : x.1 = w
   ·rw [ack (by rw [hc]; exact bne_self_eq_false' _), if_pos hc, acs (by omega) (by omega), aci h3 (by omega), hk _ ⟨i + 1, by push_cast; rfl, h3, by dsimp only; push_cast; omega⟩ (by simp; omega)]
    simp
   ·rw [acv (bne_iff_ne.2 hc), if_neg hc]
  ·obtain rfl : i = l.length := by omega
   rw [acJ, List.drop_length]
   rfl
theorem aOB (hS : afo L N) : ∀ (l : List Int) (u s B : Int), -B ≤ s ∧ s ≤ B → -(B + l.length * 4503599627370496) ≤ (arj L u s l).2.1 ∧ (arj L u s l).2.1 ≤ B + l.length * 4503599627370496
 | [], u, s, B, h => by simp [arj]; omega
 | i :: t, u, s, B, h => by
   unfold arj
   have hm : -4503599627370496 ≤ (L[i.toNat]?.getD (0, 0, 0)).2.2 ∧ (L[i.toNat]?.getD (0, 0, 0)).2.2 ≤ 4503599627370496 := by
    cases hg : L[i.toNat]? with
    | none => simp
    | some x => exact hS.most x (List.mem_of_getElem? hg)
   split
   ·have := aOB hS t (L[i.toNat]?.getD (0, 0, 0)).2.1 (s + (L[i.toNat]?.getD (0, 0, 0)).2.2) (B + 4503599627370496) (by omega)
    rw [List.length_cons]
    push_cast
    omega
   ·dsimp only
    omega
theorem au0 (hS : afo L N) {u v : Int} (hu : 0 ≤ u ∧ u < N) (hv : 0 ≤ v ∧ v < N) (l : List Int) : agA ((N : Int), L) u v l = some (aeF L u v l) := by
 have hl3 := hS.len
 unfold agA alj aeF
 have e1 : (decide (0 ≤ u) && decide (u < (N : Int))) = true := by simp [hu.1, hu.2]
 have e2 : (decide (0 ≤ v) && decide (v < (N : Int))) = true := by simp [hv.1, hv.2]
 rw [ahA hS, ab1, ack (by rfl), azq, ab1, e1, ack (by rfl), azq, ab1, e2, ack (by rfl), aEh _ (by omega), ab1]
 by_cases h : ahp L l = 0
 ·rw [ack (by rw [h]; rfl), if_neg (by simp [h]), aOA hS u h, ab1]
  cases h1 : (arj L u 0 l).2.2 with
  | false => rw [acv (by rfl), if_neg (by simp)]
  | true =>
    rw [ack (by rfl)]
    by_cases h2 : (arj L u 0 l).1 = v
    ·rw [ack (by rw [h2]; exact bne_self_eq_false' _), if_pos ⟨rfl, h2⟩]
    ·rw [acv (bne_iff_ne.2 h2), if_neg (fun h => h2 h.2)]
 ·rw [acv (bne_iff_ne.2 h), if_pos h]
theorem aA4 {ρ α : Type} (x : α) (t : List α) (f : α → Option ρ) : adO (x :: t) (0 : Int) f = f x := rfl
theorem aDq (hS : afo L N) (l : List Int) : ain ((N : Int), L) l = some (anC L l) := by
 have hl3 := hS.len
 unfold ain ali anC
 rw [ahA hS, ab1, ack (by rfl), aEh _ (by omega), ab1]
 by_cases h : ahp L l = 0
 ·rw [ack (by rw [h]; rfl), if_neg (by simp [h])]
  cases l with
  | nil => rw [acL]; rfl
  | cons i t =>
    have hx := (aLm h).2 i (by simp)
    have hg : L[i.toNat]? = some L[i.toNat] := List.getElem?_eq_getElem hx.2
    generalize L[i.toNat] = x at hg
    rw [acL, ack (beq_eq_false_iff_ne.2 (by simp; omega)), aA4, ah6 hx.1 hg, aOA hS x.1 h, ab1]
    dsimp only
    rw [hg]
    dsimp only [Option.getD_some]
    generalize arj L x.1 0 (i :: t) = w
    obtain ⟨e, sum, ok⟩ := w
    unfold aSJ
    dsimp only
    cases ok with
    | false => rw [acv (by rfl), if_neg (by simp)]
    | true =>
      rw [ack (by rfl)]
      by_cases h2 : e = x.1
      ·rw [ack (by rw [h2]; exact bne_self_eq_false' _)]
       by_cases h3 : sum < 0
       ·rw [ack (decide_eq_false (by omega)), if_pos ⟨rfl, h2, h3⟩]
       ·rw [acv (decide_eq_true (by omega)), if_neg (fun h => h3 h.2.2)]
      ·rw [acv (bne_iff_ne.2 h2), if_neg (fun h => h2 h.2.1)]
 ·rw [acv (bne_iff_ne.2 h), if_pos h]
end
def ajH (c : aSt) : Int :=
 if acy c.1 ≠ 0 then acy c.1 else if amr c.1 c.2.1.1 c.2.1.2 = 0 then 5 else
 if c.2.2.1 then (if aeF (acp c.1) 0 (amr c.1 c.2.1.1 c.2.1.2) c.2.2.2.2 = (c.2.2.2.1, 0) then 0 else 8)
 else (if aeF (acp c.1) (amr c.1 c.2.1.1 c.2.1.2) 0 c.2.2.2.2 = (-c.2.2.2.1, 0) then 0 else 8)
def akk (c : aSt) : Int :=
 if acy c.1 ≠ 0 then acy c.1 else if c.2.1 ≠ (0, 0) ∨ c.2.2.1 = true ∨ c.2.2.2.1 ≠ 0 then 1 else if anC (acp c.1) c.2.2.2.2 = 0 then 0 else 8
def aLO (b : acq) (c : aSt) : Bool × Int :=
 if acy b ≠ 0 then (false, acy b) else
 if c.2.1 = (0, 0) then (if akk c ≠ 0 then (false, akk c) else (aRq c.1 b, 0)) else (if ajH c ≠ 0 then (false, ajH c) else (aRq c.1 b, 0))
theorem wr_neg {n : Int} (h : I64 n) : aSQ (0 - n) = if n = -9223372036854775808 then n else -n := by
 have e : aSQ (0 - n) = if (0 - n) % 18446744073709551616 ≥ 9223372036854775808 then (0 - n) % 18446744073709551616 - 18446744073709551616 else (0 - n) % 18446744073709551616 := by
  simp [aSQ, IntKind.wrap, IntKind.bits, IntKind.signed]
 rw [e]
 unfold I64 at h
 split <;> split <;> omega
theorem axE {c : aSt} (hI : In c.1) (hv : I64 c.2.2.2.1) : ahu c = some (ajH c) := by
 unfold ahu amQ ajH
 rw [afZ hI.size hI.num, ab1]
 by_cases hc : acy c.1 = 0
 ·have hg := (aco c.1).1 hc
  rw [ack (by simp [ine, hc]), if_neg (show ¬ (acy c.1 ≠ 0) from fun h => h hc), apJ hI, ab1, anB hg, akh hI, ab1, age hg]
  dsimp only
  by_cases h0 : amr c.1 c.2.1.1 c.2.1.2 = 0
  ·rw [if_pos h0, if_pos h0]; rfl
  ·have hN := hg.sys
   have hr := adP c.1 c.2.1
   have hz := adS c.1
   rw [if_neg h0, if_neg h0, ack (by rfl), show (((acd c.1).length : Int) + 1) = (((acd c.1).length + 1 : Nat) : Int) by push_cast; rfl]
   dsimp only
   rw [show (∀ f : Int → Option Int, ck (0 - c.2.2.2.1) f = f (aSQ (0 - c.2.2.2.1))) from fun f => rfl, wr_neg hv]
   have key : ∀ (u v : Int) (t t' : Int), (t' = t ∨ (t' = -9223372036854775808 ∧ t = 9223372036854775808)) → (ifb (ine (aeF (acp c.1) u v c.2.2.2.2).2 0) (some (8 : Int)) (ifb (ine (aeF (acp c.1) u v c.2.2.2.2).1 t') (some 8) (some 0))) = some (if aeF (acp c.1) u v c.2.2.2.2 = (t, 0) then 0 else 8) := by
    intro u v t t' ht
    have hb : -9000000000000000000 ≤ (aeF (acp c.1) u v c.2.2.2.2).1 ∧ (aeF (acp c.1) u v c.2.2.2.2).1 ≤ 9000000000000000000 := by
     unfold aeF
     split
     ·simp
     ·rename_i hi
      split
      ·have := aOB hN c.2.2.2.2 u 0 0 (by simp)
       have := (aLm (by simpa using hi)).1
       dsimp only
       omega
      ·simp
    generalize aeF (acp c.1) u v c.2.2.2.2 = p at hb ⊢
    by_cases h2 : p.2 = 0
    ·rw [ack (by rw [h2]; rfl)]
     by_cases h1 : p.1 = t'
     ·have : p = (t, 0) := Prod.ext (by rcases ht with h | h <;> omega) h2
      rw [ack (by rw [h1]; exact bne_self_eq_false' _), if_pos this]
     ·have : ¬ p = (t, 0) := fun e => by
       have e1 : p.1 = t := by rw [e]
       rcases ht with h | h <;> omega
      rw [acv (bne_iff_ne.2 h1), if_neg this]
    ·have : ¬ p = (t, 0) := fun e => h2 (by rw [e])
     rw [acv (bne_iff_ne.2 h2), if_neg this]
   unfold I64 at hv
   cases c.2.2.1 with
   | true =>
     rw [aei, au0 hN hz hr, ab1, key _ _ _ _ (.inl rfl)]
     rfl
   | false =>
     rw [acM, au0 hN hr hz, ab1, key _ _ (-c.2.2.2.1) _ (by split <;> omega)]
     rfl
 ·rw [acv (by simp [ine, hc]), if_pos hc]
theorem aHg {c : aSt} (hI : In c.1) : aim c = some (akk c) := by
 unfold aim ald akk
 rw [afZ hI.size hI.num, ab1]
 by_cases hc : acy c.1 = 0
 ·have hg := (aco c.1).1 hc
  rw [ack (by simp [ine, hc]), if_neg (show ¬ (acy c.1 ≠ 0) from fun h => h hc)]
  by_cases h1 : c.2.1 = (0, 0)
  ·have e1 : (!((aeH c.2.1.1 0) && ((aeH c.2.1.2 0) && true))) = false := by rw [h1]; rfl
   rw [e1, acM]
   cases h2 : c.2.2.1 with
   | true => rw [aei, if_pos (.inr (.inl rfl))]
   | false =>
     rw [acM]
     by_cases h3 : c.2.2.2.1 = 0
     ·rw [ack (by rw [h3]; rfl), if_neg (by simp [h1, h3]), akh hI, ab1, age hg, show (((acd c.1).length : Int) + 1) = (((acd c.1).length + 1 : Nat) : Int) by push_cast; rfl]
      dsimp only
      rw [aDq hg.sys, ab1]
      by_cases h4 : anC (acp c.1) c.2.2.2.2 = 0
      ·rw [ack (by rw [h4]; rfl), if_pos h4]
      ·rw [acv (bne_iff_ne.2 h4), if_neg h4]
     ·rw [acv (bne_iff_ne.2 h3), if_pos (.inr (.inr h3))]
  ·have e1 : (!((aeH c.2.1.1 0) && ((aeH c.2.1.2 0) && true))) = true := by
    rw [Prod.ext_iff] at h1
    simp [aeH]
    dsimp only at h1
    omega
   rw [e1, aei, if_pos (.inl h1)]
 ·rw [acv (by simp [ine, hc]), if_pos hc]
theorem aQP {b : acq} {c : aSt} (hb : In b) (hI : In c.1) (hv : I64 c.2.2.2.1) : ap5 b c = some (aLO b c) := by
 unfold ap5 avu aLO
 rw [afZ hb.size hb.num, ab1]
 by_cases hc : acy b = 0
 ·rw [ack (by simp [ine, hc]), if_neg (show ¬ (acy b ≠ 0) from fun h => h hc)]
  by_cases h1 : c.2.1 = (0, 0)
  ·have e1 : ((aeH c.2.1.1 0) && ((aeH c.2.1.2 0) && true)) = true := by rw [h1]; rfl
   rw [e1, aei, if_pos h1, aHg hI, ab1]
   by_cases h2 : akk c = 0
   ·rw [ack (by rw [h2]; rfl), if_neg (by simp [h2]), part_ok hI.size hb.size, ab1]
   ·rw [acv (bne_iff_ne.2 h2), if_pos h2]
  ·have e1 : ((aeH c.2.1.1 0) && ((aeH c.2.1.2 0) && true)) = false := by
    rw [Prod.ext_iff] at h1
    simp [aeH]
    dsimp only at h1
    omega
   rw [e1, acM, if_neg h1, axE hI hv, ab1]
   by_cases h2 : ajH c = 0
   ·rw [ack (by rw [h2]; rfl), if_neg (by simp [h2]), part_ok hI.size hb.size, ab1]
   ·rw [acv (bne_iff_ne.2 h2), if_pos h2]
 ·rw [acv (by simp [ine, hc]), if_pos hc]
end Go.Proofs.ZzM
end
noncomputable section
namespace Go.Proofs.ZzM
open Go Go.Am
def ayZ (b : acq) (l : List Int) : List (Int × Int) := l.map fun i => (aeG b)[i.toNat]?.getD (0, 0)
theorem aNm {b : acq} (hg : adk b) (hn : ∀ g ∈ b.2.1, I64 g.2.2.2.2.1.1) {l : List Int} (hl : l.length ≤ 1000) (hi : ∀ i ∈ l, 0 ≤ i ∧ i.toNat < (acp b).length) : aj7 b l = some (ayZ b l) := by
 unfold aj7 arL
 rw [akh (hg.inn hn), ab1, age hg]
 refine ada l (fun i => ayZ b (l.take i)) _ rfl (fun i a hlt ha kn => ?_) (fun kn => ?_)
 ·try dsimp only
  unfold aii
  have hx := hi a (List.mem_of_getElem? ha)
  have hs : (aeG b)[a.toNat]? = some ((aeG b)[a.toNat]'(by rw [aEQ hg]; exact hx.2)) := List.getElem?_eq_getElem _
  generalize (aeG b)[a.toNat]'(by rw [aEQ hg]; exact hx.2) = x at hs
  have hlen : (ayZ b (l.take i)).length ≤ 1000 := by unfold ayZ; rw [List.length_map, List.length_take]; omega
  rw [acm hlt, acg ha, ah6 hx.1 hs, adI (show acK ((ayZ b (l.take i)).length + [x].length) = true from acn (show (ayZ b (l.take i)).length + 1 ≤ 4294967296 by omega)), aci hlt (by omega), take_succ ha]
  unfold ayZ
  rw [List.map_append, List.map_singleton, hs]
  rfl
 ·try dsimp only
  unfold aii
  rw [acJ, List.take_length]
theorem src_ok {b : acq} : ∀ s ∈ aeG b, aTM b s := by
 intro s hs
 unfold aeG at hs
 rcases List.mem_append.1 hs with h | h
 ·have := aJs s h; exact .inl this
 ·have := aJJ s h; exact .inr this
theorem aRc {b : acq} (hg : adk b) {l : List Int} (hi : ∀ i ∈ l, 0 ≤ i ∧ i.toNat < (acp b).length) : ∀ s ∈ ayZ b l, aTM b s := by
 intro s hs
 obtain ⟨i, h1, rfl⟩ := List.mem_map.1 hs
 have hx := hi i h1
 have hsx : (aeG b)[i.toNat]? = some ((aeG b)[i.toNat]'(by rw [aEQ hg]; exact hx.2)) := List.getElem?_eq_getElem _
 rw [hsx]
 exact src_ok _ (List.getElem_mem _)
section
variable {L : List Lk} {N : Nat}
theorem awh (R : Nat → List Int) (good : Int → Bool) : ∀ (k : Nat) (u sum : Int) (out : List Int), (∀ i ∈ out, 0 ≤ i ∧ i.toNat < L.length) → (∀ i ∈ alq L R good k u sum out, 0 ≤ i ∧ i.toNat < L.length) ∧ (alq L R good k u sum out).length ≤ out.length + k
 | 0, u, sum, out, h => ⟨h, by simp [alq]⟩
 | k + 1, u, sum, out, h => by
   unfold alq
   cases hn : aB8 L (R k) good u sum with
   | none =>
     have := awh R good k u sum out h
     exact ⟨this.1, by have := this.2; dsimp only; omega⟩
   | some i =>
     have hi : i < L.length := by
      unfold aB8 at hn
      exact (List.findIdx?_eq_some_iff_getElem.1 hn).1
     have := awh R good k (L[i]?.getD (0, 0, 0)).2.1 (sum + (L[i]?.getD (0, 0, 0)).2.2) (out ++ [(i : Int)]) (fun j hj => by
      rcases List.mem_append.1 hj with h1 | h1
      ·exact h j h1
      ·simp at h1; subst h1; simp; exact hi)
     exact ⟨this.1, by have := this.2; simp at this; dsimp only; omega⟩
theorem aJM (N : Nat) (u v : Int) : (∀ i ∈ (aBY L N u v).1, 0 ≤ i ∧ i.toNat < L.length) ∧ (aBY L N u v).1.length ≤ N := by
 unfold aBY
 split
 ·simp
 ·cases h : (ai9 L N v N).findIdx? (fun x => gv x u == (afp L N u v).1) with
  | none => simp
  | some k =>
    have hk := (List.findIdx?_eq_some_iff_getElem.1 h).1
    rw [ag4] at hk
    have := awh (L := L) (exL L N v) (fun n => ieq n (afp L N u v).1) k u 0 [] (by simp)
    exact ⟨this.1, by have := this.2; simp at this; dsimp only; omega⟩
end
def axz (B : acq) (n : Int × Int) (upper : Bool) : List Int :=
 if upper then (aBY (acp B) ((acd B).length + 1) 0 (amr B n.1 n.2)).1 else (aBY (acp B) ((acd B).length + 1) (amr B n.1 n.2) 0).1
def aom (B : acq) (n : Int × Int) (upper : Bool) : acq := cutP B (ayZ B (axz B n upper)) [n]
def certR (B : acq) (n : Int × Int) (upper : Bool) : aSt := (aom B n upper, n, upper, (if upper then (ivR B n).2 else (ivR B n).1), axz (aom B n upper) n upper)
def ajt (b : acq) (n : Int × Int) (upper : Bool) : aSt × Int :=
 if (adg b [n]).2 ≠ 0 then (aQq, (adg b [n]).2) else
 if acy (aom (adg b [n]).1 n upper) ≠ 0 then (aQq, acy (aom (adg b [n]).1 n upper)) else
 if adC (acp (aom (adg b [n]).1 n upper)) ((acd (aom (adg b [n]).1 n upper)).length + 1) then (certR (adg b [n]).1 n upper, 0) else (aQq, 9)
theorem aOf {ρ : Type} : @alf ρ = @ac4 ρ := rfl
theorem aPd {ρ : Type} (K : Option ρ) : acj (fun (v23 : Int) kk25 => ale (0 : Int) v23 (fun u24 => kk25 u24) (fun _ => K)) (0 : Int) = K := by
 refine afE (fun x => x = 0) (fun _ => 0) (fun x hx => .inl fun kn => ?_) rfl
 rw [hx]
 rfl
theorem aLY {B : acq} (h : adk B) (hn : ∀ g ∈ B.2.1, I64 g.2.2.2.2.1.1) (n : Int × Int) (upper : Bool) : ahv (B, aDv B) n upper = some (axz B n upper) := by
 unfold ahv amR axz
 rw [aBQ h hn, ab1, show (B, aDv B).2 = aDv B from rfl, ayU]
 cases upper with
 | true => rw [aei, aNf h.sys (adS B) (adP B n), ab1]; rfl
 | false => rw [acM, aNf h.sys (adP B n) (adS B), ab1]; rfl
theorem aOd {B : acq} (h : adk B) (n : Int × Int) (upper : Bool) : (∀ i ∈ axz B n upper, 0 ≤ i ∧ i.toNat < (acp B).length) ∧ (axz B n upper).length ≤ 60 := by
 have hN := h.sys.n60
 unfold axz
 split
 ·have := aJM (L := acp B) ((acd B).length + 1) 0 (amr B n.1 n.2)
  exact ⟨this.1, by have := this.2; omega⟩
 ·have := aJM (L := acp B) ((acd B).length + 1) (amr B n.1 n.2) 0
  exact ⟨this.1, by have := this.2; omega⟩
theorem aAW (w : List Int) : ∀ (l : List Cmp) (i : Nat), ∀ c ∈ asc w i l, c ∈ l
 | [], i, c, h => by simp [asc] at h
 | a :: l, i, c, h => by
   simp only [asc] at h
   split at h
   ·rcases List.mem_cons.1 h with h | h
    ·rw [h]; simp
    ·exact List.mem_cons_of_mem _ (aAW w l (i + 1) c h)
   ·exact List.mem_cons_of_mem _ (aAW w l (i + 1) c h)
theorem aSF {b : acq} (h : In b) (ss : List (Int × Int)) {looks : List (Int × Int)} (hl : looks.length ≤ 1000) : In (cutP b ss looks) := by
 obtain ⟨hs, hn⟩ := h
 have g1 := hs.gauges; have g2 := hs.uses; have g3 := hs.loans; have g4 := hs.compares
 unfold cutP
 refine ⟨⟨?_, ?_, ?_, ?_, hl, fun c hc => hs.piles c (aAW _ _ _ c hc)⟩, fun g hg => hn g (List.mem_filter.1 hg).1⟩
 ·exact Nat.le_trans (List.length_filter_le _ _) g1
 ·exact Nat.le_trans (List.length_filter_le _ _) g2
 ·exact Nat.le_trans (List.length_filter_le _ _) g3
 ·exact Nat.le_trans (aAX _ _ _) g4
theorem aOp {b : acq} (hI : In b) (n : Int × Int) (upper : Bool) : ann b n upper = some (ajt b n upper) := by
 unfold ann arT ajt
 rw [aOf]
 refine (amw hI (ns := [n]) (by simp) (fun e => some (aQq, e)) (fun e he => by rw [adI (by simp [ine, he])]; rfl) (fun z he => by rw [adI (by simp [ine, he])]; rfl) (fun _ _ _ => rfl)).trans ?_
 split
 ·rfl
 ·rename_i e
  have hr := (agw hI (by simpa using e)).1
  dsimp only
  generalize (adg b [n]).1 = B at hr ⊢
  have hci := aOd hr.good n upper
  have hpi : In (aom B n upper) := aSF (hr.good.inn hr.num) _ (by simp)
  rw [apm, show ((((acd B).length : Int) + 1, acp B) : Sys) = aDv B from rfl, aLY hr.good hr.num, ab1, aNm hr.good hr.num (by omega) hci.1, ab1,
   cut_ok hr.good.size (by unfold ayZ; rw [List.length_map]; omega) (by simp) (aRc hr.good hci.1), ab1, show cutP B (ayZ B (axz B n upper)) [n] = aom B n upper from rfl, afZ hpi.size hpi.num, ab1]
  by_cases hc : acy (aom B n upper) = 0
  ·have hg := (aco _).1 hc
   rw [ack (by simp [ine, hc]), if_neg (show ¬ (acy (aom B n upper) ≠ 0) from fun h => h hc)]
   refine (aPd _).trans ?_
   rw [akh hpi, ab1, age hg, ack (by rfl)]
   dsimp only
   rw [show ((((acd (aom B n upper)).length : Int) + 1, acp (aom B n upper)) : Sys) = aDv (aom B n upper) from rfl, ayU (aom B n upper), auZ hg.sys, ab1]
   cases ho : adC (acp (aom B n upper)) ((acd (aom B n upper)).length + 1) with
   | false => rw [if_neg (by simp)]; rfl
   | true =>
     rw [if_pos rfl, ← ayU (aom B n upper), ack (by rfl), aEd hr, ab1, aLY hg hpi.num, ab1]
     cases upper with
     | true => rw [aei, auD hr, ab1]; rfl
     | false => rfl
  ·rw [acv (by simp [ine, hc]), if_pos hc, acv (by simp [ine, hc])]
   rfl
theorem aOa {L : List Lk} {N : Nat} (h : afo L N) (ho : adC L N = true) : apq ((N : Int), L) = some ([], 5) := by
 have hN := h.n60
 unfold apq aAc
 rw [ahA h, ab1, ack (by rfl), arm h.links h.n1 (by omega), ab1, if_pos ho]
 rfl
theorem aKq {b : acq} (hg : adk b) (hn : ∀ g ∈ b.2.1, I64 g.2.2.2.2.1.1) (ho : adC (acp b) ((acd b).length + 1) = true) : auK b = some (aQq, 5) := by
 unfold auK azU
 rw [akh (hg.inn hn), ab1, age hg, ack (by rfl), show ((((acd b).length : Int) + 1, acp b), aeG b, (0 : Int)).1 = aDv b from rfl, ayU, aOa hg.sys ho, ab1]
 rfl
end Go.Proofs.ZzM
end
noncomputable section
namespace Go.Proofs.ZzM
open Go Go.Am
theorem aOe {b : acq} (h : In b) (n : Int × Int) (upper : Bool) : In (ajt b n upper).1.1 := by
 have h0 : In aif := ⟨⟨by simp [aif], by simp [aif], by simp [aif], by simp [aif], by simp [aif], by simp [aif]⟩, by simp [aif]⟩
 unfold ajt
 by_cases e : (adg b [n]).2 = 0
 ·rw [if_neg (by simp [e])]
  have hr := (agw h e).1
  split
  ·exact h0
  ·split
   ·exact aSF (hr.good.inn hr.num) _ (by simp)
   ·exact h0
 ·rw [if_pos e]; exact h0
theorem y1 : agD exB (2, 10) = ((984, 1011), 0) := by decide +kernel
theorem y2 : agD exB (1, 30) = ((964, 1005), 0) := by decide +kernel
theorem y3 : aHh exB (1, 10) (2, 10) = ((-6, 11), 0) := by decide +kernel
theorem y4 : aTP exB 10 [1, 2] = ((1979, 2018), 0) := by decide +kernel
theorem y5 : aBX exB (2, 0) (990, 1010) = (3, 0) := by decide +kernel
theorem y6 : (ajt exB (2, 10) true).2 = 0 ∧ (ajt exB (2, 10) true).1.2.2.2.1 = 1011 := by decide +kernel
theorem y7 : aEF exB (2, 10) exC = (10, 0) := by decide +kernel
theorem y8 : aqi exB (2, 10) (900, 1100) exC = (true, 0) := by decide +kernel
theorem y9 : aLO exB (ajt exB (2, 10) true).1 = (true, 0) := by decide +kernel
theorem y10 : acy exB = 0 ∧ adC (acp exB) ((acd exB).length + 1) = true := by decide +kernel
theorem y11 : ajH (ajt exB (2, 10) true).1 = 0 := by decide +kernel
theorem aNq : aec = some true := by
 unfold aec arD apn aov
 have hc := aOe apv (2, 10) true
 have hv : I64 (ajt exB (2, 10) true).1.2.2.2.1 := by rw [y6.2]; unfold I64; omega
 rw [ab1]
 rw [show ((((0 : Int), (2 : Int)), [((1 : Int), (0 : Int), (1000 : Int), ((-5 : Int), (5 : Int)), ((1 : Int), (10 : Int)), (1 : Int)), ((2 : Int), (0 : Int), (1000 : Int), ((-50 : Int), (50 : Int)), ((1 : Int), (4 : Int)), (0 : Int))], [((1 : Int), (10 : Int))], [((1 : Int), ((20 : Int), (29 : Int)), (3 : Int))], [((7 : Int), (10 : Int), [(1 : Int)], [(2 : Int)], (-20 : Int), (1 : Int), (100 : Int), (200 : Int))], ([] : List (Int × Int))) : acq) = exB from rfl]
 rw [anA apv, ab1, anA apv, ab1, aOq apv, ab1, aTO apv _ (by decide), ab1, aHd apv, ab1, aOp apv, ab1, y1, y2, y3, y4, y5, y6.1, y6.2]
 rw [show amg exB ((2 : Int), (10 : Int)) ((8 : Int), (10 : Int), [(1 : Int)], [(2 : Int)], (0 : Int), (0 : Int), (0 : Int), (0 : Int)) = some (aEF exB (2, 10) exC) from aNa apv _ (c := exC) (by decide) (by decide),
  show ah9 exB ((2 : Int), (10 : Int)) ((900 : Int), (1100 : Int)) ((8 : Int), (10 : Int), [(1 : Int)], [(2 : Int)], (0 : Int), (0 : Int), (0 : Int), (0 : Int)) = some (aqi exB (2, 10) (900, 1100) exC) from aEH apv _ _ (c := exC) (by decide) (by decide),
  aQP apv hc hv, aKq ((aco _).1 y10.1) apv.num y10.2, axE hc hv, y7, y8, y9, y11]
 rfl
end Go.Proofs.ZzM
end
noncomputable section
namespace Go.Proofs.ZzM
open Go Go.Am
section
variable {B : acq} (h : aQQ B)
include h
end
theorem aNX (n : Int) (s : Int × Int) : anm n s = some (decide (s.1 ≤ n) && decide (n ≤ s.2)) := by
 unfold anm arE
 rw [adJ]
 by_cases h : s.1 ≤ n
 ·rw [if_pos (by simpa [ige] using h)]; simp [h]
 ·rw [if_neg (by simpa [ige] using h)]; simp [h]
def aB4 : acq → List (Int × Int) → acq × Bool
 | b, [] => (b, true)
 | b, n :: t => if (afQ b n).2 ≠ 0 then (b, false) else aB4 (afQ b n).1 t
theorem aMd : ∀ (ns : List (Int × Int)) (b : acq), (aB4 b ns).2 = decide ((aeu b ns).2 = 0) ∧ ((aeu b ns).2 = 0 → aB4 b ns = ((aeu b ns).1, true))
 | [], b => ⟨rfl, fun _ => rfl⟩
 | n :: t, b => by
   unfold aB4 aeu
   by_cases h : (afQ b n).2 = 0
   ·rw [if_neg (by simp [h]), if_neg (by simp [h])]
    exact aMd t _
   ·rw [if_pos h, if_pos h]
    exact ⟨by simp [h], fun e => absurd e h⟩
abbrev aTU : Type := Int × Int × List acO × List (Int × Int) × List ayO × List Cmp × List (Int × Int) × Flat
def bk2 (s : aTU) : acq := ((s.1, s.2.1), s.2.2.1, s.2.2.2.1, s.2.2.2.2.1, s.2.2.2.2.2.1, s.2.2.2.2.2.2.1)
theorem aHk {b : acq} (hg : adk b) (hn : ∀ g ∈ b.2.1, I64 g.2.2.2.2.1.1) {ns : List (Int × Int)} (hl : ns.length ≤ 1000) : aiM b ns = some (aB4 b ns) := by
 unfold aiM asX
 refine ayF ns (fun (i : Nat) (s : aTU) (t : List (Int × Int)) => some (aB4 (bk2 s) t)) (fun i s => adk (bk2 s) ∧ ∀ g ∈ (bk2 s).2.1, I64 g.2.2.2.2.1.1) (fun s hs kn => ?_) (fun i n t s hd hi ha hs kn hk => ?_) (s := (b.1.1, b.1.2, b.2.1, b.2.2.1, b.2.2.2.1, b.2.2.2.2.1, b.2.2.2.2.2, 0, 0, [], [], [], [], [])) ⟨hg, hn⟩
 ·dsimp only
  unfold aiu
  rw [acJ]
  rfl
 ·dsimp only
  unfold aiu
  obtain ⟨hs1, hs2⟩ := hs
  have hin : In (bk2 s) := hs1.inn hs2
  rw [acm hi, acg ha, acg ha]
  rw [show adt ((s.1, s.2.1), s.2.2.1, s.2.2.2.1, s.2.2.2.2.1, s.2.2.2.2.2.1, s.2.2.2.2.2.2.1) n = adt (bk2 s) n from rfl, apJ hin, ab1]
  rw [show aeY ((s.1, s.2.1), s.2.2.1, s.2.2.2.1, s.2.2.2.2.1, s.2.2.2.2.2.1, s.2.2.2.2.2.2.1) n = aeY (bk2 s) n from rfl, aLR hin, ab1, anB hs1]
  have hu : aB4 (bk2 s) (n :: t) = if (afQ (bk2 s) n).2 ≠ 0 then (bk2 s, false) else aB4 (afQ (bk2 s) n).1 t := rfl
  rw [hu]
  by_cases h0 : amr (bk2 s) n.1 n.2 = 0
  ·rw [if_pos h0, ack (by rfl)]
   by_cases h2 : acy (ag8 (bk2 s) n) = 0
   ·have e : afQ (bk2 s) n = (ag8 (bk2 s) n, 0) := by unfold afQ; rw [if_neg (by simp [h0]), if_neg (by simp [h2])]
    have e2 : ayk (bk2 s) n = (ag8 (bk2 s) n, 0) := by unfold ayk; rw [if_neg (by simp [(aco (bk2 s)).2 hs1]), if_neg (by simp [h2])]
    rw [e2, e, ack (by rfl), aci hi (by omega), if_neg (show ¬ ((0 : Int) ≠ 0) by simp)]
    exact hk (s.1, s.2.1, s.2.2.1, s.2.2.2.1, s.2.2.2.2.1, s.2.2.2.2.2.1, s.2.2.2.2.2.2.1 ++ [n], s.2.2.2.2.2.2.2) ⟨(aco _).1 h2, hs2⟩
   ·have e : afQ (bk2 s) n = (aif, acy (ag8 (bk2 s) n)) := by unfold afQ; rw [if_neg (by simp [h0]), if_pos h2]
    have e2 : ayk (bk2 s) n = (aif, acy (ag8 (bk2 s) n)) := by unfold ayk; rw [if_neg (by simp [(aco (bk2 s)).2 hs1]), if_pos h2]
    rw [e2, e, acv (bne_iff_ne.2 h2), if_pos h2]
    rfl
  ·have e : afQ (bk2 s) n = (bk2 s, 0) := by unfold afQ; rw [if_pos h0]
   rw [if_neg h0, acv (by rfl), aci hi (by omega), e, if_neg (show ¬ ((0 : Int) ≠ 0) by simp)]
   exact hk s ⟨hs1, hs2⟩
theorem aLX {b : acq} (hI : In b) (hc : acy b ≠ 0) (n : Int × Int) (t : List (Int × Int)) (hl : (n :: t).length ≤ 1000) : aiM b (n :: t) = some (b, false) := by
 unfold aiM asX
 refine afE (fun (v : Int × aTU) => v = (0, b.1.1, b.1.2, b.2.1, b.2.2.1, b.2.2.2.1, b.2.2.2.2.1, b.2.2.2.2.2, 0, 0, [], [], [], [], [])) (fun _ => 0) (fun v hv => .inl fun kn => ?_) rfl
 subst hv
 dsimp only
 unfold aiu
 have e1 : aEJ b n = (0, acy b) := by unfold aEJ; rw [if_pos hc]
 have e2 : ayk b n = (aif, acy b) := by unfold ayk; rw [if_pos hc]
 rw [acL, acv (decide_eq_true (by rw [List.length_cons]; omega)), aA4, aA4, show adt ((b.1.1, b.1.2), b.2.1, b.2.2.1, b.2.2.2.1, b.2.2.2.2.1, b.2.2.2.2.2) n = adt b n from rfl, apJ hI, ab1,
  show aeY ((b.1.1, b.1.2), b.2.1, b.2.2.1, b.2.2.2.1, b.2.2.2.2.1, b.2.2.2.2.2) n = aeY b n from rfl, aLR hI, ab1, e1, e2, ack (beq_eq_false_iff_ne.2 hc), acv (bne_iff_ne.2 hc)]
theorem aQ6 {b : acq} (hI : In b) {ns : List (Int × Int)} (hl : ns.length ≤ 1000) (h0 : ns ≠ []) : ∃ y : acq × Bool, aiM b ns = some y ∧ (y.2 = true ↔ adk b ∧ (aeu b ns).2 = 0) ∧ (y.2 = true → y = ((aeu b ns).1, true)) := by
 by_cases hc : acy b = 0
 ·have hg := (aco b).1 hc
  have hr := aMd ns b
  refine ⟨_, aHk hg hI.num hl, ⟨fun h => ⟨hg, by rw [hr.1] at h; exact of_decide_eq_true h⟩, fun h => by rw [hr.1]; exact decide_eq_true h.2⟩, fun h => hr.2 (by rw [hr.1] at h; exact of_decide_eq_true h)⟩
 ·cases ns with
  | nil => exact absurd rfl h0
  | cons n t => exact ⟨_, aLX hI hc n t hl, ⟨fun h => (Bool.noConfusion h), fun h => absurd ((aco b).2 h.1) hc⟩, fun h => Bool.noConfusion h⟩
theorem aDL {b : acq} (hg : adk b) : ∀ {ns : List (Int × Int)}, (∀ n ∈ ns, aki b n) → aeu b ns = (b, 0)
 | [], _ => rfl
 | n :: t, h => by
   have e : afQ b n = (b, 0) := by unfold afQ; rw [if_pos ((aMC hg).2 (h n (by simp)))]
   unfold aeu
   rw [e, if_neg (by simp)]
   exact aDL hg fun m hm => h m (by simp [hm])
theorem aLP {b : acq} (hg : adk b) {ns : List (Int × Int)} (h : ∀ n ∈ ns, aki b n) : adg b ns = if adC (acp b) ((acd b).length + 1) then (b, 0) else (aif, 9) := by
 unfold adg
 rw [if_neg (by simp [(aco b).2 hg]), aDL hg h, if_neg (by simp)]
end Go.Proofs.ZzM
end
noncomputable section
namespace Go.Proofs.ZzM
open Go Go.Am
theorem aMc : ∀ (ns : List (Int × Int)) {b : acq}, adk b → (∀ g ∈ b.2.1, I64 g.2.2.2.2.1.1) → In (aB4 b ns).1
 | [], b, hg, hn => hg.inn hn
 | n :: t, b, hg, hn => by
   unfold aB4
   split
   ·exact hg.inn hn
   ·rename_i h
    have h' : (afQ b n).2 = 0 := by simpa using h
    exact aMc t (ayV hg h') (by rw [ayW h']; exact hn)
theorem aSR {b : acq} (hI : In b) {ns : List (Int × Int)} (hl : ns.length ≤ 1000) (h0 : ns ≠ []) {y : acq × Bool} (hy : aiM b ns = some y) : In y.1 := by
 by_cases hc : acy b = 0
 ·have hg := (aco b).1 hc
  rw [aHk hg hI.num hl] at hy
  cases hy
  exact aMc ns hg hI.num
 ·cases ns with
  | nil => exact absurd rfl h0
  | cons n t =>
    rw [aLX hI hc n t hl] at hy
    cases hy
    exact hI
theorem aIa {b : acq} {n : Int × Int} (h : aki b n) (c : Cmp) : aki (acl b c) n := by
 obtain ⟨g, hg, e, hd⟩ := h
 exact ⟨g, hg, e, ake hd⟩
theorem aTh {B : acq} (hR : aQQ B) {n : Int × Int} (hn : aki B n) {c : Cmp} (hp : (acz B c).2 = 0) (hg : adk (acl B c)) :
 agD (acl B c) n = (if (acz B c).1.1 ≤ c.2.2.2.2.1 ∧ c.2.2.2.2.1 ≤ (acz B c).1.2 then (aeO (aeI B n c) c.2.2.2.2.1, 0) else ((0, 0), 9)) ∧
 adg (acl B c) [n] = (if (acz B c).1.1 ≤ c.2.2.2.2.1 ∧ c.2.2.2.2.1 ≤ (acz B c).1.2 then (acl B c, 0) else (aif, 9)) ∧
 ((acz B c).1.1 ≤ c.2.2.2.2.1 ∧ c.2.2.2.2.1 ≤ (acz B c).1.2 → ivR (acl B c) n = aeO (aeI B n c) c.2.2.2.2.1 ∧ (ivR B n).1 ≤ (aeO (aeI B n c) c.2.2.2.2.1).1 ∧ (aeO (aeI B n c) c.2.2.2.2.1).1 ≤ (aeO (aeI B n c) c.2.2.2.2.1).2 ∧ (aeO (aeI B n c) c.2.2.2.2.1).2 ≤ (ivR B n).2 ∧ aQQ (acl B c)) := by
 have hpred := awJ hp
 have hiff := aO1 hpred (d := c) rfl hg
 have hq := aLP hg (ns := [n]) (fun k hk => by simp at hk; subst hk; exact aIa hn c)
 have ho : adg (acl B c) [n] = (if (acz B c).1.1 ≤ c.2.2.2.2.1 ∧ c.2.2.2.2.1 ≤ (acz B c).1.2 then (acl B c, 0) else (aif, 9)) := by
  rw [hq]
  by_cases h : (acz B c).1.1 ≤ c.2.2.2.2.1 ∧ c.2.2.2.2.1 ≤ (acz B c).1.2
  ·rw [if_pos h, if_pos (hiff.2 h)]
  ·rw [if_neg h, if_neg (fun e => h (hiff.1 e))]
 have hiv : (acz B c).1.1 ≤ c.2.2.2.2.1 ∧ c.2.2.2.2.1 ≤ (acz B c).1.2 → ivR (acl B c) n = aeO (aeI B n c) c.2.2.2.2.1 ∧ (ivR B n).1 ≤ (aeO (aeI B n c) c.2.2.2.2.1).1 ∧ (aeO (aeI B n c) c.2.2.2.2.1).1 ≤ (aeO (aeI B n c) c.2.2.2.2.1).2 ∧ (aeO (aeI B n c) c.2.2.2.2.1).2 ≤ (ivR B n).2 ∧ aQQ (acl B c) := by
  intro h
  have hop := hiff.2 h
  have hRm : aQQ (acl B c) := ⟨hg, hop, hR.num⟩
  have e : ivR (acl B c) n = aeO (aeI B n c) c.2.2.2.2.1 := aTl hp (d := c.2.2.2.2.1) hg hop n
  have hnm := aIa hn c
  have o1 := aRI hRm n
  obtain ⟨f1, z1, h1, v1⟩ := iv_at hRm hnm (t := (ivR (acl B c) n).1) (Int.le_refl _) o1
  obtain ⟨f2, z2, h2, v2⟩ := iv_at hRm hnm (t := (ivR (acl B c) n).2) o1 (Int.le_refl _)
  have i1 := iv_in hR hn (auC.1 h1).1
  have i2 := iv_in hR hn (auC.1 h2).1
  rw [← e]
  exact ⟨rfl, by omega, o1, by omega, hRm⟩
 refine ⟨?_, ho, hiv⟩
 unfold agD
 rw [ho]
 by_cases h : (acz B c).1.1 ≤ c.2.2.2.2.1 ∧ c.2.2.2.2.1 ≤ (acz B c).1.2
 ·rw [if_pos h, if_pos h]
  dsimp only
  rw [if_neg (by simp), (hiv h).1]
 ·rw [if_neg h, if_neg h]
  rfl
theorem aEM {s t l : Int × Int} (h1 : s.1 ≤ t.1) (h2 : t.1 ≤ t.2) (h3 : t.2 ≤ s.2) (hl : l.1 ≤ l.2) (hv : adu s l ≠ 3) : adu t l = adu s l := by
 unfold adu at hv ⊢
 split at hv
 ·rename_i h; rw [if_pos h, if_pos (by omega)]
 ·rename_i h
  split at hv
  ·rename_i g; rw [if_neg h, if_pos g, if_neg (by omega), if_pos (by omega)]
  ·exact absurd rfl hv
theorem aKF {b : acq} (hn : ∀ g ∈ b.2.1, I64 g.2.2.2.2.1.1) (n l : Int × Int) (c : Cmp) : ah8 b n l c = some true := by
 unfold ah8 ahQ
 rw [few_ok, ab1, aNq]
 by_cases hf : fewP b = true
 case neg => rw [Bool.eq_false_iff.2 hf]; rfl
 have hI : In b := ⟨aRV hf, hn⟩
 rw [hf, ack (by rfl), aJX, ab1]
 by_cases hb : axC c = true
 case neg => rw [Bool.eq_false_iff.2 hb]; rfl
 rw [hb, ack (by rfl)]
 simp only [axC, Bool.and_eq_true, decide_eq_true_eq] at hb
 obtain ⟨y, hy, hy1, hy2⟩ := aQ6 hI (ns := [n]) (by simp) (by simp)
 have hyI := aSR hI (by simp) (by simp) hy
 rw [hy, ab1, anA hI, ab1, aEI hyI.size hyI.num (by omega) (by omega), ab1]
 by_cases hok : y.2 = true
 case neg => rw [Bool.eq_false_iff.2 hok]; rfl
 rw [hok, ack (by rfl)]
 by_cases e1 : (agD b n).2 = 0
 case neg => rw [acv (bne_iff_ne.2 e1), ab1]
 rw [ack (by rw [e1]; rfl)]
 by_cases hp : (acz y.1 c).2 = 0
 case neg => rw [acv (bne_iff_ne.2 hp), ab1]
 rw [ack (by rw [hp]; rfl), aLN hyI.size hyI.num (by omega) (by omega), ab1]
 by_cases hw : (aly y.1 c).2 = 0
 case neg => rw [acv (bne_iff_ne.2 hw), ab1]
 obtain ⟨hgB, hgm, ew⟩ := aOm hw
 have ho : (adg b [n]).2 = 0 := by
  unfold agD at e1
  by_cases h : (adg b [n]).2 = 0
  ·exact h
  ·rw [if_pos h] at e1; exact absurd e1 h
 obtain ⟨hR, hB, hr0, hg0⟩ := agw hI ho
 have hA := aNx hI ho
 have hnd := hA.nodes n (by simp)
 have ey : y.1 = (adg b [n]).1 := by rw [hB, hy2 hok]
 rw [ey] at hp hgm ew hgB ⊢
 have eI : agD b n = (ivR (adg b [n]).1 n, 0) := by unfold agD; rw [if_neg (by simp [ho])]
 have eW : aEF b n c = (aDr (aeI (adg b [n]).1 n c), 0) := by unfold aEF; rw [if_neg (by simp [ho]), if_neg (by simp [hp])]
 have eJ : ¬ l.2 < l.1 → aBX b n l = (adu (ivR (adg b [n]).1 n) l, 0) := fun h => by unfold aBX; rw [if_neg (by simp [ho]), if_neg h]
 have eS : ¬ l.2 < l.1 → aqi b n l c = (ako (aeI (adg b [n]).1 n c) (ayf l.1, ayf l.2), 0) := fun h => by unfold aqi; rw [if_neg (by simp [ho]), if_neg h, if_neg (by simp [hp])]
 rw [eI]
 generalize (adg b [n]).1 = B at hR hnd hp hgm ew hgB eW eJ eS ⊢
 have hIm : In (acl B c) := hgm.inn hR.num
 obtain ⟨m1, m2, m3⟩ := aTh hR hnd hp hgm
 have hwk := aEL (n := n) hp
 rw [ew]
 dsimp only
 rw [ack (by rfl), anA hIm, ab1, aNX, ab1]
 by_cases hin : (acz B c).1.1 ≤ c.2.2.2.2.1 ∧ c.2.2.2.2.1 ≤ (acz B c).1.2
 ·rw [m1, if_pos hin, decide_eq_true hin.1, decide_eq_true hin.2]
  obtain ⟨q1, q2, q3, q4, q5⟩ := m3 hin
  have bd := iv_bd hR n
  have hmx := aOz (aeI B n c) (d := c.2.2.2.2.1) hin.1 hin.2
  unfold afI at hmx
  dsimp only
  rw [ack (by rfl), aNa hI n (by omega) (by omega), ab1, eW, ack (by rfl), ack (by rfl), ack (decide_eq_false (by omega)), ack (decide_eq_false (by omega)), acs (by omega) (by omega), ack (decide_eq_false (by omega))]
  by_cases hl : l.2 < l.1
  ·rw [acv (decide_eq_true hl), ab1]
  rw [ack (decide_eq_false (by omega)), aHd hI, ab1, aHd hIm, ab1, aEH hI n l (by omega) (by omega), ab1, ab1, aei, eJ hl, eS hl]
  have eJm : aBX (acl B c) n l = (adu (aeO (aeI B n c) c.2.2.2.2.1) l, 0) := by
   unfold aBX
   rw [m2, if_pos hin]
   dsimp only
   rw [if_neg (by simp), if_neg hl, q1]
  have hfar := aLp (s := aeO (aeI B n c) c.2.2.2.2.1) (l := l) (by omega) (by omega)
  rw [eJm]
  dsimp only
  rw [acv (by rfl), acv (by rfl), acv (by rfl)]
  have hset : ako (aeI B n c) (ayf l.1, ayf l.2) = true → adu (aeO (aeI B n c) c.2.2.2.2.1) l ≠ 3 := fun h => by
   have := aNo (aeI B n c) (ayf l.1, ayf l.2) h c.2.2.2.2.1 hin.1 hin.2
   rw [hfar] at this
   exact this
  have fin : (ifb (!ako (aeI B n c) (ayf l.1, ayf l.2)) (some true) (some (ine (adu (aeO (aeI B n c) c.2.2.2.2.1) l) 3))) = some true := by
   cases hS : ako (aeI B n c) (ayf l.1, ayf l.2) with
   | false => rfl
   | true => exact congrArg some (bne_iff_ne.2 (hset hS))
  by_cases hv : adu (ivR B n) l = 3
  ·rw [acv (beq_iff_eq.2 hv)]
   exact fin
  ·rw [ack (beq_eq_false_iff_ne.2 hv), acv (beq_iff_eq.2 (aEM q2 q3 q4 (by omega) hv))]
   exact fin
 ·have hfalse : (decide ((acz B c).1.1 ≤ c.2.2.2.2.1) && decide (c.2.2.2.2.1 ≤ (acz B c).1.2)) = false := by
   rw [Bool.and_eq_false_iff]
   by_cases h : (acz B c).1.1 ≤ c.2.2.2.2.1
   ·exact .inr (decide_eq_false fun h2 => hin ⟨h, h2⟩)
   ·exact .inl (decide_eq_false h)
  rw [m1, if_neg hin, hfalse, acv (by rfl), ab1]
  rfl
end Go.Proofs.ZzM
end