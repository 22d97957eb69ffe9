/- lemmas -/
import Derived.Test.YthhhehllmdfhiaaGreatPlA
import Derived.Test.YthhhehllmdfhiaaGreatMdTA
set_option linter.all false
set_option linter.unusedSectionVars false
set_option linter.unusedVariables false
set_option linter.unusedSimpArgs false
noncomputable section
namespace Go.Proofs.ZzM
open Go Go.Am
section
variable {L : List Lk} {N : Nat}
theorem Wl.app {u v : Int} {vs : List Int} {d : Int} (h1 : Wl L (fun x => x = u) vs v d) {ws : List Int} {w e : Int} (h2 : Wl L (fun x => x = v) ws w e) : ∃ xs, Wl L (fun x => x = u) xs w (d + e) := by
 induction h2 with
 | nil h => subst h; exact ⟨vs, by rw [Int.add_zero]; exact h1⟩
 | step hw hx ih =>
   obtain ⟨xs, hi⟩ := ih
   have := Wl.step hi hx
   rw [Int.add_assoc] at this
   exact ⟨_, this⟩
def dst (L : List Lk) (N : Nat) (s t : Int) : Int := gv (alx L N s) t
theorem aQv (h : afH L N) (ht : aB2 L N) (ho : adV L N = true) {s t : Int} (hs : 0 ≤ s ∧ s < N) (hv : 0 ≤ t ∧ t < N) : dst L N s t ≤ 9007199254740992 := by
 have h2 := h.n60
 obtain ⟨p, hp⟩ := (afd h.links (by omega)).1 ho
 obtain ⟨vs, d, hw, hd⟩ := ht.from' s hs.1 hs.2
 obtain ⟨ws, e, hx, he⟩ := ht.to t hv.1 hv.2
 obtain ⟨xs, hy⟩ := Wl.app hw hx
 have := (aid h.links (by omega) hp hs).low t xs _ (aPv.2 hy)
 unfold dst
 omega
theorem aQu (h : afH L N) (ht : aB2 L N) (ho : adV L N = true) {s t : Int} (hs : 0 ≤ s ∧ s < N) (hv : 0 ≤ t ∧ t < N) : dst L N s t ≠ ae7 := by
 have := aQv h ht ho hs hv
 unfold ae7
 omega
theorem aQt (h : afH L N) (ht : aB2 L N) (ho : adV L N = true) {s : Int} (hs : 0 ≤ s ∧ s < N) : Pot L (dst L N s) := by
 have h2 := h.n60
 obtain ⟨p, hp⟩ := (afd h.links (by omega)).1 ho
 intro u v m hl
 have hr := h.inr _ hl
 exact (aid h.links (by omega) hp hs).pot h.inr hl (aQu h ht ho hs hr.1)
theorem aNc (h : afH L N) (ho : adV L N = true) {s : Int} (hs : 0 ≤ s ∧ s < N) : dst L N s s = 0 := aL6 h ho hs.1 hs.2
theorem aG7 (h : afH L N) (ht : aB2 L N) (ho : adV L N = true) {s t : Int} (hs : 0 ≤ s ∧ s < N) (hv : 0 ≤ t ∧ t < N) {p : Int → Int} (hp : Pot L p) : p t - p s ≤ dst L N s t := by
 have h2 := h.n60
 obtain ⟨vs, hw⟩ := (aid h.links (by omega) hp hs).att t hv.1 hv.2 (aQu h ht ho hs hv)
 obtain ⟨u, hu, hx⟩ := (aPv.1 hw).pot hp
 subst hu
 exact hx
theorem aQw (h : afH L N) (ht : aB2 L N) (ho : adV L N = true) {x y : Int} (hx : 0 ≤ x ∧ x < N) (hy : 0 ≤ y ∧ y < N) {t : Int} (h1 : -(dst L N x y) ≤ t) (h2 : t ≤ dst L N y x) : ∃ p, Pot L p ∧ p x - p y = t := by
 refine ⟨fun v => min (dst L N y v) (dst L N x v + t), fun u v m hl => ?_, ?_⟩
 ·have a1 := aQt h ht ho hy u v m hl
  have a2 := aQt h ht ho hx u v m hl
  show min _ _ ≤ min _ _ + m
  omega
 ·have e1 := aNc h ho hx
  have e2 := aNc h ho hy
  show min (dst L N y x) (dst L N x x + t) - min (dst L N y y) (dst L N x y + t) = t
  omega
theorem aBy (h : afH L N) (ht : aB2 L N) (ho : adV L N = true) {x y : Int} (hx : 0 ≤ x ∧ x < N) (hy : 0 ≤ y ∧ y < N) : -(dst L N x y) ≤ dst L N y x := by
 have h2 := h.n60
 obtain ⟨p, hp⟩ := (afd h.links (by omega)).1 ho
 have a1 := aG7 h ht ho hx hy hp
 have a2 := aG7 h ht ho hy hx hp
 omega
theorem aNd (h : afH L N) (ht : aB2 L N) (ho : adV L N = true) {s t : Int} (hs : 0 ≤ s ∧ s < N) (hv : 0 ≤ t ∧ t < N) : -9007199254740992 ≤ dst L N s t ∧ dst L N s t ≤ 9007199254740992 := by
 have a1 := aQv h ht ho hs hv
 have a2 := aQv h ht ho hv hs
 have a3 := aBy h ht ho hv hs
 omega
theorem aqi (h : afH L N) (ht : aB2 L N) {s t : Int} (hs : 0 ≤ s ∧ s < N) (hv : 0 ≤ t ∧ t < N) : afk L N s t = if adV L N then (dst L N s t, 0) else (0, 9) := by
 unfold afk
 by_cases ho : adV L N = true
 ·have hne := aQu h ht ho hs hv
  unfold dst at hne ⊢
  rw [if_neg (by simp [ho]), if_neg hne, if_pos ho]
 ·rw [if_pos (by simpa using ho), if_neg ho]
end
section
variable {b : acs} {c : Cmp}
theorem aTM (h' : adi (acx b c)) : GL (acx b c) (acJ (acx b c)) := by
 intro i g hg l hl
 rw [aLH]
 exact List.mem_append.2 (.inl (List.mem_flatMap.2 ⟨g, List.mem_of_getElem? hg, hl⟩))
theorem agA (h' : adi (acx b c)) : aB2 (acJ (acx b c)) ((aca (acx b c)).length + 1) := h'.tiedL (aTM h')
theorem agd (h' : adi (acx b c)) : afH (acJ (acx b c)) ((aca (acx b c)).length + 1) :=
 h'.sys.sub (fun l hl => List.mem_of_mem_take hl) (by unfold acJ; rw [List.length_take]; omega)
theorem ajZ (h : adi b) (h' : adi (acx b c)) : adV (acJ (acx b c)) ((aca (acx b c)).length + 1) = adV (ack b) ((aca b).length + 1) := by
 have n1 := h.sys.n60
 have n2 := (agd h').n60
 rw [Bool.eq_iff_iff, afd (agd h').links (by omega), afd h.sys.links (by omega)]
 exact (aPt h h').symm
theorem apO : c ∈ (acx b c).2.2.2.2.1 := by simp [acx]
theorem arh (h' : adi (acx b c)) : 0 ≤ cx (acx b c) c ∧ cx (acx b c) c < ((aca (acx b c)).length + 1 : Nat) := (aG9 h' apO).rng
theorem arf (h' : adi (acx b c)) : 0 ≤ cy (acx b c) c ∧ cy (acx b c) c < ((aca (acx b c)).length + 1 : Nat) := (aBC h' apO).rng
def dLo (b : acs) (c : Cmp) : Int := -(dst (acJ (acx b c)) ((aca (acx b c)).length + 1) (cx (acx b c) c) (cy (acx b c) c))
def dHi (b : acs) (c : Cmp) : Int := dst (acJ (acx b c)) ((aca (acx b c)).length + 1) (cy (acx b c) c) (cx (acx b c) c)
theorem aB3 (h : adi b) (h' : adi (acx b (ab6 c))) : adx b c = if adV (ack b) ((aca b).length + 1) then azc b (ab6 c) (dLo b (ab6 c), dHi b (ab6 c)) else ((0, 0), 9) := by
 have e : apD b (ab6 c) = (acx b (ab6 c), 0) := by
  unfold apD
  rw [if_neg (by simp [(acu b).2 h]), if_neg (by simp [(acu _).2 h'])]
 unfold adx
 rw [e, aqi (agd h') (agA h') (arf h') (arh h'), aqi (agd h') (agA h') (arh h') (arf h'), ajZ h h']
 by_cases ho : adV (ack b) ((aca b).length + 1) = true
 ·rw [if_pos ho, if_pos ho, if_pos ho]
  rfl
 ·rw [if_neg ho, if_neg ho, if_neg ho]
  rfl
theorem ajo (hp : (adx b c).2 = 0) : adi b ∧ adi (acx b (ab6 c)) := by
 have hw : (apD b (ab6 c)).2 = 0 := by
  unfold adx at hp
  by_cases hw : (apD b (ab6 c)).2 = 0
  ·exact hw
  ·rw [if_pos hw] at hp; exact hp
 unfold apD at hw
 by_cases hb : acw b = 0
 ·rw [if_neg (by simp [hb])] at hw
  by_cases hm : acw (acx b (ab6 c)) = 0
  ·exact ⟨(acu b).1 hb, (acu _).1 hm⟩
  ·rw [if_pos hm] at hw; exact absurd hw hm
 ·rw [if_pos hb] at hw; exact absurd hw hb
theorem aKG {s : Int × Int} (h : (azc b c s).2 = 0) : aLB b c ≤ asi b c ∧ azc b c s = ((s.1 + aLB b c, s.2 + asi b c), 0) := by
 unfold azc at h ⊢
 split at h
 ·simp at h
 ·rename_i hl
  rw [if_neg hl]
  exact ⟨by omega, rfl⟩
end
end Go.Proofs.ZzM
end
noncomputable section
namespace Go.Proofs.ZzM
open Go Go.Am
structure aSP (B : acs) : Prop where
 good : adi B
 op : adV (ack B) ((aca B).length + 1) = true
 num : ∀ g ∈ B.2.1, I64 g.2.2.2.2.1.1
theorem aip {b : acs} (hI : In b) {ns : List (Int × Int)} (e : (ady b ns).2 = 0) : aSP (ady b ns).1 ∧ (ady b ns).1 = (agt b ns).1 ∧ (agt b ns).2 = 0 ∧ adi b := by
 unfold ady at e ⊢
 by_cases hc : acw b = 0
 ·rw [if_neg (by simp [hc])] at e ⊢
  by_cases hr : (agt b ns).2 = 0
  ·rw [if_neg (by simp [hr])] at e ⊢
   cases ho : adV (ack (agt b ns).1) ((aca (agt b ns).1).length + 1) with
   | true =>
     rw [if_pos rfl]
     exact ⟨⟨azi ((acu b).1 hc) hr, ho, by rw [arw hr]; exact hI.num⟩, rfl, hr, (acu b).1 hc⟩
   | false => rw [ho] at e; simp at e
  ·rw [if_pos hr] at e; exact absurd e hr
 ·rw [if_pos hc] at e; exact absurd e hc
theorem aeb (B : acs) (n : Int × Int) : 0 ≤ aki B n.1 n.2 ∧ aki B n.1 n.2 < ((aca B).length + 1 : Nat) := by
 unfold aki
 cases h : agq (aca B) n.1 n.2 with
 | none => dsimp only; omega
 | some j => have := (agX h).1; dsimp only; omega
theorem aBW {B : acs} (h : adi B) (hn : ∀ g ∈ B.2.1, I64 g.2.2.2.2.1.1) (s : Sys) (n : Int × Int) : aeZ (B, s) n = some (aki B n.1 n.2) := by
 unfold aeZ arQ
 rw [show ad1 (B, s).1 n = ad1 B n from rfl, au3 (h.inn hn), abZ, anz h]
 split
 ·rename_i e; rw [e]
 ·rfl
theorem aKh {B : acs} {L : List Lk} {N : Nat} (h : afH L N) {to from' : Int} (h1 : 0 ≤ to ∧ to < N) (h2 : 0 ≤ from' ∧ from' < N) : acV (B, (N : Int), L) to from' = some (afk L N from' to).1 := by
 unfold acV ak9
 rw [show (B, (N : Int), L).2 = ((N : Int), L) from rfl, ay2 h h2 h1, abZ]
def aDB (B : acs) : Sys := (((aca B).length : Int) + 1, ack B)
def aSi (B : acs) (s t : Int) : Int := dst (ack B) ((aca B).length + 1) s t
def ivR (B : acs) (n : Int × Int) : Int × Int := (-(aSi B (aki B n.1 n.2) 0), aSi B 0 (aki B n.1 n.2))
theorem ay6 (B : acs) : aDB B = ((((aca B).length + 1 : Nat) : Int), ack B) := by unfold aDB; push_cast; rfl
theorem ae8 (B : acs) : 0 ≤ (0 : Int) ∧ (0 : Int) < ((aca B).length + 1 : Nat) := by omega
section
variable {B : acs} (h : aSP B)
include h
theorem aww {s t : Int} (hs : 0 ≤ s ∧ s < ((aca B).length + 1 : Nat)) (ht : 0 ≤ t ∧ t < ((aca B).length + 1 : Nat)) : -9007199254740992 ≤ aSi B s t ∧ aSi B s t ≤ 9007199254740992 :=
 aNd h.good.sys h.good.tied h.op hs ht
theorem aqf {to from' : Int} (h1 : 0 ≤ to ∧ to < ((aca B).length + 1 : Nat)) (h2 : 0 ≤ from' ∧ from' < ((aca B).length + 1 : Nat)) : acV (B, aDB B) to from' = some (aSi B from' to) := by
 rw [ay6, aKh h.good.sys h1 h2, aqi h.good.sys h.good.tied h2 h1, if_pos h.op]
 rfl
theorem aEl (n : Int × Int) : aeY (B, aDB B) n = some (-(aSi B (aki B n.1 n.2) 0)) := by
 unfold aeY ak8
 have hb := aww h (aeb B n) (ae8 B)
 rw [aBW h.good h.num, abZ, aqf h (ae8 B) (aeb B n), abZ, acm (by omega) (by omega)]
 congr 1
 omega
theorem auH (n : Int × Int) : afj (B, aDB B) n = some (aSi B 0 (aki B n.1 n.2)) := by
 unfold afj ahX
 rw [aBW h.good h.num, abZ, aqf h (aeb B n) (ae8 B), abZ]
theorem anh (n : Int × Int) : aen (B, aDB B) n = some (ivR B n) := by
 unfold aen ahW
 rw [aEl h, abZ, auH h, abZ]
 rfl
end
def apE (b : acs) (n : Int × Int) : (Int × Int) × Int := if (ady b [n]).2 ≠ 0 then ((0, 0), (ady b [n]).2) else (ivR (ady b [n]).1 n, 0)
theorem asu {b : acs} (hI : In b) (n : Int × Int) : acU b n = some (apE b n) := by
 unfold acU aoL apE
 refine (amt hI (ns := [n]) (by simp) (fun e => some (((0, 0) : Int × Int), e)) (fun e he => by rw [adG (by simp [ine, he])]) (fun z he => by rw [adG (by simp [ine, he])]) (fun _ _ _ => rfl)).trans ?_
 split
 ·rfl
 ·rename_i e
  have hr := (aip hI (by simpa using e)).1
  dsimp only
  rw [apk, show ((((aca (ady b [n]).1).length : Int) + 1, ack (ady b [n]).1) : Sys) = aDB (ady b [n]).1 from rfl, anh hr, abZ]
theorem aOA {ρ : Type} : @alg ρ = @ac2 ρ := rfl
theorem aR2 {ρ : Type} : @aoK ρ = @ac2 ρ := rfl
def btR (B : acs) (m n : Int × Int) : Int × Int := (-(aSi B (aki B m.1 m.2) (aki B n.1 n.2)), aSi B (aki B n.1 n.2) (aki B m.1 m.2))
def aHw (b : acs) (m n : Int × Int) : (Int × Int) × Int := if (ady b [m, n]).2 ≠ 0 then ((0, 0), (ady b [m, n]).2) else (btR (ady b [m, n]).1 m n, 0)
theorem aOH {b : acs} (hI : In b) (m n : Int × Int) : anl b m n = some (aHw b m n) := by
 unfold anl arY aHw
 rw [aOA]
 refine (amt hI (ns := [m, n]) (by simp) (fun e => some (((0, 0) : Int × Int), e)) (fun e he => by rw [adG (by simp [ine, he])]) (fun z he => by rw [adG (by simp [ine, he])]) (fun _ _ _ => rfl)).trans ?_
 split
 ·rfl
 ·rename_i e
  have hr := (aip hI (by simpa using e)).1
  dsimp only
  generalize (ady b [m, n]).1 = B at hr ⊢
  have hb := aww hr (aeb B m) (aeb B n)
  rw [apk, show ((((aca B).length : Int) + 1, ack B) : Sys) = aDB B from rfl, aBW hr.good hr.num, abZ, aBW hr.good hr.num, abZ, aqf hr (aeb B n) (aeb B m), abZ,
   acm (by omega) (by omega), aqf hr (aeb B m) (aeb B n), abZ]
  unfold btR
  rw [Int.zero_sub]
def akk (s l : Int × Int) : Int := if l.1 ≤ s.1 ∧ s.2 ≤ l.2 then 1 else if s.2 < l.1 ∨ l.2 < s.1 then 2 else 3
theorem aDy (s l : Int × Int) : aj2 s l = some (akk s l) := by
 unfold aj2 arO akk
 simp only [adA, ile, ilt, decide_eq_true_eq]
 by_cases h1 : l.1 ≤ s.1 <;> by_cases h2 : s.2 ≤ l.2 <;> by_cases h3 : s.2 < l.1 <;> by_cases h4 : l.2 < s.1 <;> simp [h1, h2, h3, h4]
def aRi (b : acs) (n l : Int × Int) : Int × Int := if (ady b [n]).2 ≠ 0 then (0, (ady b [n]).2) else if l.2 < l.1 then (0, 1) else (akk (ivR (ady b [n]).1 n) l, 0)
theorem aSR {b : acs} (hI : In b) (n l : Int × Int) : auP b n l = some (aRi b n l) := by
 unfold auP az0 aRi
 rw [aR2]
 refine (amt hI (ns := [n]) (by simp) (fun e => some ((0 : Int), e)) (fun e he => by rw [acp (by simp [ine, he])]) (fun z he => by rw [acp (by simp [ine, he])]) (fun _ _ _ => rfl)).trans ?_
 split
 ·rfl
 ·rename_i e
  have hr := (aip hI (by simpa using e)).1
  dsimp only
  by_cases hl : l.2 < l.1
  ·rw [acp (by simp [igt, hl]), if_pos hl]
  ·rw [aci (by simp [igt]; omega), if_neg hl, apk, show ((((aca (ady b [n]).1).length : Int) + 1, ack (ady b [n]).1) : Sys) = aDB (ady b [n]).1 from rfl, anh hr, abZ, aDy, abZ]
end Go.Proofs.ZzM
end
noncomputable section
namespace Go.Proofs.ZzM
open Go Go.Am
def aB5 (x y : List Int) : List Int × List Int × Int := if !aja x then ([], [], 1) else if !aja y then ([], [], 1) else (ac4 x y, ac4 y x, 0)
theorem aKt {x y : List Int} (hx : x.length ≤ 100000) (hy : y.length ≤ 100000) : amk x y = some (aB5 x y) := by
 unfold amk awf aB5
 rw [auA (by omega), abZ]
 cases aja x with
 | false => rfl
 | true =>
   rw [auA (by omega), abZ]
   cases aja y with
   | false => rfl
   | true =>
     rw [alp (by omega) (by omega), abZ, alp (by omega) (by omega), abZ]
     rfl
end Go.Proofs.ZzM
end
noncomputable section
namespace Go.Proofs.ZzM
open Go Go.Am
theorem aJU (ls : List (List Int)) (i : Nat) : (ls.take i).flatten.length ≤ ls.flatten.length := by
 conv => rhs; rw [← List.take_append_drop i ls, List.flatten_append, List.length_append]
 omega
theorem ajC {ls : List (List Int)} (hl : ls.length ≤ 1000000) (hf : ls.flatten.length ≤ 1000000) : acy ls = some ls.flatten := by
 have hk : ∀ n : Nat, n ≤ 4000000 → ∀ (f : Int → Option (List Int)), ck (n : Int) f = f n := fun n h f => acm (by omega) (by omega) f
 have second : ach (fun (v9 : (Val (.pair tI (.slice tI)))) kk12 => acE ls (aco ls) v9.1 v9.2 (fun u10 u11 => kk12 (u10, u11)) (fun z8 => some z8)) ((0 : Int), ([] : List Int)) = some ls.flatten := by
  refine ac9 ls (fun i => (ls.take i).flatten) (some ls.flatten) (f := fun (v9 : (Val (.pair tI (.slice tI)))) kk12 => acE ls (aco ls) v9.1 v9.2 (fun u10 u11 => kk12 (u10, u11)) (fun z8 => some z8)) rfl (fun i x hi hx kn => ?_) (fun kn => ?_)
  ·try dsimp only
   unfold acE
   have h1 := aJU ls (i + 1)
   rw [take_succ hx, List.flatten_append, List.length_append] at h1
   simp only [List.flatten_cons, List.flatten_nil, List.append_nil] at h1
   rw [acj hi, ace hx, acg hi (by omega), take_succ hx, List.flatten_append]
   have : acK ((List.take i ls).flatten.length + x.length) = true := acl (by omega)
   rw [adG this]
   simp
  ·try dsimp only
   unfold acE
   rw [acH]
   simp
 unfold acy afP
 refine afS (fun x : Int × Int => ∃ i : Nat, i ≤ ls.length ∧ x = (((ls.take i).flatten.length : Int), (i : Int))) (fun x => ls.length - x.2.toNat) ?_ ⟨0, by omega, rfl⟩
 rintro x ⟨i, hi, rfl⟩
 rcases Nat.lt_or_ge i ls.length with h2 | h2
 ·refine .inr ⟨(((ls.take (i + 1)).flatten.length : Int), (i : Int) + 1), ⟨i + 1, h2, by simp⟩, by simp; omega, fun kn => ?_⟩
  obtain ⟨x, hx⟩ : ∃ x, ls[i]? = some x := ⟨_, List.getElem?_eq_getElem h2⟩
  have h1 := aJU ls (i + 1)
  rw [take_succ hx, List.flatten_append, List.length_append] at h1
  simp only [List.flatten_cons, List.flatten_nil, List.append_nil] at h1
  try dsimp only
  unfold adt
  rw [acj h2, ace hx, acB]
  have e1 : (((List.take i ls).flatten.length : Int) + (x.length : Int)) = ((List.take i ls).flatten.length + x.length : Nat) := by omega
  rw [e1, hk _ (by omega)]
  have : ilt ((((List.take i ls).flatten.length + x.length : Nat)) : Int) 0 = false := by simp [ilt]; omega
  rw [aci this, acg h2 (by omega), take_succ hx]
  simp
 ·refine .inl fun kn => ?_
  obtain rfl : i = ls.length := by omega
  try dsimp only
  unfold adt
  rw [acH, List.take_length]
  have e2 : ilt ((ls.flatten.length : Nat) : Int) 0 = false := decide_eq_false (by omega)
  dsimp only
  rw [aci e2, Int.sub_zero, hk _ (by omega)]
  rcases Nat.eq_zero_or_pos ls.flatten.length with h0 | h0
  ·have : igt (ls.flatten.length : Int) 0 = false := decide_eq_false (by omega)
   rw [aci this]
   exact second
  ·have : igt (ls.flatten.length : Int) 0 = true := decide_eq_true (by omega)
   rw [acp this]
   have : ((ilt (0 : Int) (ls.flatten.length : Int)) && (acK (Int.toNat (ls.flatten.length : Int)))) = true := by
    rw [Int.toNat_natCast, acl (by omega), Bool.and_true]
    exact decide_eq_true (by omega)
   rw [adG this]
   have : ile 0 (adE (List.replicate (Int.toNat (ls.flatten.length : Int)) (0 : Int))) = true := decide_eq_true (Int.natCast_nonneg _)
   rw [adG this]
   exact second
def onP (day : Int) (ids : List Int) : List (Int × Int) := ids.map fun id => (id, day)
theorem aO6 {day : Int} {ls : List (List Int)} (hl : ls.length ≤ 1000000) (hf : ls.flatten.length ≤ 1000000) : auN day ls = some (onP day ls.flatten) := by
 unfold auN azO
 rw [ajC hl hf, abZ]
 refine ac9 ls.flatten (fun i => onP day (ls.flatten.take i)) _ rfl (fun i x hi hx kn => ?_) (fun kn => ?_)
 ·try dsimp only
  unfold akw
  rw [acj hi, ace hx, acg hi (by omega), take_succ hx]
  have : acK (List.length (onP day (ls.flatten.take i)) + List.length ([(x, day)])) = true := acl (by simp [onP]; omega)
  rw [adG this]
  simp [onP]
 ·try dsimp only
  unfold akw
  rw [acH, List.take_length]
theorem aRz {l : List Int} (hl : l.length ≤ 100000) (m : Int) : ayV l m = some (aja l && decide ((l.length : Int) ≤ m)) := by
 unfold ayV aFu
 rw [aKt hl (by simp), abZ]
 have e0 : aja [] = true := by decide
 unfold aB5
 rw [e0, acB]
 cases aja l <;> rfl
theorem aTo (n : Int) : auO n = some (aLP n) := by
 unfold auO azT aLP inP
 rw [adA]
 by_cases h : 0 ≤ n
 ·rw [if_pos (by simpa [ige] using h)]; simp [h]
 ·rw [if_neg (by simpa [ige] using h)]; simp [h]
theorem aR7 {ρ α : Type} (l : List α) (i : Int) (f : α → Option ρ) : acO ((ile (0 : Int) i) && (ilt i (adE l))) (afn l (Int.toNat i) f) = adu l i f := by
 unfold adu
 by_cases h0 : 0 ≤ i
 ·by_cases h1 : i < l.length
  ·have e : ((ile (0 : Int) i) && (ilt i (adE l))) = true := by simp [ile, ilt, h0, h1]
   rw [adG e]
   simp only [h0, decide_true]
   unfold afn
   rfl
  ·have e : ((ile (0 : Int) i) && (ilt i (adE l))) = false := by simp [ile, ilt, h1]
   rw [e]
   simp only [h0, decide_true]
   rw [List.getElem?_eq_none (by omega)]
   rfl
 ·have e : ((ile (0 : Int) i) && (ilt i (adE l))) = false := by simp [ile, ilt, h0]
  rw [e]
  simp only [h0, decide_false]
  rfl
theorem aTx {ρ : Type} (ns : List (Int × Int)) (n : Int) : @amL ρ ns n = @ac2 ρ n ns := by
 funext v0 v1 v2 v3 v4 v5 v6 v7 kn k0 k1
 unfold amL ac2
 rw [aR7]
def aMr (B : acs) (ns : List (Int × Int)) (s : Int × Int) : Int × Int := ns.foldl (fun s n => (s.1 + (ivR B n).1, s.2 + (ivR B n).2)) s
def pileR (B : acs) (f : Int × Int) (ns : List (Int × Int)) : Int × Int := aMr B ns (((ns.length : Int) - 1) * f.1, ((ns.length : Int) - 1) * f.2)
def aUc (b : acs) (day : Int) (ids : List Int) : (Int × Int) × Int :=
 if acw b ≠ 0 then ((0, 0), acw b) else if ids.length = 0 ∨ aja ids = false ∨ aLP day = false then ((0, 0), 1) else
 if (ady b (onP day ids)).2 ≠ 0 then ((0, 0), (ady b (onP day ids)).2) else (pileR (ady b (onP day ids)).1 b.1 (onP day ids), 0)
theorem aKD (B : acs) (x y : List (Int × Int)) (s : Int × Int) : aMr B (x ++ y) s = aMr B y (aMr B x s) := by unfold aMr; rw [List.foldl_append]
theorem aO1 {B : acs} (h : aSP B) : ∀ (ns : List (Int × Int)) (s : Int × Int) (m : Int), -m ≤ s.1 ∧ s.1 ≤ m → -m ≤ s.2 ∧ s.2 ≤ m →
 (-(m + ns.length * 9007199254740992) ≤ (aMr B ns s).1 ∧ (aMr B ns s).1 ≤ m + ns.length * 9007199254740992) ∧ (-(m + ns.length * 9007199254740992) ≤ (aMr B ns s).2 ∧ (aMr B ns s).2 ≤ m + ns.length * 9007199254740992)
 | [], s, m, h1, h2 => by unfold aMr; simp; omega
 | n :: t, s, m, h1, h2 => by
   have b1 := aww h (aeb B n) (ae8 B)
   have b2 := aww h (ae8 B) (aeb B n)
   have := aO1 h t (s.1 + (ivR B n).1, s.2 + (ivR B n).2) (m + 9007199254740992) (by unfold ivR; dsimp only; omega) (by unfold ivR; dsimp only; omega)
   show (-(m + ((n :: t).length : Nat) * 9007199254740992) ≤ (aMr B t _).1 ∧ _) ∧ _
   unfold aMr at this ⊢
   simp only [List.foldl_cons, List.length_cons]
   push_cast
   omega
theorem aUb {b : acs} (hI : In b) (day : Int) {ids : List Int} (hl : ids.length ≤ 1000) : ayW b day ids = some (aUc b day ids) := by
 unfold ayW aFU aUc
 rw [afC hI.size hI.num, abZ, aRz (by omega), abZ, aTo, abZ, acB]
 by_cases hc : acw b = 0
 ·rw [aci (by simp [ine, hc]), if_neg (show ¬ (acw b ≠ 0) from fun h => h hc)]
  by_cases h0 : ids.length = 0
  ·rw [acp (by simp [ieq, h0]), if_pos (.inl h0)]
  ·rw [aci (beq_eq_false_iff_ne.2 (by omega))]
   by_cases h1 : aja ids = true
   ·have hp := (aH4 ids).1 h1
    have e1 : (aja ids && decide ((ids.length : Int) ≤ 6)) = true := by rw [h1]; simp; omega
    rw [e1, aci (by rfl)]
    by_cases h2 : aLP day = true
    ·have hg := (acu b).1 hc
     rw [aci (by rw [h2]; rfl), if_neg (by simp [h0, h1, h2]), aO6 (by simp) (by simp; omega), abZ]
     have hlen : (onP day ids).length = ids.length := by simp [onP]
     rw [show ([ids] : List (List Int)).flatten = ids by simp, aTx, ← afC hI.size hI.num]
     refine (amt hI (ns := onP day ids) (by omega) (fun e => some (((0, 0) : Int × Int), e)) (fun e he => by rw [acp (by simp [ine, he])]) (fun z he => by rw [acp (by simp [ine, he])]) (fun _ _ _ => rfl)).trans ?_
     split
     ·rfl
     ·rename_i e
      have hr := (aip hI (by simpa using e)).1
      have hf := hg.film
      dsimp only
      generalize (ady b (onP day ids)).1 = B at hr ⊢
      have hm : ∀ x : Int, 0 ≤ x → x ≤ 1000000 → 0 ≤ ((ids.length : Int) - 1) * x ∧ ((ids.length : Int) - 1) * x ≤ 10000000 := by
       intro x h0 h1
       have : ((ids.length : Int) - 1) * x ≤ 5 * 1000000 := Int.mul_le_mul (by omega) h1 h0 (by omega)
       exact ⟨Int.mul_nonneg (by omega) h0, by omega⟩
      have m1 := hm b.1.1 (by omega) (by omega)
      have m2 := hm b.1.2 (by omega) (by omega)
      rw [acm (by omega) (by omega), acm (by omega) (by omega), acm (by omega) (by omega), apk, show ((((aca B).length : Int) + 1, ack B) : Sys) = aDB B from rfl]
      unfold pileR
      rw [hlen]
      refine ac9 (onP day ids) (fun i => aMr B ((onP day ids).take i) (((ids.length : Int) - 1) * b.1.1, ((ids.length : Int) - 1) * b.1.2)) _ rfl (fun i n hi hn kn => ?_) (fun kn => ?_)
      ·try dsimp only
       unfold amK
       have b1 := aww hr (aeb B n) (ae8 B)
       have b2 := aww hr (ae8 B) (aeb B n)
       have bs := aO1 hr ((onP day ids).take i) (((ids.length : Int) - 1) * b.1.1, ((ids.length : Int) - 1) * b.1.2) 10000000 (by dsimp only; omega) (by dsimp only; omega)
       have bl : (((onP day ids).take i).length : Int) ≤ 6 := by rw [List.length_take]; omega
       rw [acj hi, ace hn, anh hr, abZ, take_succ hn, aKD]
       generalize aMr B ((onP day ids).take i) (((ids.length : Int) - 1) * b.1.1, ((ids.length : Int) - 1) * b.1.2) = s at bs ⊢
       unfold ivR
       dsimp only
       rw [acm (by omega) (by omega), acm (by omega) (by omega), acg hi (by omega)]
       rfl
      ·try dsimp only
       unfold amK
       rw [acH, List.take_length]
    ·have h2' : aLP day = false := by simpa using h2
     rw [h2', acp (by rfl), if_pos (.inr (.inr rfl))]
   ·have h1' : aja ids = false := by simpa using h1
    rw [h1', acp (by rfl), if_pos (.inr (.inl rfl))]
 ·rw [acp (by simp [ine, hc]), if_pos hc]
theorem aj1 {α : Type} (p : α → Bool) (l : List α) (i : Nat) : ((l.take i).filter p).length ≤ l.length := by
 have h1 := List.length_filter_le p (l.take i)
 rw [List.length_take] at h1
 omega
end Go.Proofs.ZzM
end
noncomputable section
namespace Go.Proofs.ZzM
open Go Go.Am
theorem aDY (x y : Int) (g : Bool) : ∀ m : List (Int × Bool), alI (k := tI) (v := .bool) x (ayK (k := tI) (v := .bool) y g m) = if x = y then some g else alI (k := tI) (v := .bool) x m
 | [] => by
   unfold ayK alI agV alI
   by_cases h : x = y <;> simp [h]
 | e :: m => by
   unfold ayK
   by_cases h : y = e.1
   ·have : agV tI y e.1 = true := by simp [agV, h]
    rw [this]
    try dsimp only
    unfold alI agV
    by_cases h2 : x = y
    ·simp [h2]
    ·have : ¬ x = e.1 := fun h3 => h2 (h3.trans h.symm)
     simp [h2, this]
   ·have : agV tI y e.1 = false := by simp [agV, h]
    rw [this]
    try dsimp only
    have ih := aDY x y g m
    unfold alI
    by_cases h2 : x = e.1
    ·have : agV tI x e.1 = true := by simp [agV, h2]
     rw [this]
     have : ¬ x = y := fun h3 => h (h3.symm.trans h2)
     simp [this]
    ·have : agV tI x e.1 = false := by simp [agV, h2]
     rw [this]
     exact ih
def aB7 (l : List Int) : List (Int × Bool) := l.foldl (fun m x => ayK (k := tI) (v := .bool) x true m) []
theorem aog (l : List Int) (x : Int) : aB7 (l ++ [x]) = ayK (k := tI) (v := .bool) x true (aB7 l) := by unfold aB7; rw [List.foldl_append]; rfl
theorem aIu (x : Int) : ∀ (l : List Int) (m : List (Int × Bool)), alI (k := tI) (v := .bool) x (l.foldl (fun m x => ayK (k := tI) (v := .bool) x true m) m) = if l.contains x then some true else alI (k := tI) (v := .bool) x m
 | [], m => by simp
 | y :: l, m => by
   rw [List.foldl_cons, aIu x l, aDY]
   by_cases h : x = y
   ·subst h; simp
   ·simp [h]
theorem aIs (l : List Int) (x : Int) : alI (k := tI) (v := .bool) x (aB7 l) = if l.contains x then some true else none := aIu x l []
def asz (b : acs) (s : Int × Int) : List Int := if s.1 = 3 then (match b.2.2.2.2.1[s.2.toNat]? with | some c => c.2.2.1 ++ c.2.2.2.1 | none => []) else (match b.2.1[s.2.toNat]? with | some g => [g.1] | none => [])
def aBD (b : acs) (ss looks : List (Int × Int)) : List Int := ss.flatMap (asz b) ++ looks.map fun n => n.1
def auW (ss : List (Int × Int)) : List Int := (ss.filter fun s => s.1 == 3).map fun s => s.2
def asg (w : List Int) : Nat → List Cmp → List Cmp
 | _, [] => []
 | i, c :: t => if w.contains (i : Int) then c :: asg w (i + 1) t else asg w (i + 1) t
def cutP (b : acs) (ss looks : List (Int × Int)) : acs :=
 (b.1, b.2.1.filter fun g => (aBD b ss looks).contains g.1, b.2.2.1.filter fun u => (aBD b ss looks).contains u.1, b.2.2.2.1.filter fun l => (aBD b ss looks).contains l.1, asg (auW ss) 0 b.2.2.2.2.1, looks)
def aT9 (b : acs) (s : Int × Int) : Prop := ((s.1 = 1 ∨ s.1 = 2) ∧ 0 ≤ s.2 ∧ s.2 < b.2.1.length) ∨ (s.1 = 3 ∧ 0 ≤ s.2 ∧ s.2 < b.2.2.2.2.1.length)
theorem aEm (w : List Int) (c : Cmp) : ∀ (l : List Cmp) (i : Nat), asg w i (l ++ [c]) = asg w i l ++ if w.contains ((i + l.length : Nat) : Int) then [c] else []
 | [], i => by simp only [List.nil_append, asg, List.length_nil, Nat.add_zero]
 | a :: l, i => by
   have e : ((i + 1 + l.length : Nat) : Int) = ((i + (l.length + 1) : Nat) : Int) := by congr 1; omega
   simp only [List.cons_append, asg, aEm w c l (i + 1), List.length_cons, e]
   split <;> rfl
theorem aA7 (w : List Int) : ∀ (l : List Cmp) (i : Nat), (asg w i l).length ≤ l.length
 | [], i => by simp [asg]
 | a :: l, i => by
   have := aA7 w l (i + 1)
   simp only [asg]
   split <;> simp only [List.length_cons] <;> omega
theorem ape {ρ : Type} (x : Int) (l : List Int) (f : Bool → Option ρ) (g : Option ρ) : aHy (k := tI) (v := .bool) x (aB7 l) f g = if l.contains x then f true else g := by
 unfold aHy
 rw [aIs]
 by_cases h : l.contains x = true
 ·rw [if_pos h, if_pos h]
 ·rw [if_neg h, if_neg h]
section
variable {ρ : Type}
theorem cut_L3 (l : List (Int × Int)) (hl : l.length ≤ 1000) (ids : List Int) (K : List (Int × Int) → Option ρ) : ach (fun (v47 : (Val (.pair tI (.slice ab1)))) kk50 => alS l (aco l) (aB7 ids) v47.1 v47.2 (fun u48 u49 => kk50 (u48, u49)) K) ((0 : Int), []) = K (l.filter fun u => ids.contains u.1) := by
 refine ac9 l (fun i => (l.take i).filter fun u => ids.contains u.1) _ rfl (fun i a hi ha kn => ?_) (fun kn => ?_)
 ·try dsimp only
  unfold alS
  have h1 := aj1 (fun u : Int × Int => ids.contains u.1) l i
  rw [acj hi, ace ha, ape, take_succ ha, List.filter_append]
  by_cases h : ids.contains a.1 = true
  ·rw [if_pos h, adH, adG (acl (by simp only [List.length_singleton]; omega)), acg hi (by omega)]
   simp only [List.filter_cons, List.filter_nil, h, if_pos]
  ·rw [if_neg h, acg hi (by omega)]
   simp only [List.filter_cons, List.filter_nil, h, if_neg, Bool.false_eq_true, not_false_eq_true, List.append_nil]
 ·try dsimp only
  unfold alS
  rw [acH, List.take_length]
theorem cut_L4 (l : List ayv) (hl : l.length ≤ 1000) (ids : List Int) (K : List ayv → Option ρ) : ach (fun (v47 : (Val (.pair tI (.slice adD)))) kk50 => alR l (aco l) (aB7 ids) v47.1 v47.2 (fun u48 u49 => kk50 (u48, u49)) K) ((0 : Int), []) = K (l.filter fun u => ids.contains u.1) := by
 refine ac9 l (fun i => (l.take i).filter fun u => ids.contains u.1) _ rfl (fun i a hi ha kn => ?_) (fun kn => ?_)
 ·try dsimp only
  unfold alR
  have h1 := aj1 (fun u : ayv => ids.contains u.1) l i
  rw [acj hi, ace ha, ape, take_succ ha, List.filter_append]
  by_cases h : ids.contains a.1 = true
  ·rw [if_pos h, adH, adG (acl (by simp only [List.length_singleton]; omega)), acg hi (by omega)]
   simp only [List.filter_cons, List.filter_nil, h, if_pos]
  ·rw [if_neg h, acg hi (by omega)]
   simp only [List.filter_cons, List.filter_nil, h, if_neg, Bool.false_eq_true, not_false_eq_true, List.append_nil]
 ·try dsimp only
  unfold alR
  rw [acH, List.take_length]
theorem cut_L5 (l : List Cmp) (hl : l.length ≤ 1000) (hp : ∀ c ∈ l, c.2.2.1.length ≤ 1000 ∧ c.2.2.2.1.length ≤ 1000) (w : List Int) (K : List Cmp → Option ρ) : ach (fun (v47 : (Val (.pair tI (.slice ab9)))) kk50 => alQ l (aco l) (aB7 w) v47.1 v47.2 (fun u48 u49 => kk50 (u48, u49)) K) ((0 : Int), []) = K (asg w 0 l) := by
 refine ac9 l (fun i => asg w 0 (l.take i)) _ rfl (fun i a hi ha kn => ?_) (fun kn => ?_)
 ·try dsimp only
  unfold alQ
  have h1 := aA7 w (l.take i) 0
  have h2 := hp a (List.mem_of_getElem? ha)
  have e : (l.take i).length = i := by rw [List.length_take]; omega
  rw [acj hi, ace ha, ape, take_succ ha, aEm, e, Nat.zero_add]
  by_cases h : w.contains (i : Int) = true
  ·rw [if_pos h, if_pos h, adH, adG (acl (by omega)), adG (acl (by omega)), adG (acl (by simp only [List.length_singleton]; omega)), acg hi (by omega)]
  ·rw [if_neg h, if_neg h, acg hi (by omega)]
   simp only [List.append_nil]
 ·try dsimp only
  unfold alQ
  rw [acH, List.take_length]
theorem cut_L2 (looks : List (Int × Int)) (hl : looks.length ≤ 1000) (ids : List Int) (K : List (Int × Bool) → Option ρ) : ach (fun (v51 : (Val (.pair tI (.map tI .bool)))) kk54 => alT looks (aco looks) v51.1 v51.2 (fun u52 u53 => kk54 (u52, u53)) K) ((0 : Int), aB7 ids) = K (aB7 (ids ++ looks.map fun n => n.1)) := by
 refine ac9 looks (fun i => aB7 (ids ++ (looks.take i).map fun n => n.1)) _ (by simp) (fun i a hi ha kn => ?_) (fun kn => ?_)
 ·try dsimp only
  unfold alT
  rw [acj hi, ace ha, acg hi (by omega), take_succ ha, List.map_append, ← List.append_assoc, List.map_singleton, aog]
 ·try dsimp only
  unfold alT
  rw [acH, List.take_length]
theorem cut_L1 (xs : List Int) (hl : xs.length ≤ 10000) (ids : List Int) (K : List (Int × Bool) → Option ρ) : ach (fun (v13 : (Val (.pair tI (.map tI .bool)))) kk16 => alU xs (aco xs) v13.1 v13.2 (fun u14 u15 => kk16 (u14, u15)) K) ((0 : Int), aB7 ids) = K (aB7 (ids ++ xs)) := by
 refine ac9 xs (fun i => aB7 (ids ++ xs.take i)) _ (by simp) (fun i a hi ha kn => ?_) (fun kn => ?_)
 ·try dsimp only
  unfold alU
  rw [acj hi, ace ha, acg hi (by omega), take_succ ha, ← List.append_assoc, aog]
 ·try dsimp only
  unfold alU
  rw [acH, List.take_length]
end
theorem ah7 {ρ α : Type} {l : List α} {i : Int} (h0 : 0 ≤ i) {a : α} (h : l[i.toNat]? = some a) (f : α → Option ρ) : adu l i f = f a := by
 obtain ⟨n, rfl⟩ := Int.eq_ofNat_of_zero_le h0
 exact ace (by simpa using h) f
theorem cut_ok {b : acs} (hs : ag7 b) {ss looks : List (Int × Int)} (h1 : ss.length ≤ 1000) (h2 : looks.length ≤ 1000) (hv : ∀ s ∈ ss, aT9 b s) : aBr b ss looks = some (cutP b ss looks) := by
 have g1 := hs.gauges; have g2 := hs.uses; have g3 := hs.loans; have g4 := hs.compares; have g5 := hs.looks
 unfold aBr aPN atm
 refine ac9 ss (fun i => (aB7 ((ss.take i).flatMap (asz b)), aB7 (auW (ss.take i)))) _ rfl (fun i s hi ha kn => ?_) (fun kn => ?_)
 ·try dsimp only
  unfold apS
  have hok := hv s (List.mem_of_getElem? ha)
  rw [acj hi, ace ha, take_succ ha, List.flatMap_append]
  have e3 : auW (ss.take i ++ [s]) = auW (ss.take i) ++ if s.1 = 3 then [s.2] else [] := by
   unfold auW
   rw [List.filter_append, List.map_append]
   congr 1
   by_cases h : s.1 = 3 <;> simp [h]
  rw [e3]
  rcases hok with ⟨hk, h0, h3⟩ | ⟨hk, h0, h3⟩
  ·have hg : b.2.1[s.2.toNat]? = some b.2.1[s.2.toNat] := List.getElem?_eq_getElem (by omega)
   generalize b.2.1[s.2.toNat] = g at hg
   have e1 : asz b s = [g.1] := by
    unfold asz
    rw [if_neg (by omega), hg]
   have e2 : List.flatMap (asz b) [s] = [g.1] := by simp [e1]
   rw [aci (decide_eq_false (by omega)), if_neg (by omega), List.append_nil, e2, aog]
   rcases hk with hk | hk
   ·rw [acp (decide_eq_true hk), ah7 h0 hg, acg hi (by omega)]
   ·rw [aci (decide_eq_false (by omega)), acp (decide_eq_true hk), ah7 h0 hg, acg hi (by omega)]
  ·have hc : b.2.2.2.2.1[s.2.toNat]? = some b.2.2.2.2.1[s.2.toNat] := List.getElem?_eq_getElem (by omega)
   have hp := hs.piles b.2.2.2.2.1[s.2.toNat] (List.getElem_mem _)
   generalize b.2.2.2.2.1[s.2.toNat] = c at hc hp
   have e1 : asz b s = c.2.2.1 ++ c.2.2.2.1 := by
    unfold asz
    rw [if_pos hk, hc]
   have e2 : List.flatMap (asz b) [s] = c.2.2.1 ++ c.2.2.2.1 := by simp [e1]
   rw [aci (decide_eq_false (by omega)), aci (decide_eq_false (by omega)), aci (decide_eq_false (by omega)), adG (decide_eq_true hk), if_pos hk, e2, ah7 h0 hc, ah7 h0 hc, ajC (by simp) (by simp; omega), abZ]
   rw [show ([c.2.2.1, c.2.2.2.1] : List (List Int)).flatten = c.2.2.1 ++ c.2.2.2.1 by simp]
   refine (cut_L1 (c.2.2.1 ++ c.2.2.2.1) (by simp; omega) _ _).trans ?_
   rw [aog, acg hi (by omega)]
 ·try dsimp only
  unfold apS
  rw [acH]
  dsimp only
  rw [List.take_length]
  refine (cut_L2 looks h2 _ _).trans ?_
  rw [show (ss.flatMap (asz b) ++ looks.map fun n => n.1) = aBD b ss looks from rfl]
  unfold ap2
  try dsimp only
  rw [adG (acl (by omega)), abZ]
  have ek : (List.filter (fun g => (alI (k := tI) (v := .bool) g.1 (aB7 (aBD b ss looks))).getD false) b.2.1) = b.2.1.filter fun g => (aBD b ss looks).contains g.1 := by
   refine List.filter_congr fun g _ => ?_
   rw [aIs]
   cases (aBD b ss looks).contains g.1 <;> rfl
  rw [ek]
  unfold aiy
  dsimp only
  refine (cut_L3 b.2.2.1 g2 _ _).trans ?_
  refine (cut_L4 b.2.2.2.1 g3 _ _).trans ?_
  refine (cut_L5 b.2.2.2.2.1 g4 hs.piles _ _).trans ?_
  rfl
end Go.Proofs.ZzM
end
noncomputable section
namespace Go.Proofs.ZzM
open Go Go.Am
theorem aPc {α : Type} [DecidableEq α] {l m : List α} (hl : l.length = m.length) (h : aeF (fun i a => if m[i]? = some a then none else some false) 0 l = none) : l = m := by
 have := ah8.1 h
 refine List.ext_getElem hl fun i h1 h2 => ?_
 have h3 := this i l[i] (List.getElem?_eq_getElem h1)
 rw [Nat.zero_add] at h3
 split at h3
 ·rename_i h4
  rw [List.getElem?_eq_getElem h2] at h4
  exact (Option.some.inj h4).symm
 ·cases h3
theorem aPb {α : Type} [DecidableEq α] {l m : List α} {b : Bool} (h : aeF (fun i a => if m[i]? = some a then none else some false) 0 l = some b) : b = false ∧ l ≠ m := by
 constructor
 ·have : ∀ (k : Nat) (x : List α) (b : Bool), aeF (fun i a => if m[i]? = some a then none else some false) k x = some b → b = false := by
   intro k x
   induction x generalizing k with
   | nil => intro b h; cases h
   | cons a t ih =>
     intro b h
     unfold aeF at h
     split at h
     ·rename_i c hc
      split at hc
      ·cases hc
      ·cases hc; cases h; rfl
     ·exact ih _ _ h
  exact this _ _ _ h
 ·intro e
  subst e
  rw [ah8.2 fun j a ha => by rw [Nat.zero_add, if_pos ha]] at h
  cases h
end Go.Proofs.ZzM
end
noncomputable section
namespace Go.Proofs.ZzM
open Go Go.Am
instance dec1 : DecidableEq ((Int × Int) × Int) := fun a b => instDecidableEqProd a b
instance dec2 : DecidableEq ((Int × Int) × ((Int × Int) × Int)) := fun a b => instDecidableEqProd a b
instance dec3 : DecidableEq (Int × (Int × Int) × ((Int × Int) × Int)) := fun a b => instDecidableEqProd a b
instance dec4 : DecidableEq (Int × Int × (Int × Int) × ((Int × Int) × Int)) := fun a b => instDecidableEqProd a b
instance decG : DecidableEq acP := fun a b => instDecidableEqProd a b
instance decL : DecidableEq ayv := fun a b => instDecidableEqProd a b
instance decI4 : DecidableEq (Int × (Int × (Int × Int))) := fun a b => instDecidableEqProd a b
instance decI5 : DecidableEq (List Int × Int × (Int × (Int × Int))) := fun a b => instDecidableEqProd a b
instance decI6 : DecidableEq (List Int × List Int × Int × (Int × (Int × Int))) := fun a b => instDecidableEqProd a b
instance decI7 : DecidableEq (Int × List Int × List Int × Int × (Int × (Int × Int))) := fun a b => instDecidableEqProd a b
instance decC : DecidableEq Cmp := fun a b => instDecidableEqProd a b
def aFm {α : Type} [DecidableEq α] (x : α) (l : List α) : Bool := l.any fun a => decide (x = a)
theorem aFl {α : Type} [DecidableEq α] {x : α} {l : List α} : aFm x l = true ↔ x ∈ l := by
 unfold aFm
 rw [List.any_eq_true]
 exact ⟨fun ⟨a, h1, h2⟩ => by rw [of_decide_eq_true h2]; exact h1, fun h => ⟨x, h, decide_eq_true rfl⟩⟩
theorem aK0 {α : Type} [DecidableEq α] (l : List α) (x : α) : ige (match l.findIdx? (fun a => decide (x = a)) with | some j => (j : Int) | none => -1) 0 = aFm x l := by
 cases h : l.findIdx? (fun a => decide (x = a)) with
 | none =>
   have : aFm x l = false := by
    cases hm : aFm x l with
    | false => rfl
    | true => have := List.findIdx?_eq_none_iff.1 h x (aFl.1 hm); simp at this
   rw [this]
   rfl
 | some j =>
   obtain ⟨hj, hp, _⟩ := List.findIdx?_eq_some_iff_getElem.1 h
   have : x ∈ l := by rw [of_decide_eq_true hp]; exact List.getElem_mem _
   rw [aFl.2 this]
   exact decide_eq_true (by dsimp only; omega)
theorem aPI {ρ : Type} (o : Option Nat) (f : Int → Option ρ) : (match o with | some j => f (j : Int) | none => f (-1)) = f (match o with | some j => (j : Int) | none => -1) := by cases o <;> rfl
theorem aKq {l : List (Int × Int)} (hl : l.length ≤ 1000000) (x : Int × Int) : adc l x = some (aFm x l) := by
 unfold adc aef aeX aeU
 have e : ach (fun (v5 : Int) kk7 => ac8 l (aco l) x.1 x.2 v5 (fun u6 => kk7 u6) (fun z3 => some z3) (fun _ => some (-1 : Int))) (0 : Int) = some (match l.findIdx? (fun a => decide (x = a)) with | some j => (j : Int) | none => -1) := by
  refine (afZ l (fun a => decide (x = a)) (fun z => some z) (some (-1)) (fun i a hi ha kn => ?_) (fun kn => ?_)).trans (aPI _ some)
  ·try dsimp only
   unfold ac8
   have e : ((aeA x.1 a.1) && ((aeA x.2 a.2) && true)) = decide (x = a) := by
    rw [Bool.eq_iff_iff]; simp [aeA, Prod.ext_iff]
   rw [acj hi, ace ha, acg hi (by omega), adA, e]
  ·try dsimp only
   unfold ac8
   rw [acH]
 rw [e, abZ]
 exact congrArg some (aK0 l x)
theorem aHu {l : List ayv} (hl : l.length ≤ 1000000) (x : ayv) : acY l x = some (aFm x l) := by
 unfold acY adZ aey aew
 have e : ach (fun (v5 : Int) kk7 => acX l (aco l) x.1 x.2.1.1 x.2.1.2 x.2.2 v5 (fun u6 => kk7 u6) (fun z3 => some z3) (fun _ => some (-1 : Int))) (0 : Int) = some (match l.findIdx? (fun a => decide (x = a)) with | some j => (j : Int) | none => -1) := by
  refine (afZ l (fun a => decide (x = a)) (fun z => some z) (some (-1)) (fun i a hi ha kn => ?_) (fun kn => ?_)).trans (aPI _ some)
  ·try dsimp only
   unfold acX
   have e : ((aeA x.1 a.1) && ((aeA x.2.1.1 a.2.1.1) && ((aeA x.2.1.2 a.2.1.2) && ((aeA x.2.2 a.2.2) && true)))) = decide (x = a) := by
    rw [Bool.eq_iff_iff]; simp [aeA, Prod.ext_iff, and_assoc]
   rw [acj hi, ace ha, acg hi (by omega), adA, e]
  ·try dsimp only
   unfold acX
   rw [acH]
 rw [e, abZ]
 exact congrArg some (aK0 l x)
theorem aKr {l : List acP} (hl : l.length ≤ 1000000) (x : acP) : adh l x = some (aFm x l) := by
 unfold adh adN aec aea
 have e : ach (fun (v5 : Int) kk7 => acT l (aco l) x.1 x.2.1 x.2.2.1 x.2.2.2.1.1 x.2.2.2.1.2 x.2.2.2.2.1.1 x.2.2.2.2.1.2 x.2.2.2.2.2 v5 (fun u6 => kk7 u6) (fun z3 => some z3) (fun _ => some (-1 : Int))) (0 : Int) = some (match l.findIdx? (fun a => decide (x = a)) with | some j => (j : Int) | none => -1) := by
  refine (afZ l (fun a => decide (x = a)) (fun z => some z) (some (-1)) (fun i a hi ha kn => ?_) (fun kn => ?_)).trans (aPI _ some)
  ·try dsimp only
   unfold acT
   have e : ((aeA x.1 a.1) && ((aeA x.2.1 a.2.1) && ((aeA x.2.2.1 a.2.2.1) && ((aeA x.2.2.2.1.1 a.2.2.2.1.1) && ((aeA x.2.2.2.1.2 a.2.2.2.1.2) && ((aeA x.2.2.2.2.1.1 a.2.2.2.2.1.1) && ((aeA x.2.2.2.2.1.2 a.2.2.2.2.1.2) && ((aeA x.2.2.2.2.2 a.2.2.2.2.2) && true)))))))) = decide (x = a) := by
    rw [Bool.eq_iff_iff]; simp [aeA, Prod.ext_iff, and_assoc]
   rw [acj hi, ace ha, acg hi (by omega), adA, e]
  ·try dsimp only
   unfold acT
   rw [acH]
 rw [e, abZ]
 exact congrArg some (aK0 l x)
def aHz (b : acs) : List Int := b.2.1.map fun g => g.1
def ahz {α : Type} [DecidableEq α] (x y : List α) (w : α → Bool) : Bool := x.all fun a => !w a || aFm a y
def aE6 (s b : acs) : Bool :=
 ahz s.2.2.2.2.1 b.2.2.2.2.1 (fun _ => true) && (decide (s.1 = b.1) && (ahz s.2.1 b.2.1 (fun _ => true) && (ahz s.2.2.1 b.2.2.1 (fun u => (aHz s).contains u.1) && (ahz b.2.2.1 s.2.2.1 (fun u => (aHz s).contains u.1) &&
  (ahz s.2.2.2.1 b.2.2.2.1 (fun u => (aHz s).contains u.1) && ahz b.2.2.2.1 s.2.2.2.1 (fun u => (aHz s).contains u.1))))))
section
variable {ρ : Type}
theorem awI {α : Type} [DecidableEq α] (x y : List α) (w : α → Bool) (X Y KF : Option ρ) {f : Int → (Int → Option ρ) → Option ρ}
 (h : ∀ (i : Nat) (a : α), i < x.length → x[i]? = some a → ∀ kn, f i kn = if !(!w a || aFm a y) then (ifb (!(ige (i : Int) 0)) X KF) else kn ((i : Int) + 1))
 (hn : ∀ kn, f x.length kn = Y) : ach f 0 = if ahz x y w then Y else KF := by
 refine (afy x (fun a => !(!w a || aFm a y)) (fun z => ifb (!(ige z 0)) X KF) KF Y (fun j => by rw [show ige (j : Int) 0 = true from decide_eq_true (by omega)]; rfl) h hn).trans ?_
 unfold ahz
 rw [List.all_eq_not_any_not]
 cases x.any fun a => !(!w a || aFm a y) <;> rfl
theorem aTA : @amD ρ = @ahZ ρ := rfl
theorem aEi {x y : List Int} (hl : x.length = y.length) (hx : x.length ≤ 1000000) (k0 : Bool → Option ρ) (K : Option ρ) :
 ach (fun (v30 : Int) kk32 => ahZ x y (aco x) v30 (fun u31 => kk32 u31) k0 (fun _ => K)) (0 : Int) = if x = y then K else k0 false := by
 refine (al8 x (fun i a => if y[i]? = some a then none else some false) k0 K (fun i a hi ha kn => ?_) (fun kn => ?_)).trans ?_
 ·try dsimp only
  unfold ahZ
  have hm : y[i]? = some y[i] := List.getElem?_eq_getElem (by omega)
  rw [acj hi, ace ha, ace hm, acg hi (by omega), hm, adA]
  by_cases h : a = y[i]
  ·simp [ine, h]
  ·have h' : ¬ y[i] = a := fun e => h e.symm
   simp [ine, h, h']
 ·try dsimp only
  unfold ahZ
  rw [acH]
 ·cases h : aeF (fun i a => if y[i]? = some a then none else some false) 0 x with
  | none => rw [if_pos (aPc hl h)]
  | some b =>
    obtain ⟨h1, h2⟩ := aPb h
    rw [if_neg h2, h1]
theorem aPd {l : List Cmp} (hl : l.length ≤ 1000) (c : Cmp) (hA : c.2.2.1.length ≤ 1000) (hB : c.2.2.2.1.length ≤ 1000) (k0 : Int → Option ρ) (K1 KF : Option ρ) (hk : ∀ j : Nat, k0 (j : Int) = K1) :
 ach (fun (v41 : Int) kk43 => ajP l (aco l) c.1 c.2.1 c.2.2.1 c.2.2.2.1 c.2.2.2.2.1 c.2.2.2.2.2.1 c.2.2.2.2.2.2.1 c.2.2.2.2.2.2.2 v41 (fun u42 => kk43 u42) k0 (fun _ => KF)) (0 : Int) = if aFm c l then K1 else KF := by
 refine (afy l (fun d => decide (c = d)) k0 K1 KF hk (fun i d hi hd kn => ?_) (fun kn => ?_)).trans rfl
 ·try dsimp only
  unfold ajP
  have hsplit : (c = d) ↔ (c.1 = d.1 ∧ c.2.1 = d.2.1 ∧ c.2.2.2.2.1 = d.2.2.2.2.1 ∧ c.2.2.2.2.2.1 = d.2.2.2.2.2.1 ∧ (c.2.2.2.2.2.2.1 = d.2.2.2.2.2.2.1 ∧ c.2.2.2.2.2.2.2 = d.2.2.2.2.2.2.2) ∧ c.2.2.1 = d.2.2.1 ∧ c.2.2.2.1 = d.2.2.2.1) := by
   simp only [Prod.ext_iff]
   constructor
   ·rintro ⟨a1, a2, a3, a4, a5, a6, a7, a8⟩; exact ⟨a1, a2, a5, a6, ⟨a7, a8⟩, a3, a4⟩
   ·rintro ⟨a1, a2, a5, a6, ⟨a7, a8⟩, a3, a4⟩; exact ⟨a1, a2, a3, a4, a5, a6, a7, a8⟩
  have hno : ∀ {P : Prop}, ¬ P → (c = d → P) → (if decide (c = d) = true then k0 (i : Int) else kn ((i : Int) + 1)) = kn ((i : Int) + 1) := fun h1 h2 => by
   rw [if_neg]
   intro h
   exact h1 (h2 (of_decide_eq_true h))
  rw [acj hi, ace hd, acg hi (by omega)]
  by_cases a1 : c.1 = d.1
  case neg => rw [hno a1 (fun e => (hsplit.1 e).1), aci (beq_eq_false_iff_ne.2 a1)]
  rw [acp (beq_iff_eq.2 a1)]
  by_cases a2 : c.2.1 = d.2.1
  case neg => rw [hno a2 (fun e => (hsplit.1 e).2.1), aci (beq_eq_false_iff_ne.2 a2)]
  rw [acp (beq_iff_eq.2 a2)]
  by_cases a3 : c.2.2.2.2.1 = d.2.2.2.2.1
  case neg => rw [hno a3 (fun e => (hsplit.1 e).2.2.1), aci (beq_eq_false_iff_ne.2 a3)]
  rw [acp (beq_iff_eq.2 a3)]
  by_cases a4 : c.2.2.2.2.2.1 = d.2.2.2.2.2.1
  case neg => rw [hno a4 (fun e => (hsplit.1 e).2.2.2.1), aci (beq_eq_false_iff_ne.2 a4)]
  rw [acp (beq_iff_eq.2 a4)]
  by_cases a5 : c.2.2.2.2.2.2.1 = d.2.2.2.2.2.2.1 ∧ c.2.2.2.2.2.2.2 = d.2.2.2.2.2.2.2
  case neg => rw [hno a5 (fun e => (hsplit.1 e).2.2.2.2.1), aci (by simp only [aeA, Bool.and_true, Bool.and_eq_false_iff, decide_eq_false_iff_not]; exact Decidable.not_and_iff_or_not.1 a5)]
  rw [acp (by simp [aeA, a5.1, a5.2]), acB, acB, acB, acB]
  have rest : ∀ X Y : Option ρ, (c.2.2.1 = d.2.2.1) → (if decide (c = d) = true then k0 (i : Int) else kn ((i : Int) + 1)) = (if c.2.2.2.1 = d.2.2.2.1 then k0 (i : Int) else kn ((i : Int) + 1)) := by
   intro _ _ h
   by_cases g : c.2.2.2.1 = d.2.2.2.1
   ·rw [if_pos (decide_eq_true (hsplit.2 ⟨a1, a2, a3, a4, a5, h, g⟩)), if_pos g]
   ·rw [if_neg g]; exact hno g (fun e => (hsplit.1 e).2.2.2.2.2.2)
  by_cases l1 : c.2.2.1.length = d.2.2.1.length
  case neg =>
   rw [hno l1 (fun e => by rw [e]), acp (bne_iff_ne.2 (by omega))]
  rw [aci (by rw [l1]; exact bne_self_eq_false' _)]
  have e3 := aEi (ρ := ρ) l1 (by omega)
  rw [acB] at e3
  rw [e3]
  by_cases g1 : c.2.2.1 = d.2.2.1
  case neg => rw [if_neg g1, acF, hno g1 (fun e => (hsplit.1 e).2.2.2.2.2.1)]
  rw [if_pos g1, rest none none g1]
  by_cases l2 : c.2.2.2.1.length = d.2.2.2.1.length
  case neg =>
   rw [acp (bne_iff_ne.2 (by omega)), if_neg (fun e => l2 (by rw [e]))]
  rw [aci (by rw [l2]; exact bne_self_eq_false' _), aTA]
  have e4 := aEi (ρ := ρ) l2 (by omega)
  rw [acB] at e4
  rw [e4, acF]
 ·try dsimp only
  unfold ajP
  rw [acH]
theorem aTz : @ahY ρ = @agR ρ := rfl
theorem aTy : @ac6 ρ = @adF ρ := rfl
theorem aUf {x y : List acP} (hx : x.length ≤ 1000) (hy : y.length ≤ 1000) (X Y KF : Option ρ) : ach (fun (v225 : Int) kk227 => ajO x (aco x) y v225 (fun u226 => kk227 u226) (fun z => ifb (!(ige z 0)) X KF) (fun _ => Y)) (0 : Int) = if ahz x y (fun _ => true) then Y else KF := by
 refine awI x y (fun _ => true) X Y KF (fun i a hi ha kn => ?_) (fun kn => ?_)
 ·try dsimp only
  unfold ajO
  rw [acj hi, ace ha, aKr (by omega), abZ, acg hi (by omega), adA]
  simp
 ·try dsimp only
  unfold ajO
  rw [acH]
theorem aRh {x y : List (Int × Int)} (hx : x.length ≤ 1000) (hy : y.length ≤ 1000) (ids : List Int) (X Y KF : Option ρ) : ach (fun (v225 : Int) kk227 => agR x (aco x) (aB7 ids) y v225 (fun u226 => kk227 u226) (fun z => ifb (!(ige z 0)) X KF) (fun _ => Y)) (0 : Int) = if ahz x y (fun u => ids.contains u.1) then Y else KF := by
 refine awI x y (fun u => ids.contains u.1) X Y KF (fun i a hi ha kn => ?_) (fun kn => ?_)
 ·try dsimp only
  unfold agR
  rw [acj hi, ace ha, ape, aKq (by omega), abZ]
  by_cases h : ids.contains a.1 = true
  ·rw [if_pos h, adH, acg hi (by omega), adA, h]
   simp
  ·rw [if_neg h, acg hi (by omega)]
   have h' := Bool.not_eq_true _ ▸ h
   rw [h']
   simp
 ·try dsimp only
  unfold agR
  rw [acH]
theorem aRg {x y : List ayv} (hx : x.length ≤ 1000) (hy : y.length ≤ 1000) (ids : List Int) (X Y KF : Option ρ) : ach (fun (v225 : Int) kk227 => adF x (aco x) (aB7 ids) y v225 (fun u226 => kk227 u226) (fun z => ifb (!(ige z 0)) X KF) (fun _ => Y)) (0 : Int) = if ahz x y (fun u => ids.contains u.1) then Y else KF := by
 refine awI x y (fun u => ids.contains u.1) X Y KF (fun i a hi ha kn => ?_) (fun kn => ?_)
 ·try dsimp only
  unfold adF
  rw [acj hi, ace ha, ape, aHu (by omega), abZ]
  by_cases h : ids.contains a.1 = true
  ·rw [if_pos h, adH, acg hi (by omega), adA, h]
   simp
  ·rw [if_neg h, acg hi (by omega)]
   have h' := Bool.not_eq_true _ ▸ h
   rw [h']
   simp
 ·try dsimp only
  unfold adF
  rw [acH]
theorem aUe {x y : List ayv} (hx : x.length ≤ 1000) (hy : y.length ≤ 1000) (ids : List Int) (k : Bool → Option ρ) : ach (fun (v225 : Int) kk227 => adF x (aco x) (aB7 ids) y v225 (fun u226 => kk227 u226) (fun z => k (!(ige z 0))) (fun _ => k true)) (0 : Int) = k (ahz x y (fun u => ids.contains u.1)) := by
 have h := aRg (ρ := ρ) hx hy ids (k true) (k true) (k false)
 have e : (fun z : Int => ifb (!(ige z 0)) (k true) (k false)) = fun z => k (!(ige z 0)) := by
  funext z
  cases (!(ige z 0)) <;> rfl
 rw [e] at h
 rw [h]
 cases ahz x y (fun u => ids.contains u.1) <;> rfl
theorem aUg {x y : List Cmp} (hx : x.length ≤ 1000) (hp : ∀ c ∈ x, c.2.2.1.length ≤ 1000 ∧ c.2.2.2.1.length ≤ 1000) (hy : y.length ≤ 1000) (K : Option Bool) : ach (fun (v228 : Int) kk230 => ajQ x (aco x) y v228 (fun u229 => kk230 u229) (fun z44 => some z44) (fun _ => K)) (0 : Int) = if (x.all fun c => aFm c y) = true then K else some false := by
 refine (afy x (fun c => !aFm c y) (fun _ => some false) (some false) K (fun _ => rfl) (fun i c hi hc kn => ?_) (fun kn => ?_)).trans ?_
 rotate_left
 ·try dsimp only
  unfold ajQ
  rw [acH]
 ·rw [List.all_eq_not_any_not]
  cases x.any fun c => !aFm c y <;> rfl
 ·try dsimp only
  unfold ajQ
  have h := hp c (List.mem_of_getElem? hc)
  rw [acj hi, ace hc]
  refine (aPd hy c h.1 h.2 _ (kn ((i : Int) + 1)) (some false) (fun j => by rw [show ige (j : Int) 0 = true from decide_eq_true (by omega), acg hi (by omega)]; rfl)).trans ?_
  cases aFm c y <;> rfl
end
theorem part_ok {s b : acs} (hs : ag7 s) (hb : ag7 b) : auM s b = some (aE6 s b) := by
 have g1 := hs.gauges; have g2 := hs.uses; have g3 := hs.loans; have g4 := hs.compares
 have b1 := hb.gauges; have b2 := hb.uses; have b3 := hb.loans; have b4 := hb.compares
 unfold auM aFF aE6
 rw [aTz, aTy]
 refine (ac9 s.2.1 (fun i => aB7 (aHz (s.1, s.2.1.take i, s.2.2))) (some _) rfl (fun i g hi hg kn => ?_) (fun kn => ?_))
 ·try dsimp only
  unfold amE
  rw [acj hi, ace hg, acg hi (by omega)]
  unfold aHz
  dsimp only
  rw [take_succ hg, List.map_append, List.map_singleton, aog]
 ·try dsimp only
  unfold amE
  rw [acH, List.take_length]
  try dsimp only
  rw [show aHz (s.1, s.2.1, s.2.2) = aHz s from rfl]
  refine (aUg g4 hs.piles b4 _).trans ?_
  rw [show (ahz s.2.2.2.2.1 b.2.2.2.2.1 fun _ => true) = s.2.2.2.2.1.all fun c => aFm c b.2.2.2.2.1 from rfl]
  by_cases hc : (s.2.2.2.2.1.all fun c => aFm c b.2.2.2.2.1) = true
  case neg => rw [if_neg hc, Bool.eq_false_iff.2 hc]; rfl
  rw [if_pos hc, hc, Bool.true_and]
  by_cases hf : s.1 = b.1
  case neg =>
   have ef : (aeA s.1.1 b.1.1 && (aeA s.1.2 b.1.2 && true)) = false := by
    rw [Prod.ext_iff] at hf
    simp [aeA]
    omega
   rw [ef, acF, decide_eq_false hf]
   rfl
  have ef : (aeA s.1.1 b.1.1 && (aeA s.1.2 b.1.2 && true)) = true := by simp [aeA, hf]
  rw [ef, adH, decide_eq_true hf, Bool.true_and]
  refine (aUf g1 b1 _ _ _).trans ?_
  cases ahz s.2.1 b.2.1 fun _ => true
  case false => rfl
  rw [if_pos rfl, Bool.true_and]
  refine (aRh g2 b2 _ _ _ _).trans ?_
  cases ahz s.2.2.1 b.2.2.1 fun u => (aHz s).contains u.1
  case false => rfl
  rw [if_pos rfl, Bool.true_and]
  refine (aRh b2 g2 _ _ _ _).trans ?_
  cases ahz b.2.2.1 s.2.2.1 fun u => (aHz s).contains u.1
  case false => rfl
  rw [if_pos rfl, Bool.true_and]
  refine (aRg g3 b3 _ _ _ _).trans ?_
  cases ahz s.2.2.2.1 b.2.2.2.1 fun u => (aHz s).contains u.1
  case false => rfl
  rw [if_pos rfl, Bool.true_and]
  exact aUe b3 g3 _ some
end Go.Proofs.ZzM
end
noncomputable section
namespace Go.Proofs.ZzM
open Go Go.Am
def an3 (x : List Int) (y : List Int) (l : Lk) : List Int := if gv x l.2.1 = ae7 then y else y.set l.1.toNat (min (gv y l.1) (l.2.2 + gv x l.2.1))
def aJ0 (L : List Lk) (N : Nat) (x : List Int) : List Int := L.foldl (an3 x) (List.replicate N ae7)
def exL (L : List Lk) (N : Nat) (to : Int) : Nat → List Int
 | 0 => (List.replicate N ae7).set to.toNat 0
 | k + 1 => aJ0 L N (exL L N to k)
def ai5 (L : List Lk) (N : Nat) (to : Int) (most : Nat) : List (List Int) := (List.range (most + 1)).map (exL L N to)
section
variable {L : List Lk} {N : Nat}
theorem aEB (x y : List Int) (l : Lk) : (an3 x y l).length = y.length := by unfold an3; split <;> simp
theorem awt (x : List Int) : ∀ (M : List Lk) (y : List Int), (M.foldl (an3 x) y).length = y.length
 | [], y => rfl
 | l :: M, y => by rw [List.foldl_cons, awt x M, aEB]
theorem aOf (x : List Int) : (aJ0 L N x).length = N := by unfold aJ0; rw [awt]; simp
theorem aLK (to : Int) (k : Nat) : (exL L N to k).length = N := by
 cases k with
 | zero => simp [exL]
 | succ k => exact aOf _
def Lim (B : Int) (x : List Int) : Prop := ∀ v : Int, gv x v ≠ ae7 → -B ≤ gv x v ∧ gv x v ≤ B
theorem gv_out {x : List Int} {v : Int} (h : ¬ v.toNat < x.length) : gv x v = 0 := by
 unfold gv
 rw [List.getElem?_eq_none (by omega)]
 rfl
theorem aP3 {B : Int} (hB : 0 ≤ B) : Lim B (List.replicate N ae7) := by
 intro v hv
 by_cases h : v.toNat < N
 ·exfalso; apply hv
  unfold gv
  rw [List.getElem?_replicate, if_pos h]
  rfl
 ·rw [gv_out (by simpa using h)]; omega
theorem aP2 {B : Int} {y : List Int} (hy : Lim B y) {u : Int} (hu : 0 ≤ u) (hl : u.toNat < y.length) {a : Int} (ha : a ≠ ae7 → -B ≤ a ∧ a ≤ B) : Lim B (y.set u.toNat a) := by
 intro v hv
 by_cases h : v.toNat = u.toNat
 ·have : gv (y.set u.toNat a) v = a := by
   unfold gv
   rw [h, List.getElem?_set_self hl]
   rfl
  rw [this] at hv ⊢
  exact ha hv
 ·have : gv (y.set u.toNat a) v = gv y v := by
   unfold gv
   rw [List.getElem?_set_ne (fun e => h e.symm)]
  rw [this] at hv ⊢
  exact hy v hv
theorem aRZ (hS : afH L N) {B : Int} (hB : 0 ≤ B) (hB2 : B ≤ 1000000000000000000) {x y : List Int} (hx : Lim B x) (hy : Lim (B + 4503599627370496) y) (hl : y.length = N) {l : Lk} (hm : l ∈ L) : Lim (B + 4503599627370496) (an3 x y l) := by
 unfold an3
 split
 ·exact hy
 ·rename_i hf
  have h1 := hS.inr l hm
  have h2 := hS.most l hm
  have h3 := hx _ hf
  refine aP2 hy h1.1.1 (by omega) fun ha => ?_
  by_cases h4 : gv y l.1 = ae7
  ·rw [h4] at ha ⊢
   have : min ae7 (l.2.2 + gv x l.2.1) = l.2.2 + gv x l.2.1 := by unfold ae7; omega
   rw [this]; omega
  ·have := hy _ h4
   omega
theorem aMU (hS : afH L N) {B : Int} (hB : 0 ≤ B) (hB2 : B ≤ 1000000000000000000) {x : List Int} (hx : Lim B x) : ∀ (M : List Lk), (∀ l ∈ M, l ∈ L) → ∀ y : List Int, y.length = N → Lim (B + 4503599627370496) y → Lim (B + 4503599627370496) (M.foldl (an3 x) y)
 | [], _, y, _, hy => hy
 | l :: M, hM, y, hl, hy => by
   rw [List.foldl_cons]
   exact aMU hS hB hB2 hx M (fun m hm => hM m (by simp [hm])) _ (by rw [aEB, hl]) (aRZ hS hB hB2 hx hy hl (hM l (by simp)))
theorem aLC (hS : afH L N) {to : Int} (ht : 0 ≤ to ∧ to < N) : ∀ k : Nat, k ≤ 200 → Lim (k * 4503599627370496) (exL L N to k)
 | 0, _ => by
   unfold exL
   exact aP2 (aP3 (by omega)) ht.1 (by simp; omega) (fun _ => by omega)
 | k + 1, hk => by
   have := aMU hS (B := k * 4503599627370496) (by omega) (by omega) (aLC hS ht k (by omega)) L (fun _ h => h) (List.replicate N ae7) (by simp) (aP3 (by omega))
   unfold exL aJ0
   have e : (((k + 1 : Nat) : Int) * 4503599627370496) = (k : Int) * 4503599627370496 + 4503599627370496 := by push_cast; omega
   rw [e]
   exact this
theorem aJX {ρ : Type} (hN : N ≤ 1000) (K : List Int → Option ρ) {f : Int × List Int → (Int × List Int → Option ρ) → Option ρ}
 (hf : ∀ (v : Int × List Int) kk, f v kk = apU (N : Int) v.1 v.2 (fun u34 u35 => kk (u34, u35)) K) : ach f ((0 : Int), List.replicate N (0 : Int)) = K (List.replicate N ae7) := by
 refine ac9 (List.replicate N (0 : Int)) (fun i => List.replicate i ae7 ++ List.replicate (N - i) (0 : Int)) _ (by simp) (fun i a hi ha kn => ?_) (fun kn => ?_)
 ·rw [hf]
  dsimp only
  unfold apU
  rw [List.length_replicate] at hi
  have hlen : (List.replicate i ae7 ++ List.replicate (N - i) (0 : Int)).length = N := by simp; omega
  have e1 : ilt (i : Int) (N : Int) = true := decide_eq_true (by omega)
  rw [acp e1, show adE (List.replicate i ae7 ++ List.replicate (N - i) (0 : Int)) = (N : Int) by unfold adE; rw [hlen], af0 (by omega) (by omega), agM (by rw [hlen]; omega), acm (by omega) (by omega)]
  congr 2
  rw [Int.toNat_natCast]
  rw [List.set_append_right _ _ (by simp), List.length_replicate, Nat.sub_self]
  rw [show N - i = (N - (i + 1)) + 1 by omega, List.replicate_succ, List.set_cons_zero, List.replicate_succ']
  simp
 ·rw [hf]
  dsimp only
  unfold apU
  rw [List.length_replicate]
  have e1 : ilt (N : Int) (N : Int) = false := decide_eq_false (by omega)
  rw [aci e1]
  simp
theorem okN (hN : N ≤ 1000) {ρ : Type} (x : Option ρ) : acO ((ile (0 : Int) (N : Int)) && (acK (Int.toNat (N : Int)))) x = x := by
 rw [adG]
 rw [Int.toNat_natCast, acl (by omega), Bool.and_true]
 exact decide_eq_true (by omega)
theorem aP1 {ρ : Type} (hS : afH L N) {B : Int} (hB : 0 ≤ B) (hB2 : B ≤ 1000000000000000000) {x : List Int} (hx : Lim B x) (hxl : x.length = N) (K : List Int → Option ρ) :
 ach (fun (v20 : (Val (.pair tI (.slice tI)))) kk23 => atG x L (aco L) v20.1 v20.2 (fun u21 u22 => kk23 (u21, u22)) K) ((0 : Int), List.replicate N ae7) = K (aJ0 L N x) := by
 have hl3 := hS.len
 refine ac9 L (fun i => (L.take i).foldl (an3 x) (List.replicate N ae7)) _ rfl (fun i l hi hl kn => ?_) (fun kn => ?_)
 ·try dsimp only
  unfold atG
  have hm := List.mem_of_getElem? hl
  have h1 := hS.inr l hm
  have h2 := hS.most l hm
  rw [acj hi, ace hl, aiX h1.2.1 (by omega), take_succ hl, List.foldl_append, acg hi (by omega)]
  have hlen : ((L.take i).foldl (an3 x) (List.replicate N ae7)).length = N := by rw [awt]; simp
  generalize (L.take i).foldl (an3 x) (List.replicate N ae7) = y at hlen ⊢
  by_cases hf : gv x l.2.1 = ae7
  ·rw [aci (by rw [hf]; rfl)]
   simp only [List.foldl_cons, List.foldl_nil]
   unfold an3
   rw [if_pos hf]
  ·have h3 := hx _ hf
   rw [acp (bne_iff_ne.2 hf), show adE y = (N : Int) by unfold adE; rw [hlen], af0 h1.1.1 h1.1.2, agM (by omega), aiX h1.2.1 (by omega), acm (by omega) (by omega), af0 h1.1.1 h1.1.2, agM (by omega), acg hi (by omega)]
   simp only [List.foldl_cons, List.foldl_nil]
   unfold an3
   rw [if_neg hf, aBd]
 ·try dsimp only
  unfold atG
  rw [acH, List.take_length]
  rfl
theorem aSg {ρ : Type} : @aF0 ρ = @apU ρ := rfl
theorem ag5 (to : Int) (m : Nat) : (ai5 L N to m).length = m + 1 := by simp [ai5]
theorem aws {to : Int} {m k : Nat} (hk : k ≤ m) : (ai5 L N to m)[k]? = some (exL L N to k) := by
 unfold ai5
 rw [List.getElem?_map, List.getElem?_range (by omega)]
 rfl
theorem aSf (hS : afH L N) {to : Int} (ht : 0 ≤ to ∧ to < N) {most : Nat} (hm : most ≤ 100) : apn ((N : Int), L) to (most : Int) = some (ai5 L N to most) := by
 have hN := hS.n60
 unfold apn az8
 dsimp only
 rw [okN (by omega), Int.toNat_natCast]
 refine (aJX (by omega) _ (fun v kk => by rw [acB, List.length_replicate])).trans ?_
 rw [show adE (List.replicate N ae7) = (N : Int) by simp [adE], af0 ht.1 ht.2, agM (by simp; omega)]
 refine ac9 (List.replicate most ()) (fun i => ai5 L N to i) _ (by simp [ai5, exL]) (fun i a hi ha kn => ?_) (fun kn => ?_)
 ·try dsimp only
  unfold ayN
  rw [List.length_replicate] at hi
  have e1 : ilt (i : Int) (most : Int) = true := decide_eq_true (by omega)
  rw [acp e1, acB, ag5]
  have e2 : (((i + 1 : Nat) : Int) - 1) = (i : Int) := by omega
  rw [e2, acm (by omega) (by omega), show adE (ai5 L N to i) = ((i + 1 : Nat) : Int) by unfold adE; rw [ag5], af0 (by omega) (by omega), Int.toNat_natCast, amu (aws (Nat.le_refl i)), okN (by omega), Int.toNat_natCast]
  rw [aSg]
  refine (aJX (by omega) _ (fun v kk => by rw [acB, List.length_replicate])).trans ?_
  refine (aP1 hS (B := i * 4503599627370496) (by omega) (by omega) (aLC hS ht i (by omega)) (aLK _ _) _).trans ?_
  rw [adG (acl (by simp only [ag5, List.length_singleton]; omega)), acm (by omega) (by omega)]
  congr 2
  unfold ai5
  rw [List.range_succ (n := i + 1), List.map_append]
  rfl
 ·try dsimp only
  unfold ayN
  rw [List.length_replicate]
  have e1 : ilt (most : Int) (most : Int) = false := decide_eq_false (by omega)
  rw [aci e1]
def aCc (L : List Lk) (x : List Int) (good : Int → Bool) (u sum : Int) : Option Nat := L.findIdx? fun l => l.1 == u && (decide (gv x l.2.1 ≠ ae7) && good (sum + l.2.2 + gv x l.2.1))
def alr (L : List Lk) (rest : Nat → List Int) (good : Int → Bool) : Nat → Int → Int → List Int → List Int
 | 0, _, _, out => out
 | k + 1, u, sum, out => match aCc L (rest k) good u sum with
   | some i => alr L rest good k (L[i]?.getD (0, 0, 0)).2.1 (sum + (L[i]?.getD (0, 0, 0)).2.2) (out ++ [(i : Int)])
   | none => alr L rest good k u sum out
def folL {ρ : Type} (good : Int → Bool) (c0 : Int) (c1 : List (List Int)) (c2 : List Lk) (c3 : Int) (v0 : Int) (v1 : Int) (v2 : Int) (v3 : List Int) (kn : Int → Int → Int → List Int → Option ρ) (k0 : Int × Int × List Int → Option ρ) : Option ρ :=
 ifb (ilt v2 c3) (adu c2 v2 fun e7 => ifb (ieq e7.1 v0) (ck (c0 - (1 : Int)) fun n8 => adu c1 n8 fun e9 => adu e9 e7.2.1 fun e10 => ifb (ine e10 (1152921504606846976 : Int)) (ck (v1 + e7.2.2) fun n11 => ck (c0 - (1 : Int)) fun n12 => adu c1 n12 fun e13 => adu e13 e7.2.1 fun e14 => ck (n11 + e14) fun n15 => ifb (good n15) (acO (acK ((List.length v3) + (List.length ([v2])))) (ck (v1 + e7.2.2) fun n16 => k0 (e7.2.1, n16, (v3 ++ ([v2]))))) (ck (v2 + (1 : Int)) fun n17 => kn v0 v1 n17 v3)) (ck (v2 + (1 : Int)) fun n18 => kn v0 v1 n18 v3)) (ck (v2 + (1 : Int)) fun n19 => kn v0 v1 n19 v3)) (k0 (v0, v1, v3))
theorem aTS {ρ : Type} (hS : afH L N) (good : Int → Bool) {rest : List (List Int)} {k : Nat} {x : List Int} (hr : rest[k]? = some x) (hk : k ≤ 100) (hx : Lim 1000000000000000000 x) (hxl : x.length = N) {u sum : Int} (hs : -1000000000000000000 ≤ sum ∧ sum ≤ 1000000000000000000) {out : List Int} (ho : out.length ≤ 1000)
 (K : Int × Int × List Int → Option ρ) : ach (fun (v : Int × Int × Int × List Int) kk => folL good ((k + 1 : Nat) : Int) rest L (aco L) v.1 v.2.1 v.2.2.1 v.2.2.2 (fun a b c d => kk (a, b, c, d)) K) (u, sum, (0 : Int), out) =
  match aCc L x good u sum with | some i => K ((L[i]?.getD (0, 0, 0)).2.1, sum + (L[i]?.getD (0, 0, 0)).2.2, out ++ [(i : Int)]) | none => K (u, sum, out) := by
 have hl3 := hS.len
 refine afS (fun v => ∃ i : Nat, i ≤ L.length ∧ v = (u, sum, (i : Int), out) ∧ ∀ j l, j < i → L[j]? = some l → (l.1 == u && (decide (gv x l.2.1 ≠ ae7) && good (sum + l.2.2 + gv x l.2.1))) = false) (fun v => L.length - v.2.2.1.toNat) ?_ ⟨0, by omega, rfl, fun j l h => by omega⟩
 rintro v ⟨i, hi, rfl, hp⟩
 have e0 : (((k + 1 : Nat) : Int) - 1) = (k : Int) := by omega
 rcases Nat.lt_or_ge i L.length with h2 | h2
 ·have hl : L[i]? = some L[i] := List.getElem?_eq_getElem h2
  generalize L[i] = l at hl
  have hm := List.mem_of_getElem? hl
  have h1 := hS.inr l hm
  have h4 := hS.most l hm
  have hstep : (l.1 == u && (decide (gv x l.2.1 ≠ ae7) && good (sum + l.2.2 + gv x l.2.1))) = false → ∃ y, (∃ i : Nat, i ≤ L.length ∧ y = (u, sum, (i : Int), out) ∧ ∀ j l, j < i → L[j]? = some l → (l.1 == u && (decide (gv x l.2.1 ≠ ae7) && good (sum + l.2.2 + gv x l.2.1))) = false) ∧ (L.length - y.2.2.1.toNat < L.length - ((u, sum, (i : Int), out) : Int × Int × Int × List Int).2.2.1.toNat) ∧ y = (u, sum, (i : Int) + 1, out) := fun hf =>
   ⟨_, ⟨i + 1, h2, by rw [show ((i + 1 : Nat) : Int) = (i : Int) + 1 by push_cast; rfl], fun j m hj hm => by
    rcases Nat.lt_succ_iff_lt_or_eq.1 hj with h | rfl
    ·exact hp j m h hm
    ·rw [hl] at hm; cases hm; exact hf⟩, by simp; omega, rfl⟩
  by_cases hf : (l.1 == u && (decide (gv x l.2.1 ≠ ae7) && good (sum + l.2.2 + gv x l.2.1))) = true
  ·refine .inl fun kn => ?_
   have hfi : aCc L x good u sum = some i := by
    unfold aCc
    rw [List.findIdx?_eq_some_iff_getElem]
    obtain ⟨hh, rfl⟩ := List.getElem?_eq_some_iff.1 hl
    exact ⟨h2, hf, fun j hj => by have := hp j _ hj (List.getElem?_eq_getElem (by omega)); rw [this]; simp⟩
   rw [hfi]
   simp only [Bool.and_eq_true, beq_iff_eq, decide_eq_true_eq] at hf
   have h5 := hx _ hf.2.1
   dsimp only
   unfold folL
   rw [acj h2, ace hl, acp (by simp [hf.1]), e0, acm (by omega) (by omega), ace hr, aiX h1.2.1 (by omega), acp (bne_iff_ne.2 hf.2.1), acm (by omega) (by omega), acm (by omega) (by omega), ace hr, aiX h1.2.1 (by omega), acm (by omega) (by omega), acp hf.2.2,
    adG (acl (by simp; omega)), acm (by omega) (by omega), hl]
   rfl
  ·have hf' := Bool.not_eq_true _ ▸ hf
   obtain ⟨y, hy1, hy2, rfl⟩ := hstep hf'
   refine .inr ⟨_, hy1, hy2, fun kn => ?_⟩
   dsimp only
   unfold folL
   rw [acj h2, ace hl, acg h2 (by omega)]
   by_cases g1 : l.1 = u
   ·rw [acp (by simp [g1]), e0, acm (by omega) (by omega), ace hr, aiX h1.2.1 (by omega)]
    by_cases g2 : gv x l.2.1 = ae7
    ·rw [aci (by rw [g2]; rfl)]
    ·have h5 := hx _ g2
     have g3 : good (sum + l.2.2 + gv x l.2.1) = false := by simpa [g1, g2] using hf'
     rw [acp (bne_iff_ne.2 g2), acm (by omega) (by omega), acm (by omega) (by omega), ace hr, aiX h1.2.1 (by omega), acm (by omega) (by omega), aci g3]
   ·rw [aci (by simpa using g1)]
 ·refine .inl fun kn => ?_
  obtain rfl : i = L.length := by omega
  have hfi : aCc L x good u sum = none := by
   unfold aCc
   rw [List.findIdx?_eq_none_iff]
   intro l hl
   obtain ⟨j, hj, rfl⟩ := List.mem_iff_getElem.1 hl
   exact hp j _ hj (List.getElem?_eq_getElem hj)
  rw [hfi]
  dsimp only
  unfold folL
  rw [acH]
def aTR {ρ : Type} (good : Int → Bool) (c0 : List (List Int)) (c6 : List Lk) (v0 : Int) (v1 : Int) (v2 : Int) (v3 : List Int) (kn : Int → Int → Int → List Int → Option ρ) (k0 : List Int → Option ρ) : Option ρ :=
 ifb (igt v1 (0 : Int)) (ach (fun (v22 : Int × Int × Int × List Int) kk27 => folL good v1 c0 c6 (aco c6) v22.1 v22.2.1 v22.2.2.1 v22.2.2.2 (fun u23 u24 u25 u26 => kk27 (u23, u24, u25, u26)) (fun z20 => ck (v1 - (1 : Int)) fun n21 => kn z20.1 n21 z20.2.1 z20.2.2)) (v0, v2, (0 : Int), v3)) (k0 v3)
theorem aSw {ρ : Type} (c0 : List (List Int)) (c4 : Int) (c6 : List Lk) : @akJ ρ c0 c4 c6 = aTR (fun n => ieq n c4) c0 c6 := rfl
theorem aTQ {ρ : Type} (hS : afH L N) (good : Int → Bool) {rest : List (List Int)} {R : Nat → List Int} {k0 : Nat} (hk : k0 ≤ 100) (hr : ∀ k, k < k0 → rest[k]? = some (R k)) (hx : ∀ k, k < k0 → Lim 900000000000000000 (R k) ∧ (R k).length = N) (u : Int) (K : List Int → Option ρ) :
 ach (fun (v : Int × Int × Int × List Int) kk => aTR good rest L v.1 v.2.1 v.2.2.1 v.2.2.2 (fun a b c d => kk (a, b, c, d)) K) (u, (k0 : Int), (0 : Int), []) = K (alr L R good k0 u 0 []) := by
 have key := al9 (f := fun (v : Int × Int × Int × List Int) kk => aTR good rest L v.1 v.2.1 v.2.2.1 v.2.2.2 (fun a b c d => kk (a, b, c, d)) K) (F := fun v => K (alr L R good v.2.1.toNat v.1 v.2.2.1 v.2.2.2))
  (fun v => ∃ k : Nat, v.2.1 = k ∧ k ≤ k0 ∧ (-(((k0 - k : Nat) : Int) * 4503599627370496) ≤ v.2.2.1 ∧ v.2.2.1 ≤ ((k0 - k : Nat) : Int) * 4503599627370496) ∧ v.2.2.2.length ≤ k0 - k) (fun v => v.2.1.toNat) (fun v hv kn hk => ?_) (x := (u, (k0 : Int), 0, [])) ⟨k0, rfl, Nat.le_refl _, by simp, by simp⟩
 ·rw [key]; simp
 ·obtain ⟨u, k', sum, out⟩ := v
  obtain ⟨k, e, h1, h2, h3⟩ := hv
  dsimp only at e h2 h3 hk ⊢
  subst e
  rw [Int.toNat_natCast] at hk ⊢
  unfold aTR
  cases k with
  | zero =>
    rw [aci (by rfl)]
    rfl
  | succ k =>
    rw [acp (decide_eq_true (by omega))]
    have hh := hx k (by omega)
    have hlim : Lim 1000000000000000000 (R k) := fun v hv => by have := hh.1 v hv; omega
    refine (aTS hS good (hr k (by omega)) (by omega) hlim hh.2 (by omega) (by omega) _).trans ?_
    unfold alr
    have e0 : (((k + 1 : Nat) : Int) - 1) = (k : Int) := by omega
    cases hn : aCc L (R k) good u sum with
    | none =>
      dsimp only
      rw [e0, acm (by omega) (by omega), hk _ ⟨k, rfl, by omega, by dsimp only; omega, by dsimp only; omega⟩ (by simp)]
      simp
    | some i =>
      have hi : i < L.length := by
       unfold aCc at hn
       exact (List.findIdx?_eq_some_iff_getElem.1 hn).1
      have hl : L[i]? = some L[i] := List.getElem?_eq_getElem hi
      have h4 := hS.most L[i] (List.getElem_mem _)
      dsimp only
      rw [hl]
      simp only [Option.getD_some]
      rw [e0, acm (by omega) (by omega), hk _ ⟨k, rfl, by omega, by dsimp only; omega, by simp; omega⟩ (by simp)]
      simp
def aB4 (L : List Lk) (N : Nat) (u v : Int) : List Int × Int :=
 if (afk L N u v).2 ≠ 0 then ([], (afk L N u v).2) else
 match (ai5 L N v N).findIdx? (fun x => gv x u == (afk L N u v).1) with
 | some k => (alr L (exL L N v) (fun n => ieq n (afk L N u v).1) k u 0 [], 0)
 | none => ([], 0)
theorem aNy (hS : afH L N) {u v : Int} (hu : 0 ≤ u ∧ u < N) (hv : 0 ≤ v ∧ v < N) : apq ((N : Int), L) u v = some (aB4 L N u v) := by
 have hN := hS.n60
 unfold apq aAr aB4
 rw [ay2 hS hu hv, abZ]
 by_cases h : (afk L N u v).2 = 0
 ·rw [aci (by rw [h]; rfl), if_neg (by simp [h]), aSf hS hv (by omega), abZ]
  rw [aSw]
  let k0 : Int → Option (List Int × Int) := fun j => ach (fun (v29 : Int × Int × Int × List Int) kk34 => aTR (fun n => ieq n (afk L N u v).1) (ai5 L N v N) L v29.1 v29.2.1 v29.2.2.1 v29.2.2.2 (fun u30 u31 u32 u33 => kk34 (u30, u31, u32, u33)) (fun z28 => some ((z28, (0 : Int)) : List Int × Int))) (u, j, (0 : Int), [])
  refine (afZ (ai5 L N v N) (fun x => gv x u == (afk L N u v).1) k0 (k0 (-1)) (fun i x hi hx kn => ?_) (fun kn => ?_)).trans ?_
  rotate_left
  ·try dsimp only
   unfold akK
   rw [acH]
  ·have hex : ∀ k, k < N + 1 → (ai5 L N v N)[k]? = some (exL L N v k) := fun k hk => aws (by omega)
   have hlim : ∀ k, k < N + 1 → Lim 900000000000000000 (exL L N v k) ∧ (exL L N v k).length = N := fun k hk => ⟨fun w hw => by
    have := aLC hS hv k (by omega) w hw; omega, aLK _ _⟩
   cases hf : (ai5 L N v N).findIdx? (fun x => gv x u == (afk L N u v).1) with
   | none =>
     have := al9 (f := fun (v29 : Int × Int × Int × List Int) kk34 => aTR (fun n => ieq n (afk L N u v).1) (ai5 L N v N) L v29.1 v29.2.1 v29.2.2.1 v29.2.2.2 (fun u30 u31 u32 u33 => kk34 (u30, u31, u32, u33)) (fun z28 => some ((z28, (0 : Int)) : List Int × Int))) (F := fun _ => some (([], 0) : List Int × Int)) (fun v => v.2.1 = -1 ∧ v.2.2.2 = []) (fun _ => 0) (fun x hx kn hk => by
      unfold aTR
      rw [hx.1, hx.2]
      rfl) (x := (u, (-1 : Int), (0 : Int), [])) ⟨rfl, rfl⟩
     exact this
   | some k =>
     have hk := (List.findIdx?_eq_some_iff_getElem.1 hf).1
     rw [ag5] at hk
     exact aTQ hS _ (R := exL L N v) (by omega) (fun j hj => hex j (by omega)) (fun j hj => hlim j (by omega)) u (fun z => some ((z, (0 : Int)) : List Int × Int))
  ·try dsimp only
   unfold akK
   have hxl : x.length = N := by
    have hi' := hi
    rw [ag5] at hi'
    rw [aws (by omega)] at hx
    cases hx
    exact aLK _ _
   rw [ag5] at hi
   rw [acB, ag5, acp (decide_eq_true (by omega)), ace hx, aiX hu.1 (by omega), acm (by omega) (by omega), adA]
 ·rw [acp (bne_iff_ne.2 h), if_pos h]
end
end Go.Proofs.ZzM
end
noncomputable section
namespace Go.Proofs.ZzM
open Go Go.Am
def aO7 (f : Int → Int → Int) (z : Int) (l : List Int) (d : Int) : Int := match l with | [] => z | x :: _ => f x d
def auV (f : Int → Int → Int) (z : Int) (c : Cmp) : Int := aO7 f z (ac4 c.2.2.1 c.2.2.2.1) c.2.1 - aO7 f z (ac4 c.2.2.2.1 c.2.2.1) c.2.1
structure aUh (b : acs) (f : Int → Int → Int) (z : Int) (g : acP) : Prop where
 hi : f g.1 g.2.1 ≤ z + (g.2.2.1 + g.2.2.2.1.2)
 lo : z + (g.2.2.1 + g.2.2.2.1.1) ≤ f g.1 g.2.1
 down : ∀ d e, g.2.1 ≤ d → d ≤ e → f g.1 e ≤ f g.1 d
 loss : ∀ d e, g.2.1 ≤ d → d ≤ e → f g.1 d ≤ f g.1 e + agc b g d e
structure aMc (b : acs) (f : Int → Int → Int) (z : Int) : Prop where
 gauge : ∀ g ∈ b.2.1, aUh b f z g
 cmp : ∀ c ∈ b.2.2.2.2.1, (aeG b c).1 ≤ auV f z c ∧ auV f z c ≤ (aeG b c).2
theorem aJY {b : acs} (h : adi b) {p : Int → Int} (hg : ∀ g ∈ b.2.1, akf b p g) : ∃ f : Int → Int → Int, (∀ g ∈ b.2.1, aUh b f (p 0) g) ∧ ∀ g ∈ b.2.1, ∀ d ∈ acv b g, f g.1 d = p (aet b g.1 d) := by
 let f : Int → Int → Int := fun id d => match ags b id with | some g => fill b p g d | none => 0
 have hfv : ∀ g ∈ b.2.1, ∀ d, f g.1 d = fill b p g d := fun g hgm d => by
  show (match ags b g.1 with | some g => fill b p g d | none => 0) = _
  rw [aj0 h.ids hgm]
 refine ⟨f, fun g hgm => ?_, fun g hgm d hd => by rw [hfv g hgm]; exact ayU h hgm (hg g hgm) hd⟩
 have gf := hg g hgm
 have e0 : f g.1 g.2.1 = p (aet b g.1 g.2.1) := by rw [hfv g hgm]; exact ayU h hgm gf (ain g)
 refine ⟨by rw [e0]; exact gf.hi, by rw [e0]; exact gf.lo, fun d e h0 hde => ?_, fun d e h0 hde => ?_⟩
 ·rw [hfv g hgm, hfv g hgm]
  exact (auJ h hgm gf h0 hde).1
 ·rw [hfv g hgm, hfv g hgm]
  exact (auJ h hgm gf h0 hde).2
theorem aHR {b : acs} {f : Int → Int → Int} {p : Int → Int} (hm : ∀ g ∈ b.2.1, ∀ d ∈ acv b g, f g.1 d = p (aet b g.1 d)) {l : List Int} {day : Int} (hl : ∀ x ∈ l, ∃ g ∈ b.2.1, g.1 = x ∧ day ∈ acv b g) : p (ayt b l day) = aO7 f (p 0) l day := by
 cases l with
 | nil => rfl
 | cons x t =>
   obtain ⟨g, q1, rfl, q3⟩ := hl x (by simp)
   exact (hm g q1 day q3).symm
theorem aBA {b : acs} {f : Int → Int → Int} {p : Int → Int} (hm : ∀ g ∈ b.2.1, ∀ d ∈ acv b g, f g.1 d = p (aet b g.1 d)) {c : Cmp}
 (hl : ∀ x, x ∈ ac4 c.2.2.1 c.2.2.2.1 ∨ x ∈ ac4 c.2.2.2.1 c.2.2.1 → ∃ g ∈ b.2.1, g.1 = x ∧ c.2.1 ∈ acv b g) : p (cx b c) - p (cy b c) = auV f (p 0) c := by
 unfold auV
 rw [awy, awx, aHR hm (fun x hx => hl x (.inl hx)), aHR hm (fun x hx => hl x (.inr hx))]
theorem aDL {b : acs} (h : adi b) (f : Int → Int → Int) (z : Int) {l : List Int} {day : Int} (hl : ∀ x ∈ l, ∃ g ∈ b.2.1, g.1 = x ∧ day ∈ acv b g) : ayF b f z (ayt b l day) = aO7 f z l day := by
 rw [awG h f z hl]
 unfold aO7
 cases l <;> rfl
theorem azm {b : acs} (h : adi b) {f : Int → Int → Int} {z : Int} {c : Cmp} (hl : ∀ x, x ∈ ac4 c.2.2.1 c.2.2.2.1 ∨ x ∈ ac4 c.2.2.2.1 c.2.2.1 → ∃ g ∈ b.2.1, g.1 = x ∧ c.2.1 ∈ acv b g) : ayF b f z (cx b c) - ayF b f z (cy b c) = auV f z c := by
 unfold auV
 rw [awy, awx, aDL h f z (fun x hx => hl x (.inl hx)), aDL h f z (fun x hx => hl x (.inr hx))]
theorem aDK {b : acs} (h : adi b) {f : Int → Int → Int} {z : Int} {g : acP} (hg : g ∈ b.2.1) (hh : aUh b f z g) : akf b (ayF b f z) g := by
 have q : ∀ d ∈ acv b g, ayF b f z (aet b g.1 d) = f g.1 d := fun d hd => ajF h f z hg hd
 have e0 := q g.2.1 (ain g)
 refine ⟨?_, ?_, fun d e hd he hde => ?_, fun d e hd he hde => ?_⟩
 ·rw [e0, agu]; exact hh.hi
 ·rw [e0, agu]; exact hh.lo
 ·rw [q d hd, q e he]; exact hh.down d e (h.day hg hd).1 hde
 ·rw [q d hd, q e he]; exact hh.loss d e (h.day hg hd).1 hde
section
variable {b : acs} {c : Cmp}
theorem aE5 (h : adi b) {p : Int → Int} (hp : Pot (ack b) p) : ∃ f, aMc b f (p 0) ∧ ∀ g ∈ b.2.1, ∀ d ∈ acv b g, f g.1 d = p (aet b g.1 d) := by
 obtain ⟨hg, hc⟩ := (aE4 h).1 hp
 obtain ⟨f, hf, hm⟩ := aJY h hg
 refine ⟨f, ⟨hf, fun c hcm => ?_⟩, hm⟩
 have := aBA hm (c := c) (fun x hx => ajg h hcm hx)
 have := hc c hcm
 omega
theorem ayS (h : adi b) {f : Int → Int → Int} {z : Int} (hh : aMc b f z) : Pot (ack b) (ayF b f z) := by
 refine (aE4 h).2 ⟨fun g hg => aDK h hg (hh.gauge g hg), fun c hc => ?_⟩
 have := azm (f := f) (z := z) h (c := c) (fun x hx => ajg h hc hx)
 have := hh.cmp c hc
 omega
theorem aNe (h : adi b) {d : Cmp} (hd : d ∈ b.2.2.2.2.1) : ∀ x, x ∈ ac4 d.2.2.1 d.2.2.2.1 ∨ x ∈ ac4 d.2.2.2.1 d.2.2.1 → ∃ g ∈ (acx b c).2.1, g.1 = x ∧ d.2.1 ∈ acv (acx b c) g := by
 intro x hx
 obtain ⟨g, q1, q2, q3⟩ := ajg h hd hx
 exact ⟨g, q1, q2, aml q3⟩
theorem aQb (h : adi b) (h' : adi (acx b c)) {p : Int → Int} (hp : Pot (acJ (acx b c)) p) : ∃ f, aMc b f (p 0) ∧ p (cx (acx b c) c) - p (cy (acx b c) c) = auV f (p 0) c := by
 obtain ⟨hg, hc⟩ := (ayT h').1 hp
 obtain ⟨f, hf, hm⟩ := aJY h' hg
 refine ⟨f, ⟨fun g hgm => ?_, fun d hd => ?_⟩, aBA hm fun x hx => ajg h' apO hx⟩
 ·have := hf g hgm
  exact ⟨this.hi, this.lo, this.down, this.loss⟩
 ·have := aBA hm (c := d) (aNe h hd)
  have := hc d hd
  omega
theorem aQa (h : adi b) (h' : adi (acx b c)) {f : Int → Int → Int} {z : Int} (hh : aMc b f z) : Pot (acJ (acx b c)) (ayF (acx b c) f z) ∧ ayF (acx b c) f z (cx (acx b c) c) - ayF (acx b c) f z (cy (acx b c) c) = auV f z c := by
 refine ⟨(ayT h').2 ⟨fun g hg => aDK h' hg ?_, fun d hd => ?_⟩, azm h' fun x hx => ajg h' apO hx⟩
 ·have := hh.gauge g hg
  exact ⟨this.hi, this.lo, this.down, this.loss⟩
 ·have := azm (f := f) (z := z) h' (c := d) (aNe h hd)
  have := hh.cmp d hd
  omega
theorem aIo (h : adi b) : adV (ack b) ((aca b).length + 1) = true ↔ ∃ f z, aMc b f z := by
 have := h.sys.n60
 rw [afd h.sys.links (by omega)]
 constructor
 ·rintro ⟨p, hp⟩
  obtain ⟨f, hf, _⟩ := aE5 h hp
  exact ⟨f, _, hf⟩
 ·rintro ⟨f, z, hh⟩
  exact ⟨_, ayS h hh⟩
theorem d_max (h : adi b) (h' : adi (acx b c)) {f : Int → Int → Int} {z : Int} (hh : aMc b f z) : dLo b c ≤ auV f z c ∧ auV f z c ≤ dHi b c := by
 have ho : adV (acJ (acx b c)) ((aca (acx b c)).length + 1) = true := by rw [ajZ h h']; exact (aIo h).2 ⟨f, z, hh⟩
 obtain ⟨hp, hd⟩ := aQa h h' hh
 have a1 := aG7 (agd h') (agA h') ho (arh h') (arf h') hp
 have a2 := aG7 (agd h') (agA h') ho (arf h') (arh h') hp
 unfold dLo dHi
 omega
theorem d_all (h : adi b) (h' : adi (acx b c)) (ho : adV (ack b) ((aca b).length + 1) = true) {t : Int} (h1 : dLo b c ≤ t) (h2 : t ≤ dHi b c) : ∃ f z, aMc b f z ∧ auV f z c = t := by
 rw [← ajZ h h'] at ho
 obtain ⟨p, hp, hd⟩ := aQw (agd h') (agA h') ho (arh h') (arf h') h1 h2
 obtain ⟨f, hf, he⟩ := aQb h h' hp
 exact ⟨f, _, hf, by rw [← he]; exact hd⟩
theorem aTX (h : adi b) (h' : adi (acx b c)) (ho : adV (ack b) ((aca b).length + 1) = true) : dLo b c ≤ dHi b c := by
 rw [← ajZ h h'] at ho
 exact aBy (agd h') (agA h') ho (arh h') (arf h')
structure Pred (b : acs) (c : Cmp) (s : Int × Int) : Prop where
 good : adi b
 good2 : adi (acx b (ab6 c))
 order : aLB b c ≤ asi b c
 has : ∃ f z, aMc b f z
 ends : s.1 - aLB b c ≤ s.2 - asi b c
 bd : -9007199254740992 ≤ s.1 - aLB b c ∧ s.2 - asi b c ≤ 9007199254740992
 all : ∀ f z, aMc b f z → s.1 - aLB b c ≤ auV f z c ∧ auV f z c ≤ s.2 - asi b c
 each : ∀ t, s.1 - aLB b c ≤ t → t ≤ s.2 - asi b c → ∃ f z, aMc b f z ∧ auV f z c = t
theorem aH1 (hp : (adx b c).2 = 0) : Pred b c (adx b c).1 := by
 obtain ⟨h, h'⟩ := ajo hp
 rw [aB3 h h'] at hp ⊢
 by_cases ho : adV (ack b) ((aca b).length + 1) = true
 ·rw [if_pos ho] at hp ⊢
  obtain ⟨h1, h2⟩ := aKG hp
  rw [h2]
  have e1 : aLB b (ab6 c) = aLB b c := rfl
  have e2 : asi b (ab6 c) = asi b c := rfl
  rw [e1, e2] at *
  have s1 : dLo b (ab6 c) + aLB b c - aLB b c = dLo b (ab6 c) := by omega
  have s2 : dHi b (ab6 c) + asi b c - asi b c = dHi b (ab6 c) := by omega
  refine ⟨h, h', h1, (aIo h).1 ho, ?_, ?_, fun f z hh => ?_, fun t t1 t2 => ?_⟩
  ·simp only
   rw [s1, s2]
   exact aTX h h' ho
  ·simp only
   rw [s1, s2]
   rw [← ajZ h h'] at ho
   have a1 := aNd (agd h') (agA h') ho (arh h') (arf h')
   have a2 := aNd (agd h') (agA h') ho (arf h') (arh h')
   unfold dLo dHi
   omega
  ·simp only
   rw [s1, s2]
   exact d_max (c := ab6 c) h h' hh
  ·simp only at t1 t2
   rw [s1] at t1
   rw [s2] at t2
   exact d_all (c := ab6 c) h h' ho t1 t2
 ·rw [if_neg ho] at hp
  simp at hp
end
end Go.Proofs.ZzM
end
noncomputable section
namespace Go.Proofs.ZzM
open Go Go.Am
theorem aET {b : acs} (h : adi b) : (aed b).length = (ack b).length := by
 have g0 : ∀ i, ((b.2.1.take i).mapIdx (adv b)).flatten.length = ((b.2.1.take i).flatMap (adm b)).length := by
  intro i
  induction i with
  | zero => simp
  | succ i ih =>
    rcases Nat.lt_or_ge i b.2.1.length with hi | hi
    ·have hg : b.2.1[i]? = some b.2.1[i] := List.getElem?_eq_getElem hi
     rw [ahP _ hg, take_succ hg, List.flatMap_append, List.flatten_append, List.length_append, List.length_append, ih]
     congr 1
     unfold adv adm
     simp only [List.flatMap_cons, List.flatMap_nil, List.append_nil, List.flatten_cons, List.flatten_nil, List.length_append]
     rw [agJ _ _ (fun _ => rfl), agJ _ _ (fun _ => rfl)]
     rfl
    ·rw [List.take_of_length_le (by omega)] at ih ⊢
     exact ih
 have c0 := aOz (b := b) b.2.2.2.2.1.length (Nat.le_refl _)
 have g1 := g0 b.2.1.length
 rw [List.take_length] at c0 g1
 unfold aed ack
 rw [List.length_append, List.length_append, g1, c0.1, c0.2]
theorem aJN {b : acs} : ∀ s ∈ (b.2.1.mapIdx (adv b)).flatten, (s.1 = 1 ∨ s.1 = 2) ∧ 0 ≤ s.2 ∧ s.2 < b.2.1.length := by
 intro s hs
 obtain ⟨l, hl, hm⟩ := List.mem_flatten.1 hs
 obtain ⟨i, hi, rfl⟩ := List.mem_iff_getElem.1 hl
 rw [List.length_mapIdx] at hi
 rw [List.getElem_mapIdx] at hm
 unfold adv at hm
 rcases List.mem_append.1 hm with h | h
 ·simp at h; subst h; exact ⟨.inl rfl, by dsimp only; omega, by dsimp only; omega⟩
 ·obtain ⟨_, _, h⟩ := List.mem_flatMap.1 h
  simp at h; subst h; exact ⟨.inr rfl, by dsimp only; omega, by dsimp only; omega⟩
theorem aJ4 {l : List Cmp} : ∀ s ∈ (l.mapIdx fun i (_ : Cmp) => [((3 : Int), (i : Int)), ((3 : Int), (i : Int))]).flatten, s.1 = 3 ∧ 0 ≤ s.2 ∧ s.2 < l.length := by
 intro s hs
 obtain ⟨m, hl, hm⟩ := List.mem_flatten.1 hs
 obtain ⟨i, hi, rfl⟩ := List.mem_iff_getElem.1 hl
 rw [List.length_mapIdx] at hi
 rw [List.getElem_mapIdx] at hm
 simp at hm; subst hm
 exact ⟨rfl, by dsimp only; omega, by dsimp only; omega⟩
theorem aRU (b : acs) (c : Cmp) : ∃ S : List (Int × Int), aed (acx b c) = S ++ [(3, (b.2.2.2.2.1.length : Int)), (3, (b.2.2.2.2.1.length : Int))] ∧ ∀ s ∈ S, ¬ (s.1 = 3 ∧ s.2 = (b.2.2.2.2.1.length : Int)) := by
 refine ⟨((acx b c).2.1.mapIdx (adv (acx b c))).flatten ++ (b.2.2.2.2.1.mapIdx fun i (_ : Cmp) => [((3 : Int), (i : Int)), ((3 : Int), (i : Int))]).flatten, ?_, fun s hs => ?_⟩
 ·unfold aed
  rw [show (acx b c).2.2.2.2.1 = b.2.2.2.2.1 ++ [c] from rfl, List.mapIdx_append, List.flatten_append, List.append_assoc]
  simp
 ·rcases List.mem_append.1 hs with h | h
  ·have := aJN s h; omega
  ·have := aJ4 s h; omega
theorem aEj (b : acs) (c : Cmp) (h : adi (acx b c)) : ack (acx b c) = acJ (acx b c) ++ [(cy (acx b c) c, cx (acx b c) c, (aeG (acx b c) c).2), (cx (acx b c) c, cy (acx b c) c, -(aeG (acx b c) c).1)] := by
 rw [aLH]
 unfold ack
 rw [show (acx b c).2.2.2.2.1 = b.2.2.2.2.1 ++ [c] from rfl, List.flatMap_append, List.append_assoc]
 simp [acZ]
def aS2 (b : acs) (c : Cmp) (s t : Int) : Int := dst (acJ (acx b c)) ((aca (acx b c)).length + 1) s t
abbrev End : Type := Int × Int × Int
abbrev awJ : Type := (Int × Int) × End × End
def endP (b : acs) (c : Cmp) (s t : Int) : End :=
 (aS2 b c s t, aS2 b c s (cy (acx b c) c) + (aeG b c).2 + aS2 b c (cx (acx b c) c) t, aS2 b c s (cx (acx b c) c) - (aeG b c).1 + aS2 b c (cy (acx b c) c) t)
def worth0 : awJ := ((0, 0), (0, 0, 0), (0, 0, 0))
def aHA (b : acs) (n : Int × Int) (c : Cmp) : awJ :=
 ((adx b c).1, endP b (ab6 c) 0 (aki (acx b (ab6 c)) n.1 n.2), endP b (ab6 c) (aki (acx b (ab6 c)) n.1 n.2) 0)
def aGW (b : acs) (n : Int × Int) (c : Cmp) : awJ × Int := if (adx b c).2 ≠ 0 then (worth0, (adx b c).2) else (aHA b n c, 0)
theorem awU {b : acs} {c : Cmp} (h : (adx b c).2 = 0) : adV (ack b) ((aca b).length + 1) = true := by
 obtain ⟨g1, g2⟩ := ajo h
 rw [aB3 g1 g2] at h
 by_cases ho : adV (ack b) ((aca b).length + 1) = true
 ·exact ho
 ·rw [if_neg ho] at h; cases h
section
variable {b : acs} {c : Cmp} (h : adi b) (h' : adi (acx b c)) (ho : adV (ack b) ((aca b).length + 1) = true)
include h h' ho
theorem alq {s t : Int} (hs : 0 ≤ s ∧ s < ((aca (acx b c)).length + 1 : Nat)) (ht : 0 ≤ t ∧ t < ((aca (acx b c)).length + 1 : Nat)) : -9007199254740992 ≤ aS2 b c s t ∧ aS2 b c s t ≤ 9007199254740992 :=
 aNd (agd h') (agA h') (by rw [ajZ h h']; exact ho) hs ht
theorem amc (B : acs) {s t : Int} (hs : 0 ≤ s ∧ s < ((aca (acx b c)).length + 1 : Nat)) (ht : 0 ≤ t ∧ t < ((aca (acx b c)).length + 1 : Nat)) : acV (B, (((aca (acx b c)).length : Int) + 1, acJ (acx b c))) t s = some (aS2 b c s t) := by
 rw [show (((aca (acx b c)).length : Int) + 1) = (((aca (acx b c)).length + 1 : Nat) : Int) by push_cast; rfl, aKh (agd h') ht hs, aqi (agd h') (agA h') hs ht, if_pos (by rw [ajZ h h']; exact ho)]
 rfl
theorem aPa : (-4503599627370496 ≤ (aeG b c).1 ∧ (aeG b c).1 ≤ 4503599627370496) ∧ (-4503599627370496 ≤ (aeG b c).2 ∧ (aeG b c).2 ≤ 4503599627370496) := by
 have hs := h'.sys
 have e := aEj b c h'
 have m1 := hs.most (cy (acx b c) c, cx (acx b c) c, (aeG (acx b c) c).2) (by rw [e]; simp)
 have m2 := hs.most (cx (acx b c) c, cy (acx b c) c, -(aeG (acx b c) c).1) (by rw [e]; simp)
 have e2 : aeG (acx b c) c = aeG b c := rfl
 rw [e2] at m1 m2
 dsimp only at m1 m2
 omega
theorem aNb (B : acs) {s t : Int} (hs : 0 ≤ s ∧ s < ((aca (acx b c)).length + 1 : Nat)) (ht : 0 ≤ t ∧ t < ((aca (acx b c)).length + 1 : Nat)) :
 aiH t s (B, (((aca (acx b c)).length : Int) + 1, acJ (acx b c))) (cy (acx b c) c) (aeG b c) (cx (acx b c) c) = some (endP b c s t) := by
 have hx := arh h'
 have hy := arf h'
 have b1 := alq h h' ho hs ht
 have b2 := alq h h' ho hs hy
 have b3 := alq h h' ho hx ht
 have b4 := alq h h' ho hs hx
 have b5 := alq h h' ho hy ht
 have b6 := aPa h h' ho
 unfold aiH aoE
 rw [amc h h' ho B hs ht, abZ, amc h h' ho B hs hy, abZ, acm (by omega) (by omega), amc h h' ho B hx ht, abZ, acm (by omega) (by omega), amc h h' ho B hs hx, abZ, acm (by omega) (by omega), amc h h' ho B hy ht, abZ, acm (by omega) (by omega)]
 rfl
end
theorem aH3 {B : acs} (h : adi B) (hn : ∀ g ∈ B.2.1, I64 g.2.2.2.2.1.1) (s : Sys) (l : List Int) (c : Cmp) : aiI l (B, s) c = some (atP (aca B) l c.2.1) := by
 unfold aiI aoF
 cases l with
 | nil => rw [acB]; rfl
 | cons x t =>
   rw [acB, aci (beq_eq_false_iff_ne.2 (by simp; omega)), show (0 : Int) = ((0 : Nat) : Int) from rfl, ace (show (x :: t)[0]? = some x from rfl), aBW h hn, abZ]
   rfl
theorem aQf {ρ : Type} {b : acs} {c : Cmp} (h : adi (acx b c)) (K : List Lk → Option ρ) :
 ach (fun (v17 : Val acb) kk20 => aho (b.2.2.2.2.1.length : Int) (aed (acx b c)) (ack (acx b c)) (aco (ack (acx b c))) v17.1 v17.2 (fun u18 u19 => kk20 (u18, u19)) K) ((0 : Int), []) = K (acJ (acx b c)) := by
 have hl3 := h.sys.len
 have hsl := aET h
 obtain ⟨S, hS, hSk⟩ := aRU b c
 have hL := aEj b c h
 have hSl : S.length = (acJ (acx b c)).length := by
  rw [hS, hL, List.length_append, List.length_append] at hsl
  simpa using hsl
 generalize acJ (acx b c) = H at hL hSl ⊢
 rw [hS]
 generalize ack (acx b c) = L at hL hsl hl3 ⊢
 have hLl : L.length = H.length + 2 := by rw [hL]; simp
 refine ac9 L (fun i => (L.take i).take H.length) _ (by simp) (fun i l hi hl kn => ?_) (fun kn => ?_)
 ·try dsimp only
  unfold aho
  rw [acj hi, ace hl]
  rcases Nat.lt_or_ge i H.length with h1 | h1
  ·have hs : (S ++ [((3 : Int), (b.2.2.2.2.1.length : Int)), (3, (b.2.2.2.2.1.length : Int))])[i]? = some S[i] := by
    rw [List.getElem?_append_left (by omega), List.getElem?_eq_getElem]
   have hk := hSk S[i] (List.getElem_mem _)
   have e : ((aeA (S[i]).1 (3 : Int)) && ((aeA (S[i]).2 (b.2.2.2.2.1.length : Int)) && true)) = false := by
    simp [aeA]; omega
   have e1 : (L.take i).take H.length = L.take i := List.take_of_length_le (by rw [List.length_take]; omega)
   have e2 : (L.take (i + 1)).take H.length = L.take (i + 1) := List.take_of_length_le (by rw [List.length_take]; omega)
   rw [ace hs, e, acp (by rfl), e1, e2, adG (acl (by rw [List.length_take]; simp; omega)), acg hi (by omega), take_succ hl]
  ·have hs : (S ++ [((3 : Int), (b.2.2.2.2.1.length : Int)), (3, (b.2.2.2.2.1.length : Int))])[i]? = some ((3 : Int), (b.2.2.2.2.1.length : Int)) := by
    rw [List.getElem?_append_right (by omega)]
    have : i - S.length = 0 ∨ i - S.length = 1 := by omega
    rcases this with e | e <;> rw [e] <;> rfl
   have e : ((aeA (3 : Int) (3 : Int)) && ((aeA (b.2.2.2.2.1.length : Int) (b.2.2.2.2.1.length : Int)) && true)) = true := by simp [aeA]
   have e1 : (L.take i).take H.length = (L.take (i + 1)).take H.length := by
    rw [List.take_take, List.take_take]
    congr 1
    omega
   rw [ace hs]
   dsimp only
   rw [e, aci (by rfl), acg hi (by omega), e1]
 ·try dsimp only
  unfold aho
  rw [acH, List.take_length, hL]
  simp
theorem aJD {B : acs} (hr : aSP B) (n : Int × Int) {c : Cmp} (hA : c.2.2.1.length ≤ 1000) (hB : c.2.2.2.1.length ≤ 1000) : amf (B, aDB B) n c = some (aGW B n c) := by
 unfold amf avy aGW
 have hs := hr.good.size
 rw [show (B, aDB B).1 = B from rfl, aOD hs hr.num hA hB, abZ]
 by_cases hp : (adx B c).2 = 0
 ·obtain ⟨g1, g2⟩ := ajo hp
  have ho := awU hp
  have e1 : apD B (ab6 c) = (acx B (ab6 c), 0) := by
   unfold apD
   rw [if_neg (by simp [(acu B).2 g1]), if_neg (by simp [(acu _).2 g2])]
  have hn2 : ∀ g ∈ (acx B (ab6 c)).2.1, I64 g.2.2.2.2.1.1 := hr.num
  have hC := g2.nC
  have hw : (((acx B (ab6 c)).2.2.2.2.1.length : Int) - 1) = (B.2.2.2.2.1.length : Int) := by simp [acx]
  have hSays : aSO (acx B (ab6 c)) (B.2.2.2.2.1.length : Int) = (aeG B (ab6 c), 0) := by
   have e : aly (acx B (ab6 c)) (B.2.2.2.2.1.length : Int) = (ab6 c, 0) := by
    unfold aly
    rw [if_neg (by simp [(acu _).2 g2]), if_neg (by simp [acx]; omega)]
    simp [acx]
   unfold aSO
   rw [e, if_neg (by simp)]
   rfl
  have hCancel : aB5 c.2.2.1 c.2.2.2.1 = (ac4 c.2.2.1 c.2.2.2.1, ac4 c.2.2.2.1 c.2.2.1, 0) := by
   have hnu := (ahf _).1 (g2.nums (apO (c := ab6 c)))
   have h6 : aja c.2.2.1 = true ∧ aja c.2.2.2.1 = true := ⟨hnu.2.2.2.2.2.1, hnu.2.2.2.2.2.2⟩
   unfold aB5
   rw [h6.1, h6.2]
   rfl
  rw [aci (by rw [hp]; rfl), if_neg (by simp [hp]), show ajl B (c.1, c.2.1, c.2.2.1, c.2.2.2.1, (0 : Int), c.2.2.2.2.2) = ajl B (ab6 c) from rfl, aRc hs hr.num (c := ab6 c) hA hB, abZ, e1]
  dsimp only
  rw [aci (by rfl), acB, hw, acm (by omega) (by omega), aUa (g2.inn hn2), abZ, hSays, aKt (by omega) (by omega), abZ, hCancel, ake (g2.inn hn2), abZ, af5 g2]
  dsimp only
  refine (aQf g2 _).trans ?_
  have ex : cx (acx B (ab6 c)) (ab6 c) = atP (aca (acx B (ab6 c))) (ac4 c.2.2.1 c.2.2.2.1) c.2.1 := rfl
  have ey : cy (acx B (ab6 c)) (ab6 c) = atP (aca (acx B (ab6 c))) (ac4 c.2.2.2.1 c.2.2.1) c.2.1 := rfl
  rw [aH3 g2 hn2, abZ, aH3 g2 hn2, abZ, aBW g2 hn2, abZ, ← ex, ← ey, aNb g1 g2 ho _ (ae8 _) (aeb _ n), abZ, aNb g1 g2 ho _ (aeb _ n) (ae8 _), abZ]
  rfl
 ·rw [acp (bne_iff_ne.2 hp), if_pos hp]
  rfl
end Go.Proofs.ZzM
end
noncomputable section
namespace Go.Proofs.ZzM
open Go Go.Am
abbrev aON : Type := acs × (Int × Int) × Bool × Int × List Int
def aQK : aON := (akj, (0, 0), false, 0, [])
def alz (L : List Lk) : Int → Int → List Int → Int × Int × Bool
 | u, s, [] => (u, s, true)
 | u, s, i :: t => if (L[i.toNat]?.getD (0, 0, 0)).1 = u then alz L (L[i.toNat]?.getD (0, 0, 0)).2.1 (s + (L[i.toNat]?.getD (0, 0, 0)).2.2) t else (0, 0, false)
def aKj (L : List Lk) (i : Int) : Bool := decide (i < 0) || decide ((L.length : Int) ≤ i)
def agH (L : List Lk) (l : List Int) : Int := if 80 < l.length then 2 else if l.any (aKj L) then 1 else 0
def adS (L : List Lk) (u v : Int) (l : List Int) : Int × Int :=
 if agH L l ≠ 0 then (0, agH L l) else if (alz L u 0 l).2.2 = true ∧ (alz L u 0 l).1 = v then ((alz L u 0 l).2.1, 0) else (0, 8)
def aTb (u : Int) (w : Int × Int × Bool) : Int := if w.2.2 = true ∧ w.1 = u ∧ w.2.1 < 0 then 0 else 8
def anA (L : List Lk) (l : List Int) : Int :=
 if agH L l ≠ 0 then agH L l else match l with
 | [] => 8
 | i :: _ => aTb (L[i.toNat]?.getD (0, 0, 0)).1 (alz L (L[i.toNat]?.getD (0, 0, 0)).1 0 l)
section
variable {L : List Lk} {N : Nat}
theorem aEp (N : Int) (hL : L.length ≤ 1000) (l : List Int) : aj7 (N, L) l = some (agH L l) := by
 unfold aj7 arZ agH
 dsimp only
 rw [acB]
 by_cases h : 80 < l.length
 ·rw [acp (decide_eq_true (by omega)), if_pos h]
 ·rw [aci (decide_eq_false (by omega)), if_neg h, ← acB l]
  refine (afy l (aKj L) (fun z => ifb (ige z 0) (some 1) (some 0)) (some 1) (some 0) (fun j => by rw [show ige (j : Int) 0 = true from decide_eq_true (by omega)]; rfl) (fun i a hi ha kn => ?_) (fun kn => ?_)).trans ?_
  ·try dsimp only
   unfold aii aKj
   rw [acj hi, ace ha, acg hi (by omega), acB, adA, adA]
   by_cases h1 : a < 0
   ·simp [ilt, h1]
   ·by_cases h2 : (L.length : Int) ≤ a
    ·simp [ilt, ige, h1, h2]
    ·simp [ilt, ige, h1, h2]
  ·try dsimp only
   unfold aii
   rw [acH]
  ·cases l.any (aKj L) <;> rfl
theorem aGZ {l : List Int} (h : agH L l = 0) : l.length ≤ 80 ∧ ∀ i ∈ l, 0 ≤ i ∧ i.toNat < L.length := by
 unfold agH at h
 split at h
 ·omega
 ·rename_i h1
  split at h
  ·omega
  ·rename_i h2
   refine ⟨by omega, fun i hi => ?_⟩
   have := List.any_eq_false.1 (Bool.eq_false_iff.2 h2) i hi
   simp [aKj] at this
   omega
theorem aOS (hS : afH L N) (u : Int) {l : List Int} (h : agH L l = 0) : auR ((N : Int), L) u l = some (alz L u 0 l) := by
 obtain ⟨hl, hi⟩ := aGZ h
 unfold auR aFY
 dsimp only
 have := al9 (f := fun (v7 : Int × Int × Int) kk11 => amP l (aco l) L v7.1 v7.2.1 v7.2.2 (fun u8 u9 u10 => kk11 (u8, u9, u10)) (fun z5 => some (z5.1, z5.2.1, z5.2.2)) (fun z6 => some (z6.1, z6.2, true)))
  (F := fun v => some (alz L v.1 v.2.1 (l.drop v.2.2.toNat))) (fun v => ∃ i : Nat, v.2.2 = i ∧ i ≤ l.length ∧ (-(i * 4503599627370496) ≤ v.2.1 ∧ v.2.1 ≤ i * 4503599627370496)) (fun v => l.length - v.2.2.toNat) (fun v hv kn hk => ?_) (x := (u, (0 : Int), (0 : Int))) ⟨0, rfl, by omega, by simp⟩
 ·exact this
 ·obtain ⟨w, s, n⟩ := v
  obtain ⟨i, e, h1, h2⟩ := hv
  dsimp only at e h2 hk ⊢
  subst e
  rw [Int.toNat_natCast] at hk ⊢
  unfold amP
  rcases Nat.lt_or_ge i l.length with h3 | h3
  ·have ha : l[i]? = some l[i] := List.getElem?_eq_getElem h3
   have hd : l.drop i = l[i] :: l.drop (i + 1) := List.drop_eq_getElem_cons h3
   rw [hd]
   have hx := hi l[i] (List.getElem_mem _)
   generalize l[i] = a at ha hx
   have hg : L[a.toNat]? = some L[a.toNat] := List.getElem?_eq_getElem hx.2
   have hm := hS.most _ (List.mem_of_getElem? hg)
   generalize L[a.toNat] = x at hg hm
   rw [acj h3, ace ha, ah7 hx.1 hg]
   unfold alz
   rw [hg]
   simp only [Option.getD_some]
   by_cases hc : x.1 = w
   ·rw [aci (by rw [hc]; exact bne_self_eq_false' _), if_pos hc, acm (by omega) (by omega), acg h3 (by omega), hk _ ⟨i + 1, by push_cast; rfl, h3, by dsimp only; push_cast; omega⟩ (by simp; omega)]
    simp
   ·rw [acp (bne_iff_ne.2 hc), if_neg hc]
  ·obtain rfl : i = l.length := by omega
   rw [acH, List.drop_length]
   rfl
theorem aOT (hS : afH L N) : ∀ (l : List Int) (u s B : Int), -B ≤ s ∧ s ≤ B → -(B + l.length * 4503599627370496) ≤ (alz L u s l).2.1 ∧ (alz L u s l).2.1 ≤ B + l.length * 4503599627370496
 | [], u, s, B, h => by simp [alz]; omega
 | i :: t, u, s, B, h => by
   unfold alz
   have hm : -4503599627370496 ≤ (L[i.toNat]?.getD (0, 0, 0)).2.2 ∧ (L[i.toNat]?.getD (0, 0, 0)).2.2 ≤ 4503599627370496 := by
    cases hg : L[i.toNat]? with
    | none => simp
    | some x => exact hS.most x (List.mem_of_getElem? hg)
   split
   ·have := aOT hS t (L[i.toNat]?.getD (0, 0, 0)).2.1 (s + (L[i.toNat]?.getD (0, 0, 0)).2.2) (B + 4503599627370496) (by omega)
    rw [List.length_cons]
    push_cast
    omega
   ·dsimp only
    omega
theorem au6 (hS : afH L N) {u v : Int} (hu : 0 ≤ u ∧ u < N) (hv : 0 ≤ v ∧ v < N) (l : List Int) : agC ((N : Int), L) u v l = some (adS L u v l) := by
 have hl3 := hS.len
 unfold agC alj adS
 have e1 : (decide (0 ≤ u) && decide (u < (N : Int))) = true := by simp [hu.1, hu.2]
 have e2 : (decide (0 ≤ v) && decide (v < (N : Int))) = true := by simp [hv.1, hv.2]
 rw [agl hS, abZ, aci (by rfl), azB, abZ, e1, aci (by rfl), azB, abZ, e2, aci (by rfl), aEp _ (by omega), abZ]
 by_cases h : agH L l = 0
 ·rw [aci (by rw [h]; rfl), if_neg (by simp [h]), aOS hS u h, abZ]
  cases h1 : (alz L u 0 l).2.2 with
  | false => rw [acp (by rfl), if_neg (by simp)]
  | true =>
    rw [aci (by rfl)]
    by_cases h2 : (alz L u 0 l).1 = v
    ·rw [aci (by rw [h2]; exact bne_self_eq_false' _), if_pos ⟨rfl, h2⟩]
    ·rw [acp (bne_iff_ne.2 h2), if_neg (fun h => h2 h.2)]
 ·rw [acp (bne_iff_ne.2 h), if_pos h]
theorem aP9 {ρ α : Type} (x : α) (t : List α) (f : α → Option ρ) : adu (x :: t) (0 : Int) f = f x := rfl
theorem aDx (hS : afH L N) (l : List Int) : ail ((N : Int), L) l = some (anA L l) := by
 have hl3 := hS.len
 unfold ail ali anA
 rw [agl hS, abZ, aci (by rfl), aEp _ (by omega), abZ]
 by_cases h : agH L l = 0
 ·rw [aci (by rw [h]; rfl), if_neg (by simp [h])]
  cases l with
  | nil => rw [acB]; rfl
  | cons i t =>
    have hx := (aGZ h).2 i (by simp)
    have hg : L[i.toNat]? = some L[i.toNat] := List.getElem?_eq_getElem hx.2
    generalize L[i.toNat] = x at hg
    rw [acB, aci (beq_eq_false_iff_ne.2 (by simp; omega)), aP9, ah7 hx.1 hg, aOS hS x.1 h, abZ]
    dsimp only
    rw [hg]
    dsimp only [Option.getD_some]
    generalize alz L x.1 0 (i :: t) = w
    obtain ⟨e, sum, ok⟩ := w
    unfold aTb
    dsimp only
    cases ok with
    | false => rw [acp (by rfl), if_neg (by simp)]
    | true =>
      rw [aci (by rfl)]
      by_cases h2 : e = x.1
      ·rw [aci (by rw [h2]; exact bne_self_eq_false' _)]
       by_cases h3 : sum < 0
       ·rw [aci (decide_eq_false (by omega)), if_pos ⟨rfl, h2, h3⟩]
       ·rw [acp (decide_eq_true (by omega)), if_neg (fun h => h3 h.2.2)]
      ·rw [acp (bne_iff_ne.2 h2), if_neg (fun h => h2 h.2.1)]
 ·rw [acp (bne_iff_ne.2 h), if_pos h]
end
def agk (c : aON) : Int :=
 if acw c.1 ≠ 0 then acw c.1 else if aki c.1 c.2.1.1 c.2.1.2 = 0 then 5 else
 if c.2.2.1 then (if adS (ack c.1) 0 (aki c.1 c.2.1.1 c.2.1.2) c.2.2.2.2 = (c.2.2.2.1, 0) then 0 else 8)
 else (if adS (ack c.1) (aki c.1 c.2.1.1 c.2.1.2) 0 c.2.2.2.2 = (-c.2.2.2.1, 0) then 0 else 8)
def akg (c : aON) : Int :=
 if acw c.1 ≠ 0 then acw c.1 else if c.2.1 ≠ (0, 0) ∨ c.2.2.1 = true ∨ c.2.2.2.1 ≠ 0 then 1 else if anA (ack c.1) c.2.2.2.2 = 0 then 0 else 8
def awL (b : acs) (c : aON) : Bool × Int :=
 if acw b ≠ 0 then (false, acw b) else
 if c.2.1 = (0, 0) then (if akg c ≠ 0 then (false, akg c) else (aE6 c.1 b, 0)) else (if agk c ≠ 0 then (false, agk c) else (aE6 c.1 b, 0))
theorem wr_neg {n : Int} (h : I64 n) : aTi (0 - n) = if n = -9223372036854775808 then n else -n := by
 have e : aTi (0 - n) = if (0 - n) % 18446744073709551616 ≥ 9223372036854775808 then (0 - n) % 18446744073709551616 - 18446744073709551616 else (0 - n) % 18446744073709551616 := by
  simp [aTi, IntKind.wrap, IntKind.bits, IntKind.signed]
 rw [e]
 unfold I64 at h
 split <;> split <;> omega
theorem apF {c : aON} (hI : In c.1) (hv : I64 c.2.2.2.1) : agi c = some (agk c) := by
 unfold agi amM agk
 rw [afC hI.size hI.num, abZ]
 by_cases hc : acw c.1 = 0
 ·have hg := (acu c.1).1 hc
  rw [aci (by simp [ine, hc]), if_neg (show ¬ (acw c.1 ≠ 0) from fun h => h hc), au3 hI, abZ, anz hg, ake hI, abZ, af5 hg]
  dsimp only
  by_cases h0 : aki c.1 c.2.1.1 c.2.1.2 = 0
  ·rw [if_pos h0, if_pos h0]; rfl
  ·have hN := hg.sys
   have hr := aeb c.1 c.2.1
   have hz := ae8 c.1
   rw [if_neg h0, if_neg h0, aci (by rfl), show (((aca c.1).length : Int) + 1) = (((aca c.1).length + 1 : Nat) : Int) by push_cast; rfl]
   dsimp only
   rw [show (∀ f : Int → Option Int, ck (0 - c.2.2.2.1) f = f (aTi (0 - c.2.2.2.1))) from fun f => rfl, wr_neg hv]
   have key : ∀ (u v : Int) (t t' : Int), (t' = t ∨ (t' = -9223372036854775808 ∧ t = 9223372036854775808)) → (ifb (ine (adS (ack c.1) u v c.2.2.2.2).2 0) (some (8 : Int)) (ifb (ine (adS (ack c.1) u v c.2.2.2.2).1 t') (some 8) (some 0))) = some (if adS (ack c.1) u v c.2.2.2.2 = (t, 0) then 0 else 8) := by
    intro u v t t' ht
    have hb : -9000000000000000000 ≤ (adS (ack c.1) u v c.2.2.2.2).1 ∧ (adS (ack c.1) u v c.2.2.2.2).1 ≤ 9000000000000000000 := by
     unfold adS
     split
     ·simp
     ·rename_i hi
      split
      ·have := aOT hN c.2.2.2.2 u 0 0 (by simp)
       have := (aGZ (by simpa using hi)).1
       dsimp only
       omega
      ·simp
    generalize adS (ack c.1) u v c.2.2.2.2 = p at hb ⊢
    by_cases h2 : p.2 = 0
    ·rw [aci (by rw [h2]; rfl)]
     by_cases h1 : p.1 = t'
     ·have : p = (t, 0) := Prod.ext (by rcases ht with h | h <;> omega) h2
      rw [aci (by rw [h1]; exact bne_self_eq_false' _), if_pos this]
     ·have : ¬ p = (t, 0) := fun e => by
       have e1 : p.1 = t := by rw [e]
       rcases ht with h | h <;> omega
      rw [acp (bne_iff_ne.2 h1), if_neg this]
    ·have : ¬ p = (t, 0) := fun e => h2 (by rw [e])
     rw [acp (bne_iff_ne.2 h2), if_neg this]
   unfold I64 at hv
   cases c.2.2.1 with
   | true =>
     rw [adH, au6 hN hz hr, abZ, key _ _ _ _ (.inl rfl)]
     rfl
   | false =>
     rw [acF, au6 hN hr hz, abZ, key _ _ (-c.2.2.2.1) _ (by split <;> omega)]
     rfl
 ·rw [acp (by simp [ine, hc]), if_pos hc]
theorem aHv {c : aON} (hI : In c.1) : aik c = some (akg c) := by
 unfold aik ald akg
 rw [afC hI.size hI.num, abZ]
 by_cases hc : acw c.1 = 0
 ·have hg := (acu c.1).1 hc
  rw [aci (by simp [ine, hc]), if_neg (show ¬ (acw c.1 ≠ 0) from fun h => h hc)]
  by_cases h1 : c.2.1 = (0, 0)
  ·have e1 : (!((aeA c.2.1.1 0) && ((aeA c.2.1.2 0) && true))) = false := by rw [h1]; rfl
   rw [e1, acF]
   cases h2 : c.2.2.1 with
   | true => rw [adH, if_pos (.inr (.inl rfl))]
   | false =>
     rw [acF]
     by_cases h3 : c.2.2.2.1 = 0
     ·rw [aci (by rw [h3]; rfl), if_neg (by simp [h1, h3]), ake hI, abZ, af5 hg, show (((aca c.1).length : Int) + 1) = (((aca c.1).length + 1 : Nat) : Int) by push_cast; rfl]
      dsimp only
      rw [aDx hg.sys, abZ]
      by_cases h4 : anA (ack c.1) c.2.2.2.2 = 0
      ·rw [aci (by rw [h4]; rfl), if_pos h4]
      ·rw [acp (bne_iff_ne.2 h4), if_neg h4]
     ·rw [acp (bne_iff_ne.2 h3), if_pos (.inr (.inr h3))]
  ·have e1 : (!((aeA c.2.1.1 0) && ((aeA c.2.1.2 0) && true))) = true := by
    rw [Prod.ext_iff] at h1
    simp [aeA]
    dsimp only at h1
    omega
   rw [e1, adH, if_pos (.inl h1)]
 ·rw [acp (by simp [ine, hc]), if_pos hc]
theorem aKo {b : acs} {c : aON} (hb : In b) (hI : In c.1) (hv : I64 c.2.2.2.1) : ag3 b c = some (awL b c) := by
 unfold ag3 avD awL
 rw [afC hb.size hb.num, abZ]
 by_cases hc : acw b = 0
 ·rw [aci (by simp [ine, hc]), if_neg (show ¬ (acw b ≠ 0) from fun h => h hc)]
  by_cases h1 : c.2.1 = (0, 0)
  ·have e1 : ((aeA c.2.1.1 0) && ((aeA c.2.1.2 0) && true)) = true := by rw [h1]; rfl
   rw [e1, adH, if_pos h1, aHv hI, abZ]
   by_cases h2 : akg c = 0
   ·rw [aci (by rw [h2]; rfl), if_neg (by simp [h2]), part_ok hI.size hb.size, abZ]
   ·rw [acp (bne_iff_ne.2 h2), if_pos h2]
  ·have e1 : ((aeA c.2.1.1 0) && ((aeA c.2.1.2 0) && true)) = false := by
    rw [Prod.ext_iff] at h1
    simp [aeA]
    dsimp only at h1
    omega
   rw [e1, acF, if_neg h1, apF hI hv, abZ]
   by_cases h2 : agk c = 0
   ·rw [aci (by rw [h2]; rfl), if_neg (by simp [h2]), part_ok hI.size hb.size, abZ]
   ·rw [acp (bne_iff_ne.2 h2), if_pos h2]
 ·rw [acp (by simp [ine, hc]), if_pos hc]
end Go.Proofs.ZzM
end
noncomputable section
namespace Go.Proofs.ZzM
open Go Go.Am
def ay8 (b : acs) (l : List Int) : List (Int × Int) := l.map fun i => (aed b)[i.toNat]?.getD (0, 0)
theorem aNE {b : acs} (hg : adi b) (hn : ∀ g ∈ b.2.1, I64 g.2.2.2.2.1.1) {l : List Int} (hl : l.length ≤ 1000) (hi : ∀ i ∈ l, 0 ≤ i ∧ i.toNat < (ack b).length) : aj3 b l = some (ay8 b l) := by
 unfold aj3 arP
 rw [ake (hg.inn hn), abZ, af5 hg]
 refine ac9 l (fun i => ay8 b (l.take i)) _ rfl (fun i a hlt ha kn => ?_) (fun kn => ?_)
 ·try dsimp only
  unfold aig
  have hx := hi a (List.mem_of_getElem? ha)
  have hs : (aed b)[a.toNat]? = some ((aed b)[a.toNat]'(by rw [aET hg]; exact hx.2)) := List.getElem?_eq_getElem _
  generalize (aed b)[a.toNat]'(by rw [aET hg]; exact hx.2) = x at hs
  have hlen : (ay8 b (l.take i)).length ≤ 1000 := by unfold ay8; rw [List.length_map, List.length_take]; omega
  rw [acj hlt, ace ha, ah7 hx.1 hs, adG (show acK ((ay8 b (l.take i)).length + [x].length) = true from acl (show (ay8 b (l.take i)).length + 1 ≤ 4294967296 by omega)), acg hlt (by omega), take_succ ha]
  unfold ay8
  rw [List.map_append, List.map_singleton, hs]
  rfl
 ·try dsimp only
  unfold aig
  rw [acH, List.take_length]
theorem src_ok {b : acs} : ∀ s ∈ aed b, aT9 b s := by
 intro s hs
 unfold aed at hs
 rcases List.mem_append.1 hs with h | h
 ·have := aJN s h; exact .inl this
 ·have := aJ4 s h; exact .inr this
theorem aRy {b : acs} (hg : adi b) {l : List Int} (hi : ∀ i ∈ l, 0 ≤ i ∧ i.toNat < (ack b).length) : ∀ s ∈ ay8 b l, aT9 b s := by
 intro s hs
 obtain ⟨i, h1, rfl⟩ := List.mem_map.1 hs
 have hx := hi i h1
 have hsx : (aed b)[i.toNat]? = some ((aed b)[i.toNat]'(by rw [aET hg]; exact hx.2)) := List.getElem?_eq_getElem _
 rw [hsx]
 exact src_ok _ (List.getElem_mem _)
section
variable {L : List Lk} {N : Nat}
theorem awp (R : Nat → List Int) (good : Int → Bool) : ∀ (k : Nat) (u sum : Int) (out : List Int), (∀ i ∈ out, 0 ≤ i ∧ i.toNat < L.length) → (∀ i ∈ alr L R good k u sum out, 0 ≤ i ∧ i.toNat < L.length) ∧ (alr L R good k u sum out).length ≤ out.length + k
 | 0, u, sum, out, h => ⟨h, by simp [alr]⟩
 | k + 1, u, sum, out, h => by
   unfold alr
   cases hn : aCc L (R k) good u sum with
   | none =>
     have := awp R good k u sum out h
     exact ⟨this.1, by have := this.2; dsimp only; omega⟩
   | some i =>
     have hi : i < L.length := by
      unfold aCc at hn
      exact (List.findIdx?_eq_some_iff_getElem.1 hn).1
     have := awp R good k (L[i]?.getD (0, 0, 0)).2.1 (sum + (L[i]?.getD (0, 0, 0)).2.2) (out ++ [(i : Int)]) (fun j hj => by
      rcases List.mem_append.1 hj with h1 | h1
      ·exact h j h1
      ·simp at h1; subst h1; simp; exact hi)
     exact ⟨this.1, by have := this.2; simp at this; dsimp only; omega⟩
theorem aJ8 (N : Nat) (u v : Int) : (∀ i ∈ (aB4 L N u v).1, 0 ≤ i ∧ i.toNat < L.length) ∧ (aB4 L N u v).1.length ≤ N := by
 unfold aB4
 split
 ·simp
 ·cases h : (ai5 L N v N).findIdx? (fun x => gv x u == (afk L N u v).1) with
  | none => simp
  | some k =>
    have hk := (List.findIdx?_eq_some_iff_getElem.1 h).1
    rw [ag5] at hk
    have := awp (L := L) (exL L N v) (fun n => ieq n (afk L N u v).1) k u 0 [] (by simp)
    exact ⟨this.1, by have := this.2; simp at this; dsimp only; omega⟩
end
def axO (B : acs) (n : Int × Int) (upper : Bool) : List Int :=
 if upper then (aB4 (ack B) ((aca B).length + 1) 0 (aki B n.1 n.2)).1 else (aB4 (ack B) ((aca B).length + 1) (aki B n.1 n.2) 0).1
def aol (B : acs) (n : Int × Int) (upper : Bool) : acs := cutP B (ay8 B (axO B n upper)) [n]
def certR (B : acs) (n : Int × Int) (upper : Bool) : aON := (aol B n upper, n, upper, (if upper then (ivR B n).2 else (ivR B n).1), axO (aol B n upper) n upper)
def ajp (b : acs) (n : Int × Int) (upper : Bool) : aON × Int :=
 if (ady b [n]).2 ≠ 0 then (aQK, (ady b [n]).2) else
 if acw (aol (ady b [n]).1 n upper) ≠ 0 then (aQK, acw (aol (ady b [n]).1 n upper)) else
 if adV (ack (aol (ady b [n]).1 n upper)) ((aca (aol (ady b [n]).1 n upper)).length + 1) then (certR (ady b [n]).1 n upper, 0) else (aQK, 9)
theorem aOt {ρ : Type} : @alf ρ = @ac2 ρ := rfl
theorem aPx {ρ : Type} (K : Option ρ) : ach (fun (v23 : Int) kk25 => ale (0 : Int) v23 (fun u24 => kk25 u24) (fun _ => K)) (0 : Int) = K := by
 refine afS (fun x => x = 0) (fun _ => 0) (fun x hx => .inl fun kn => ?_) rfl
 rw [hx]
 rfl
theorem aMi {B : acs} (h : adi B) (hn : ∀ g ∈ B.2.1, I64 g.2.2.2.2.1.1) (n : Int × Int) (upper : Bool) : ahw (B, aDB B) n upper = some (axO B n upper) := by
 unfold ahw amN axO
 rw [aBW h hn, abZ, show (B, aDB B).2 = aDB B from rfl, ay6]
 cases upper with
 | true => rw [adH, aNy h.sys (ae8 B) (aeb B n), abZ]; rfl
 | false => rw [acF, aNy h.sys (aeb B n) (ae8 B), abZ]; rfl
theorem aOr {B : acs} (h : adi B) (n : Int × Int) (upper : Bool) : (∀ i ∈ axO B n upper, 0 ≤ i ∧ i.toNat < (ack B).length) ∧ (axO B n upper).length ≤ 60 := by
 have hN := h.sys.n60
 unfold axO
 split
 ·have := aJ8 (L := ack B) ((aca B).length + 1) 0 (aki B n.1 n.2)
  exact ⟨this.1, by have := this.2; omega⟩
 ·have := aJ8 (L := ack B) ((aca B).length + 1) (aki B n.1 n.2) 0
  exact ⟨this.1, by have := this.2; omega⟩
theorem aA6 (w : List Int) : ∀ (l : List Cmp) (i : Nat), ∀ c ∈ asg w i l, c ∈ l
 | [], i, c, h => by simp [asg] at h
 | a :: l, i, c, h => by
   simp only [asg] at h
   split at h
   ·rcases List.mem_cons.1 h with h | h
    ·rw [h]; simp
    ·exact List.mem_cons_of_mem _ (aA6 w l (i + 1) c h)
   ·exact List.mem_cons_of_mem _ (aA6 w l (i + 1) c h)
theorem aS7 {b : acs} (h : In b) (ss : List (Int × Int)) {looks : List (Int × Int)} (hl : looks.length ≤ 1000) : In (cutP b ss looks) := by
 obtain ⟨hs, hn⟩ := h
 have g1 := hs.gauges; have g2 := hs.uses; have g3 := hs.loans; have g4 := hs.compares
 unfold cutP
 refine ⟨⟨?_, ?_, ?_, ?_, hl, fun c hc => hs.piles c (aA6 _ _ _ c hc)⟩, fun g hg => hn g (List.mem_filter.1 hg).1⟩
 ·exact Nat.le_trans (List.length_filter_le _ _) g1
 ·exact Nat.le_trans (List.length_filter_le _ _) g2
 ·exact Nat.le_trans (List.length_filter_le _ _) g3
 ·exact Nat.le_trans (aA7 _ _ _) g4
theorem aOG {b : acs} (hI : In b) (n : Int × Int) (upper : Bool) : ank b n upper = some (ajp b n upper) := by
 unfold ank arX ajp
 rw [aOt]
 refine (amt hI (ns := [n]) (by simp) (fun e => some (aQK, e)) (fun e he => by rw [adG (by simp [ine, he])]; rfl) (fun z he => by rw [adG (by simp [ine, he])]; rfl) (fun _ _ _ => rfl)).trans ?_
 split
 ·rfl
 ·rename_i e
  have hr := (aip hI (by simpa using e)).1
  dsimp only
  generalize (ady b [n]).1 = B at hr ⊢
  have hci := aOr hr.good n upper
  have hpi : In (aol B n upper) := aS7 (hr.good.inn hr.num) _ (by simp)
  rw [apk, show ((((aca B).length : Int) + 1, ack B) : Sys) = aDB B from rfl, aMi hr.good hr.num, abZ, aNE hr.good hr.num (by omega) hci.1, abZ,
   cut_ok hr.good.size (by unfold ay8; rw [List.length_map]; omega) (by simp) (aRy hr.good hci.1), abZ, show cutP B (ay8 B (axO B n upper)) [n] = aol B n upper from rfl, afC hpi.size hpi.num, abZ]
  by_cases hc : acw (aol B n upper) = 0
  ·have hg := (acu _).1 hc
   rw [aci (by simp [ine, hc]), if_neg (show ¬ (acw (aol B n upper) ≠ 0) from fun h => h hc)]
   refine (aPx _).trans ?_
   rw [ake hpi, abZ, af5 hg, aci (by rfl)]
   dsimp only
   rw [show ((((aca (aol B n upper)).length : Int) + 1, ack (aol B n upper)) : Sys) = aDB (aol B n upper) from rfl, ay6 (aol B n upper), au5 hg.sys, abZ]
   cases ho : adV (ack (aol B n upper)) ((aca (aol B n upper)).length + 1) with
   | false => rw [if_neg (by simp)]; rfl
   | true =>
     rw [if_pos rfl, ← ay6 (aol B n upper), aci (by rfl), aEl hr, abZ, aMi hg hpi.num, abZ]
     cases upper with
     | true => rw [adH, auH hr, abZ]; rfl
     | false => rfl
  ·rw [acp (by simp [ine, hc]), if_pos hc, acp (by simp [ine, hc])]
   rfl
theorem aOo {L : List Lk} {N : Nat} (h : afH L N) (ho : adV L N = true) : apo ((N : Int), L) = some ([], 5) := by
 have hN := h.n60
 unfold apo aAl
 rw [agl h, abZ, aci (by rfl), ars h.links h.n1 (by omega), abZ, if_pos ho]
 rfl
theorem aKK {b : acs} (hg : adi b) (hn : ∀ g ∈ b.2.1, I64 g.2.2.2.2.1.1) (ho : adV (ack b) ((aca b).length + 1) = true) : auQ b = some (aQK, 5) := by
 unfold auQ az3
 rw [ake (hg.inn hn), abZ, af5 hg, aci (by rfl), show ((((aca b).length : Int) + 1, ack b), aed b, (0 : Int)).1 = aDB b from rfl, ay6, aOo hg.sys ho, abZ]
 rfl
end Go.Proofs.ZzM
end
noncomputable section
namespace Go.Proofs.ZzM
open Go Go.Am
section
variable {b : acs} {c d : Cmp} {s : Int × Int}
theorem aTv (h : Pred b c s) : -10000000000000000 ≤ s.1 ∧ s.1 ≤ s.2 ∧ s.2 ≤ 10000000000000000 := by
 have q := h.good2.cmp (apO (c := ab6 c))
 obtain ⟨_, _, b1, b2, b3⟩ := awS (b := b) h.good.film (c := ab6 c) ⟨q.nums, q.r1, q.r2⟩
 have e1 : aLB b c = aBK (ads b (ab6 c)).1 + (af1 b (ab6 c)).1 - (ab6 c).2.2.2.2.2.1 := rfl
 have e2 : asi b c = (ads b (ab6 c)).2.1 / (ads b (ab6 c)).2.2 + (af1 b (ab6 c)).2 + (ab6 c).2.2.2.2.2.1 := rfl
 have o := h.order
 have n := h.ends
 have bd := h.bd
 omega
end
end Go.Proofs.ZzM
end
noncomputable section
namespace Go.Proofs.ZzM
open Go Go.Am
def ae1 (e : End) : List Int := [e.1 - e.2.1, e.2.2 - e.1, Int.tdiv (e.2.2 - e.2.1) 2, Int.tdiv (e.2.2 - e.2.1) 2 - 1, Int.tdiv (e.2.2 - e.2.1) 2 + 1]
def alJ (e : End) (n : Int) : List Int := [n - e.2.1, e.2.2 - n]
def atE (e : End) (d : Int) : Int := min e.1 (min (e.2.1 + d) (e.2.2 - d))
def aza (w : awJ) (d : Int) : Int × Int := (-(atE w.2.2 d), atE w.2.1 d)
def aOc (r : Int × Int) (n : Int) : List Int := [n - 2, n - 1, n, n + 1, n + 2].filter fun d => decide (r.1 < d) && decide (d < r.2)
def aCd (r : Int × Int) (l : List Int) : List Int := [r.1, r.2] ++ l.flatMap (aOc r)
def aMh (w : awJ) (l : List Int) : Int := l.foldl (fun m d => max m ((aza w d).2 - (aza w d).1)) (-1)
def aOR (w : awJ) : Int := aMh w (aCd w.1 (ae1 w.2.1 ++ ae1 w.2.2))
def Sm (n : Int) : Prop := -100000000000000000 ≤ n ∧ n ≤ 100000000000000000
structure aHt (e : End) : Prop where
 s : Sm e.1
 u : Sm e.2.1
 d : Sm e.2.2
structure aHq (w : awJ) : Prop where
 lo : Sm w.1.1
 hi : Sm w.1.2
 high : aHt w.2.1
 low : aHt w.2.2
theorem aHJ (n : Int) : -1 ≤ n - 2 * Int.tdiv n 2 ∧ n - 2 * Int.tdiv n 2 ≤ 1 := by
 have h1 := Int.tmod_add_mul_tdiv n 2
 have h2 := Int.tmod_two_eq n
 omega
theorem ayA {e : End} (h : aHt e) : afz e = some (ae1 e) := by
 obtain ⟨⟨a1, a2⟩, ⟨b1, b2⟩, c1, c2⟩ := h
 have h2 := aHJ (e.2.2 - e.2.1)
 unfold afz amF
 rw [acm (by omega) (by omega), acm (by omega) (by omega), acm (by omega) (by omega), acm (by omega) (by omega), acm (by omega) (by omega), acm (by omega) (by omega)]
 rfl
theorem ayL {e : End} (h : aHt e) {n : Int} (hn : -1000000000000000000 ≤ n ∧ n ≤ 1000000000000000000) : afA e n = some (alJ e n) := by
 obtain ⟨⟨a1, a2⟩, ⟨b1, b2⟩, c1, c2⟩ := h
 unfold afA amG
 rw [acm (by omega) (by omega), acm (by omega) (by omega)]
 rfl
theorem aTg {e : End} (h : aHt e) {d : Int} (hd : Sm d) : amg e d = some (atE e d) := by
 obtain ⟨⟨a1, a2⟩, ⟨b1, b2⟩, c1, c2⟩ := h
 obtain ⟨d1, d2⟩ := hd
 unfold amg avB
 rw [acm (by omega) (by omega), acm (by omega) (by omega), aBd, aBd]
 unfold atE
 congr 1
 omega
theorem aQ8 {e : End} (h : aHt e) {d : Int} (hd : Sm d) : -200000000000000000 ≤ atE e d ∧ atE e d ≤ 100000000000000000 := by
 obtain ⟨⟨a1, a2⟩, ⟨b1, b2⟩, c1, c2⟩ := h
 obtain ⟨d1, d2⟩ := hd
 unfold atE
 omega
theorem aO5 {w : awJ} (h : aHq w) {d : Int} (hd : Sm d) : adW w d = some (aza w d) := by
 unfold adW ak6
 have b1 := aQ8 h.low hd
 rw [aTg h.low hd, abZ, acm (by omega) (by omega), aTg h.high hd, abZ]
 unfold aza
 rw [Int.zero_sub]
theorem aSb (r : Int × Int) (n : Int) : (aOc r n).length ≤ 5 := List.length_filter_le _ _
theorem aBm (r : Int × Int) : ∀ l : List Int, (l.flatMap (aOc r)).length ≤ l.length * 5
 | [] => by simp
 | n :: l => by
   have h1 := aSb r n
   have h2 := aBm r l
   rw [List.flatMap_cons, List.length_append, List.length_cons]
   omega
theorem aTH {ρ : Type} (r : Int × Int) {n : Int} (hn : -4000000000000000000 ≤ n ∧ n ≤ 4000000000000000000) {out : List Int} (ho : out.length ≤ 1000) (K : List Int → Option ρ) :
 ach (fun (v9 : (Val (.pair tI (.slice tI)))) kk12 => afg n r.1 r.2 v9.1 v9.2 (fun u10 u11 => kk12 (u10, u11)) K) (n - 2, out) = K (out ++ aOc r n) := by
 let five : List Int := [n - 2, n - 1, n, n + 1, n + 2]
 have hg : ∀ (i : Nat), i < 5 → five[i]? = some (n - 2 + i) := by
  intro i hi
  have : i = 0 ∨ i = 1 ∨ i = 2 ∨ i = 3 ∨ i = 4 := by omega
  rcases this with rfl | rfl | rfl | rfl | rfl <;> simp only [five, List.getElem?_cons_zero, List.getElem?_cons_succ] <;> congr 1 <;> omega
 refine afS (fun v => ∃ i : Nat, i ≤ 5 ∧ v = (n - 2 + (i : Int), out ++ (five.take i).filter fun d => decide (r.1 < d) && decide (d < r.2))) (fun v => (n + 3 - v.1).toNat) ?_ ⟨0, by omega, by simp⟩
 rintro v ⟨i, hi, rfl⟩
 rcases Nat.lt_or_ge i 5 with h5 | h5
 ·refine .inr ⟨(n - 2 + ((i + 1 : Nat) : Int), out ++ (five.take (i + 1)).filter fun d => decide (r.1 < d) && decide (d < r.2)), ⟨i + 1, h5, rfl⟩, by dsimp only; omega, fun kn => ?_⟩
  have hl : ((five.take i).filter fun d => decide (r.1 < d) && decide (d < r.2)).length ≤ 5 := aj1 _ five i
  dsimp only
  unfold afg
  rw [acm (by omega) (by omega), acp (decide_eq_true (by omega)), take_succ (hg i h5), List.filter_append]
  have e0 : n - 2 + (i : Int) + 1 = n - 2 + ((i + 1 : Nat) : Int) := by push_cast; omega
  by_cases h1 : r.1 < n - 2 + (i : Int)
  ·rw [acp (show igt (n - 2 + (i : Int)) r.1 = true from decide_eq_true h1)]
   by_cases h2 : n - 2 + (i : Int) < r.2
   ·rw [acp (show ilt (n - 2 + (i : Int)) r.2 = true from decide_eq_true h2), adG (acl (by rw [List.length_append]; simp only [List.length_singleton]; omega)), acm (by omega) (by omega), e0]
    simp [h1, h2]
   ·rw [aci (show ilt (n - 2 + (i : Int)) r.2 = false from decide_eq_false h2), acm (by omega) (by omega), e0]
    simp [h1, h2]
  ·rw [aci (show igt (n - 2 + (i : Int)) r.1 = false from decide_eq_false h1), acm (by omega) (by omega), e0]
   simp [h1]
 ·refine .inl fun kn => ?_
  obtain rfl : i = 5 := by omega
  dsimp only
  unfold afg
  rw [acm (by omega) (by omega), aci (decide_eq_false (by omega))]
  rfl
theorem aPG (w : awJ) {l : List Int} (hl : l.length ≤ 100) (hn : ∀ n ∈ l, -2000000000000000000 ≤ n ∧ n ≤ 2000000000000000000) : agB w l = some (aCd w.1 l) := by
 unfold agB ak7
 refine ac9 l (fun i => [w.1.1, w.1.2] ++ (l.take i).flatMap (aOc w.1)) _ rfl (fun i n hi ha kn => ?_) (fun kn => ?_)
 ·try dsimp only
  unfold aga
  have hb := hn n (List.mem_of_getElem? ha)
  have h5 := aBm w.1 (l.take i)
  have ht : (l.take i).length ≤ 100 := by rw [List.length_take]; omega
  rw [acj hi, ace ha, acm (by omega) (by omega)]
  refine (aTH w.1 (by omega) (by rw [List.length_append]; simp only [List.length_cons, List.length_nil]; omega) _).trans ?_
  rw [acg hi (by omega), take_succ ha, List.flatMap_append, List.append_assoc]
  simp
 ·try dsimp only
  unfold aga
  rw [acH, List.take_length]
  rfl
theorem aRT {r : Int × Int} {l : List Int} {d : Int} : d ∈ aCd r l ↔ d = r.1 ∨ d = r.2 ∨ (r.1 < d ∧ d < r.2 ∧ ∃ n ∈ l, n - 2 ≤ d ∧ d ≤ n + 2) := by
 unfold aCd aOc
 simp only [List.mem_append, List.mem_cons, List.not_mem_nil, or_false, List.mem_flatMap, List.mem_filter, Bool.and_eq_true, decide_eq_true_eq]
 constructor
 ·rintro ((h | h) | ⟨n, hn, h, h1, h2⟩)
  ·exact .inl h
  ·exact .inr (.inl h)
  ·exact .inr (.inr ⟨h1, h2, n, hn, by omega, by omega⟩)
 ·rintro (h | h | ⟨h1, h2, n, hn, h3, h4⟩)
  ·exact .inl (.inl h)
  ·exact .inl (.inr h)
  ·exact .inr ⟨n, hn, by omega, h1, h2⟩
theorem aMQ (r : Int × Int) {l : List Int} (hl : l.length ≤ 100) : (aCd r l).length ≤ 600 := by
 have := aBm r l
 unfold aCd
 rw [List.length_append]
 simp only [List.length_cons, List.length_nil]
 omega
theorem aPF {w : awJ} (h : aHq w) {l : List Int} : ∀ d ∈ aCd w.1 l, Sm d := by
 intro d hd
 obtain ⟨a1, a2⟩ := h.lo
 obtain ⟨b1, b2⟩ := h.hi
 rcases aRT.1 hd with h | h | ⟨h1, h2, _⟩
 ·rw [h]; exact ⟨a1, a2⟩
 ·rw [h]; exact ⟨b1, b2⟩
 ·exact ⟨by omega, by omega⟩
theorem ayB {e : End} (h : aHt e) : ∀ n ∈ ae1 e, -1000000000000000000 ≤ n ∧ n ≤ 1000000000000000000 := by
 obtain ⟨⟨a1, a2⟩, ⟨b1, b2⟩, c1, c2⟩ := h
 have h2 := aHJ (e.2.2 - e.2.1)
 intro n hn
 unfold ae1 at hn
 simp only [List.mem_cons, List.not_mem_nil, or_false] at hn
 omega
theorem aRs {w : awJ} (h : aHq w) : ahu w = some (aOR w) := by
 unfold ahu ajK
 have hl : ([ae1 w.2.1, ae1 w.2.2] : List (List Int)).flatten = ae1 w.2.1 ++ ae1 w.2.2 := by simp
 have hll : (ae1 w.2.1 ++ ae1 w.2.2).length = 10 := rfl
 rw [ayA h.high, abZ, ayA h.low, abZ, ajC (by simp) (by rw [hl, hll]; omega), abZ, hl, aPG w (by rw [hll]; omega) (fun n hn => by
  rcases List.mem_append.1 hn with hn | hn
  ·have := ayB h.high n hn; omega
  ·have := ayB h.low n hn; omega), abZ]
 have hnl := aMQ w.1 (l := ae1 w.2.1 ++ ae1 w.2.2) (by rw [hll]; omega)
 have hsm := aPF h (l := ae1 w.2.1 ++ ae1 w.2.2)
 unfold aOR
 generalize aCd w.1 (ae1 w.2.1 ++ ae1 w.2.2) = l at hnl hsm ⊢
 refine afS (fun v => ∃ i : Nat, i ≤ l.length ∧ v = (aMh w (l.take i), (i : Int))) (fun v => l.length - v.2.toNat) ?_ ⟨0, by omega, rfl⟩
 rintro v ⟨i, hi, rfl⟩
 rcases Nat.lt_or_ge i l.length with h2 | h2
 ·have ha : l[i]? = some l[i] := List.getElem?_eq_getElem h2
  have hs := hsm l[i] (List.getElem_mem _)
  generalize l[i] = d at ha hs
  refine .inr ⟨(aMh w (l.take (i + 1)), ((i + 1 : Nat) : Int)), ⟨i + 1, h2, rfl⟩, by dsimp only; omega, fun kn => ?_⟩
  dsimp only
  unfold afQ
  have b1 := aQ8 h.low hs
  have b2 := aQ8 h.high hs
  rw [acj h2, ace ha, show adW ((w.1.1, w.1.2), (w.2.1.1, w.2.1.2.1, w.2.1.2.2), w.2.2.1, w.2.2.2.1, w.2.2.2.2) d = adW w d from rfl, aO5 h hs, abZ, acm (by unfold aza; dsimp only; omega) (by unfold aza; dsimp only; omega), acg h2 (by omega), aLG, take_succ ha]
  unfold aMh
  rw [List.foldl_append]
  rfl
 ·refine .inl fun kn => ?_
  obtain rfl : i = l.length := by omega
  dsimp only
  unfold afQ
  rw [acH, List.take_length]
theorem aMg {b : acs} {n : Int × Int} {c : Cmp} (hp : (adx b c).2 = 0) : aHq (aHA b n c) := by
 obtain ⟨g1, g2⟩ := ajo hp
 have ho := awU hp
 have hb := aTv (aH1 hp)
 have hx := arh g2
 have hy := arf g2
 have b6 := aPa g1 g2 ho
 have key : ∀ {s t : Int}, 0 ≤ s ∧ s < ((aca (acx b (ab6 c))).length + 1 : Nat) → 0 ≤ t ∧ t < ((aca (acx b (ab6 c))).length + 1 : Nat) → aHt (endP b (ab6 c) s t) := by
  intro s t hs ht
  have b1 := alq g1 g2 ho hs ht
  have b2 := alq g1 g2 ho hs hy
  have b3 := alq g1 g2 ho hx ht
  have b4 := alq g1 g2 ho hs hx
  have b5 := alq g1 g2 ho hy ht
  unfold endP
  exact ⟨⟨by dsimp only; omega, by dsimp only; omega⟩, ⟨by dsimp only; omega, by dsimp only; omega⟩, by dsimp only; omega, by dsimp only; omega⟩
 exact ⟨⟨by show _ ≤ (adx b c).1.1; omega, by show (adx b c).1.1 ≤ _; omega⟩, ⟨by show _ ≤ (adx b c).1.2; omega, by show (adx b c).1.2 ≤ _; omega⟩, key (ae8 _) (aeb _ n), key (aeb _ n) (ae8 _)⟩
def aNt (b : acs) (n : Int × Int) (c : Cmp) : Int × Int :=
 if (ady b [n]).2 ≠ 0 then (0, (ady b [n]).2) else if (adx (ady b [n]).1 c).2 ≠ 0 then (0, (adx (ady b [n]).1 c).2) else (aOR (aHA (ady b [n]).1 n c), 0)
theorem aRt {ρ : Type} : @aoI ρ = @ac2 ρ := rfl
theorem aSN {b : acs} (hI : In b) (n : Int × Int) {c : Cmp} (hA : c.2.2.1.length ≤ 1000) (hB : c.2.2.2.1.length ≤ 1000) : apm b n c = some (aNt b n c) := by
 unfold apm azX aNt
 rw [aRt]
 refine (amt hI (ns := [n]) (by simp) (fun e => some ((0 : Int), e)) (fun e he => by rw [adG (by simp [ine, he])]) (fun z he => by rw [adG (by simp [ine, he])]) (fun _ _ _ => rfl)).trans ?_
 split
 ·rfl
 ·rename_i e
  have hr := (aip hI (by simpa using e)).1
  dsimp only
  rw [apk, show ((((aca (ady b [n]).1).length : Int) + 1, ack (ady b [n]).1) : Sys) = aDB (ady b [n]).1 from rfl, aJD hr n hA hB, abZ]
  unfold aGW
  by_cases hp : (adx (ady b [n]).1 c).2 = 0
  ·rw [if_neg (by simp [hp]), if_neg (by simp [hp]), aci (by rfl), aRs (aMg hp), abZ]
  ·rw [if_pos hp, if_pos hp, acp (bne_iff_ne.2 hp)]
def aOJ (x : Int) : Int := max (-288230376151711744) (min x 288230376151711744)
def art (w : awJ) (l : Int × Int) : List Int := (ae1 w.2.1 ++ ae1 w.2.2) ++ (alJ w.2.1 l.1 ++ alJ w.2.2 (-l.1)) ++ (alJ w.2.1 l.2 ++ alJ w.2.2 (-l.2))
def aMu (w : awJ) (l : Int × Int) : Bool := (aCd w.1 (art w l)).all fun d => akk (aza w d) l != 3
def ay0 (b : acs) (n l : Int × Int) (c : Cmp) : Bool × Int :=
 if (ady b [n]).2 ≠ 0 then (false, (ady b [n]).2) else if l.2 < l.1 then (false, 1) else if (adx (ady b [n]).1 c).2 ≠ 0 then (false, (adx (ady b [n]).1 c).2) else (aMu (aHA (ady b [n]).1 n c) (aOJ l.1, aOJ l.2), 0)
theorem aNF {ρ : Type} : @alb ρ = @ac2 ρ := rfl
theorem aS6 (x : Int) : ahv x = some (aOJ x) := by
 unfold ahv amJ aOJ
 rw [aBd, aLG]
theorem ayM {e : End} (h : aHt e) {n : Int} (hn : -300000000000000000 ≤ n ∧ n ≤ 300000000000000000) : ∀ m ∈ alJ e n, -1000000000000000000 ≤ m ∧ m ≤ 1000000000000000000 := by
 obtain ⟨⟨a1, a2⟩, ⟨b1, b2⟩, c1, c2⟩ := h
 intro m hm
 unfold alJ at hm
 simp only [List.mem_cons, List.not_mem_nil, or_false] at hm
 omega
theorem aOC {b : acs} (hI : In b) (n l : Int × Int) {c : Cmp} (hA : c.2.2.1.length ≤ 1000) (hB : c.2.2.2.1.length ≤ 1000) : aj6 b n l c = some (ay0 b n l c) := by
 unfold aj6 arV ay0
 rw [aNF]
 refine (amt hI (ns := [n]) (by simp) (fun e => some (false, e)) (fun e he => by rw [acp (by simp [ine, he])]) (fun z he => by rw [acp (by simp [ine, he])]) (fun _ _ _ => rfl)).trans ?_
 split
 ·rfl
 ·rename_i e
  have hr := (aip hI (by simpa using e)).1
  dsimp only
  by_cases hl : l.2 < l.1
  ·rw [acp (by simp [igt, hl]), if_pos hl]
  ·rw [aci (by simp [igt]; omega), if_neg hl, apk, show ((((aca (ady b [n]).1).length : Int) + 1, ack (ady b [n]).1) : Sys) = aDB (ady b [n]).1 from rfl, aJD hr n hA hB, abZ]
   unfold aGW
   by_cases hp : (adx (ady b [n]).1 c).2 = 0
   ·rw [if_neg (by simp [hp]), if_neg (by simp [hp]), aci (by rfl)]
    have hw := aMg (n := n) hp
    dsimp only
    generalize aHA (ady b [n]).1 n c = w at hw ⊢
    have f1 : -300000000000000000 ≤ aOJ l.1 ∧ aOJ l.1 ≤ 300000000000000000 := by unfold aOJ; omega
    have f2 : -300000000000000000 ≤ aOJ l.2 ∧ aOJ l.2 ≤ 300000000000000000 := by unfold aOJ; omega
    have q1 : ([ae1 w.2.1, ae1 w.2.2] : List (List Int)).flatten = ae1 w.2.1 ++ ae1 w.2.2 := by simp
    have q2 : ∀ x y z : List Int, ([x, y, z] : List (List Int)).flatten = x ++ (y ++ z) := by intro x y z; simp
    rw [ayA hw.high, abZ, ayA hw.low, abZ, ajC (by simp) (by rw [q1]; simp [ae1]), abZ, q1, aS6, abZ, aS6, abZ]
    generalize aOJ l.1 = l1 at f1 ⊢
    generalize aOJ l.2 = l2 at f2 ⊢
    rw [ayL hw.high (by omega), abZ, acm (by omega) (by omega), Int.zero_sub, ayL hw.low (by omega), abZ, ajC (by simp) (by rw [q2]; simp [ae1, alJ]), abZ, q2,
     ayL hw.high (by omega), abZ, acm (by omega) (by omega), Int.zero_sub, ayL hw.low (by omega), abZ, ajC (by simp) (by rw [q2]; simp [ae1, alJ]), abZ, q2]
    have hll : (art w (l1, l2)).length = 18 := rfl
    have qs : ae1 w.2.1 ++ ae1 w.2.2 ++ (alJ w.2.1 l1 ++ alJ w.2.2 (-l1)) ++ (alJ w.2.1 l2 ++ alJ w.2.2 (-l2)) = art w (l1, l2) := rfl
    rw [qs, aPG w (by rw [hll]; omega) (fun m hm => by
     unfold art at hm
     simp only [List.mem_append] at hm
     rcases hm with ((hm | hm) | (hm | hm)) | (hm | hm)
     ·have := ayB hw.high m hm; omega
     ·have := ayB hw.low m hm; omega
     ·have := ayM hw.high f1 m hm; omega
     ·have := ayM hw.low (n := -l1) (by omega) m hm; omega
     ·have := ayM hw.high f2 m hm; omega
     ·have := ayM hw.low (n := -l2) (by omega) m hm; omega), abZ]
    have hnl := aMQ w.1 (l := art w (l1, l2)) (by rw [hll]; omega)
    have hsm := aPF hw (l := art w (l1, l2))
    unfold aMu
    generalize aCd w.1 (art w (l1, l2)) = ds at hnl hsm ⊢
    refine (afy ds (fun d => akk (aza w d) (l1, l2) == 3) (fun z30 => some ((!(ige z30 (0 : Int))), (0 : Int))) (some (false, 0)) (some (true, 0)) (fun j => by rw [show ige (j : Int) 0 = true from decide_eq_true (by omega)]; rfl) (fun i d hi hd kn => ?_) (fun kn => ?_)).trans ?_
    ·try dsimp only
     unfold aih
     rw [acj hi, ace hd, show adW ((w.1.1, w.1.2), (w.2.1.1, w.2.1.2.1, w.2.1.2.2), w.2.2.1, w.2.2.2.1, w.2.2.2.2) d = adW w d from rfl, aO5 hw (hsm d (List.mem_of_getElem? hd)), abZ, aDy, abZ, acg hi (by omega), adA]
    ·try dsimp only
     unfold aih
     rw [acH]
    ·rw [show (fun d => akk (aza w d) (l1, l2) != 3) = (fun d => !(akk (aza w d) (l1, l2) == 3)) from rfl, ← List.not_any_eq_all_not]
     cases ds.any fun d => akk (aza w d) (l1, l2) == 3 <;> rfl
   ·rw [if_pos hp, if_pos hp, acp (bne_iff_ne.2 hp)]
end Go.Proofs.ZzM
end
noncomputable section
namespace Go.Proofs.ZzM
open Go Go.Am
theorem aOs {b : acs} (h : In b) (n : Int × Int) (upper : Bool) : In (ajp b n upper).1.1 := by
 have h0 : In akj := ⟨⟨by simp [akj], by simp [akj], by simp [akj], by simp [akj], by simp [akj], by simp [akj]⟩, by simp [akj]⟩
 unfold ajp
 by_cases e : (ady b [n]).2 = 0
 ·rw [if_neg (by simp [e])]
  have hr := (aip h e).1
  split
  ·exact h0
  ·split
   ·exact aS7 (hr.good.inn hr.num) _ (by simp)
   ·exact h0
 ·rw [if_pos e]; exact h0
theorem y1 : apE exB (2, 10) = ((984, 1011), 0) := by decide +kernel
theorem y2 : apE exB (1, 30) = ((964, 1005), 0) := by decide +kernel
theorem y3 : aHw exB (1, 10) (2, 10) = ((-6, 11), 0) := by decide +kernel
theorem y4 : aUc exB 10 [1, 2] = ((1979, 2018), 0) := by decide +kernel
theorem y5 : aRi exB (2, 0) (990, 1010) = (3, 0) := by decide +kernel
theorem y6 : (ajp exB (2, 10) true).2 = 0 ∧ (ajp exB (2, 10) true).1.2.2.2.1 = 1011 := by decide +kernel
theorem y7 : aNt exB (2, 10) exC = (10, 0) := by decide +kernel
theorem y8 : ay0 exB (2, 10) (900, 1100) exC = (true, 0) := by decide +kernel
theorem y9 : awL exB (ajp exB (2, 10) true).1 = (true, 0) := by decide +kernel
theorem y10 : acw exB = 0 ∧ adV (ack exB) ((aca exB).length + 1) = true := by decide +kernel
theorem y11 : agk (ajp exB (2, 10) true).1 = 0 := by decide +kernel
theorem aNH : acC = some true := by
 unfold acC arJ apl aot
 have hc := aOs apu (2, 10) true
 have hv : I64 (ajp exB (2, 10) true).1.2.2.2.1 := by rw [y6.2]; unfold I64; omega
 rw [abZ]
 rw [show ((((0 : Int), (2 : Int)), [((1 : Int), (0 : Int), (1000 : Int), ((-5 : Int), (5 : Int)), ((1 : Int), (10 : Int)), (1 : Int)), ((2 : Int), (0 : Int), (1000 : Int), ((-50 : Int), (50 : Int)), ((1 : Int), (4 : Int)), (0 : Int))], [((1 : Int), (10 : Int))], [((1 : Int), ((20 : Int), (29 : Int)), (3 : Int))], [((7 : Int), (10 : Int), [(1 : Int)], [(2 : Int)], (-20 : Int), (1 : Int), (100 : Int), (200 : Int))], ([] : List (Int × Int))) : acs) = exB from rfl]
 rw [asu apu, abZ, asu apu, abZ, aOH apu, abZ, aUb apu _ (by decide), abZ, aSR apu, abZ, aOG apu, abZ, y1, y2, y3, y4, y5, y6.1, y6.2]
 rw [show apm exB ((2 : Int), (10 : Int)) ((8 : Int), (10 : Int), [(1 : Int)], [(2 : Int)], (0 : Int), (0 : Int), (0 : Int), (0 : Int)) = some (aNt exB (2, 10) exC) from aSN apu _ (c := exC) (by decide) (by decide),
  show aj6 exB ((2 : Int), (10 : Int)) ((900 : Int), (1100 : Int)) ((8 : Int), (10 : Int), [(1 : Int)], [(2 : Int)], (0 : Int), (0 : Int), (0 : Int), (0 : Int)) = some (ay0 exB (2, 10) (900, 1100) exC) from aOC apu _ _ (c := exC) (by decide) (by decide),
  aKo apu hc hv, aKK ((acu _).1 y10.1) apu.num y10.2, apF hc hv, y7, y8, y9, y11]
 rfl
end Go.Proofs.ZzM
end
noncomputable section
namespace Go.Proofs.ZzM
open Go Go.Am
def arm (b : acs) (n : Int × Int) : Prop := ∃ g ∈ b.2.1, g.1 = n.1 ∧ n.2 ∈ acv b g
theorem ayR {b : acs} (h : adi b) {n : Int × Int} : aki b n.1 n.2 ≠ 0 ↔ arm b n := by
 unfold aki
 constructor
 ·intro hne
  cases hx : agq (aca b) n.1 n.2 with
  | none => rw [hx] at hne; simp at hne
  | some j =>
    have hm := List.mem_of_getElem? (agX hx).2
    unfold aca at hm
    obtain ⟨g, hg, hd⟩ := List.mem_flatMap.1 hm
    obtain ⟨d, hd, e⟩ := List.mem_map.1 hd
    simp only [Prod.mk.injEq] at e
    obtain ⟨e1, rfl⟩ := e
    exact ⟨g, hg, e1, hd⟩
 ·rintro ⟨g, hg, e, hd⟩
  obtain ⟨i, hi, rfl⟩ := List.mem_iff_getElem.1 hg
  obtain ⟨k, hk, e2⟩ := List.mem_iff_getElem.1 hd
  rw [← e, aFh h (List.getElem?_eq_getElem hi) (by rw [List.getElem?_eq_getElem hk, e2])]
  dsimp only
  omega
theorem auF (b : acs) (x d : Int) : aki b x d = aet b x d := rfl
section
variable {B : acs} (h : aSP B)
include h
theorem aMO {p : Int → Int} {f : Int → Int → Int} (hm : ∀ g ∈ B.2.1, ∀ d ∈ acv B g, f g.1 d = p (aet B g.1 d)) {n : Int × Int} (hn : arm B n) : p (aki B n.1 n.2) = f n.1 n.2 := by
 obtain ⟨g, hg, e, hd⟩ := hn
 rw [auF, ← e, hm g hg n.2 hd]
theorem iv_at {n : Int × Int} (hn : arm B n) {t : Int} (h1 : (ivR B n).1 ≤ t) (h2 : t ≤ (ivR B n).2) : ∃ f z, aMc B f z ∧ f n.1 n.2 - z = t := by
 obtain ⟨p, hp, e⟩ := aQw h.good.sys h.good.tied h.op (aeb B n) (ae8 B) (t := t) h1 h2
 obtain ⟨f, hf, hm⟩ := aE5 h.good hp
 exact ⟨f, p 0, hf, by rw [← aMO h hm hn]; exact e⟩
theorem aR3 (n : Int × Int) : (ivR B n).1 ≤ (ivR B n).2 := aBy h.good.sys h.good.tied h.op (aeb B n) (ae8 B)
end
def aEJ (c : Cmp) : Bool := decide (c.2.2.1.length ≤ 10) && decide (c.2.2.2.1.length ≤ 10)
theorem aQZ (c : Cmp) : ap5 c = some (aEJ c) := by
 unfold ap5 avs aEJ
 rw [acB, acB, adA]
 by_cases h : c.2.2.1.length ≤ 10
 ·rw [if_pos (by simp [ile]; omega)]
  simp [ile, h]
  omega
 ·rw [if_neg (by simp [ile]; omega)]
  simp [h]
def fewP (b : acs) : Bool :=
 !((b.2.2.2.2.1.take 50).any fun c => !aEJ c) && (decide (b.2.1.length ≤ 14) && (decide (b.2.2.1.length ≤ 45) && (decide (b.2.2.2.1.length ≤ 14) && (decide (b.2.2.2.2.1.length ≤ 42) && decide (b.2.2.2.2.2.length ≤ 12)))))
theorem aS5 (b : acs) : auL b = some (fewP b) := by
 unfold auL aFs
 have last : (ifb (ile (aco b.2.1) (14 : Int)) (ifb (ile (aco b.2.2.1) (45 : Int)) (ifb (ile (aco b.2.2.2.1) (14 : Int)) (ifb (ile (aco b.2.2.2.2.1) (42 : Int)) (some (ile (aco b.2.2.2.2.2) (12 : Int))) (some false)) (some false)) (some false)) (some false)) =
  some (decide (b.2.1.length ≤ 14) && (decide (b.2.2.1.length ≤ 45) && (decide (b.2.2.2.1.length ≤ 14) && (decide (b.2.2.2.2.1.length ≤ 42) && decide (b.2.2.2.2.2.length ≤ 12))))) := by
  have e : ∀ (n m : Nat), ile (n : Int) (m : Int) = decide (n ≤ m) := fun n m => by simp [ile]
  rw [acB, acB, acB, acB, acB, show (14 : Int) = ((14 : Nat) : Int) from rfl, show (45 : Int) = ((45 : Nat) : Int) from rfl, show (42 : Int) = ((42 : Nat) : Int) from rfl, show (12 : Int) = ((12 : Nat) : Int) from rfl, e, e, e, e, e]
  generalize decide (b.2.1.length ≤ 14) = x1
  generalize decide (b.2.2.1.length ≤ 45) = x2
  generalize decide (b.2.2.2.1.length ≤ 14) = x3
  generalize decide (b.2.2.2.2.1.length ≤ 42) = x4
  cases x1 <;> cases x2 <;> cases x3 <;> cases x4 <;> rfl
 rw [last]
 refine Eq.trans (afy (b.2.2.2.2.1.take 50) (fun c => !aEJ c) (fun _ => some false) (some false) (some (decide (b.2.1.length ≤ 14) && (decide (b.2.2.1.length ≤ 45) && (decide (b.2.2.2.1.length ≤ 14) && (decide (b.2.2.2.2.1.length ≤ 42) && decide (b.2.2.2.2.2.length ≤ 12)))))) (fun _ => rfl) (fun i c hi hc kn => ?_) (fun kn => ?_)) ?_
 ·try dsimp only
  unfold amx
  rw [List.length_take] at hi
  have hc' : b.2.2.2.2.1[i]? = some c := by rw [List.getElem?_take] at hc; split at hc <;> simp_all
  rw [acj (show i < b.2.2.2.2.1.length by omega), acp (decide_eq_true (by omega)), ace hc', aQZ, abZ, acm (by omega) (by omega), adA]
 ·try dsimp only
  unfold amx
  rw [List.length_take, adA]
  split
  ·rename_i h
   have h' : 50 < b.2.2.2.2.1.length := by rw [acB] at h; simp [ilt] at h; omega
   rw [aci (decide_eq_false (by omega))]
  ·rfl
 ·unfold fewP
  cases List.any (List.take 50 b.2.2.2.2.1) (fun c => !aEJ c) <;> rfl
theorem aM9 {b : acs} (h : fewP b = true) : ag7 b := by
 simp only [fewP, Bool.and_eq_true, Bool.not_eq_true', decide_eq_true_eq] at h
 obtain ⟨h0, h1, h2, h3, h4, h5⟩ := h
 refine ⟨by omega, by omega, by omega, by omega, by omega, fun c hc => ?_⟩
 rw [List.take_of_length_le (by omega)] at h0
 have := List.any_eq_false.1 h0 c hc
 simp [aEJ] at this
 omega
end Go.Proofs.ZzM
end
noncomputable section
namespace Go.Proofs.ZzM
open Go Go.Am
theorem aQl {b : acs} (h : adi b) {x : List Int} (hf : aQm b x = true) : adV (ack b) ((aca b).length + 1) = true := by
 have := h.sys.n60
 exact (afd h.sys.links (by omega)).2 ⟨_, aJV.1 (show aG4 (ack b) (0 :: x) = true from hf)⟩
end Go.Proofs.ZzM
end
noncomputable section
namespace Go.Proofs.ZzM
open Go Go.Am
section
variable {B : acs} (h : aSP B)
include h
end
def aMB (b : acs) (n : Int × Int) : Int := if (arn b n).2 ≠ 0 then -1 else (arn b n).1 - 1
theorem aMA {b : acs} (hI : In b) (n : Int × Int) : ag2 b n = some (aMB b n) := by
 unfold ag2 avp aMB
 rw [au3 hI, abZ]
 by_cases h : (arn b n).2 = 0
 ·rw [aci (by rw [h]; rfl), if_neg (by simp [h])]
  have hl := avo hI.size
  have hr := aeb b n
  have hb : 0 ≤ (arn b n).1 ∧ (arn b n).1 ≤ 3000000 := by
   unfold arn
   split
   ·simp
   ·split
    ·simp
    ·dsimp only; omega
  rw [acm (by omega) (by omega)]
 ·rw [acp (bne_iff_ne.2 h), if_pos h]
theorem azo {b : acs} (h : adi b) (n : Int × Int) : aMB b n = aki b n.1 n.2 - 1 := by
 unfold aMB
 rw [anz h]
 by_cases h0 : aki b n.1 n.2 = 0
 ·rw [if_pos h0, h0]; rfl
 ·rw [if_neg h0]; rfl
theorem aDS {b : acs} (hg : adi b) : ∀ {ns : List (Int × Int)}, (∀ n ∈ ns, arm b n) → agt b ns = (b, 0)
 | [], _ => rfl
 | n :: t, h => by
   have e : alA b n = (b, 0) := by unfold alA; rw [if_pos ((ayR hg).2 (h n (by simp)))]
   unfold agt
   rw [e, if_neg (by simp)]
   exact aDS hg fun m hm => h m (by simp [hm])
theorem aL9 {b : acs} (hg : adi b) {ns : List (Int × Int)} (h : ∀ n ∈ ns, arm b n) : ady b ns = if adV (ack b) ((aca b).length + 1) then (b, 0) else (akj, 9) := by
 unfold ady
 rw [if_neg (by simp [(acu b).2 hg]), aDS hg h, if_neg (by simp)]
end Go.Proofs.ZzM
end
noncomputable section
namespace Go.Proofs.ZzM
open Go Go.Am
theorem aR8 {x : List Int} {k : Int} (h1 : 1 ≤ k) : gv (0 :: x) k = gv x (k - 1) := by
 rw [aTN _ _ (by omega), if_neg (by omega)]
theorem aMY {ρ : Type} {x : List Int} {k : Int} (h1 : 1 ≤ k) (h2 : k ≤ x.length) (f : Int → Option ρ) : adu x (k - 1) f = f (gv (0 :: x) k) := by
 rw [aiX (by omega) (by omega), aR8 h1]
theorem aQk {B : acs} (hn : ∀ g ∈ B.2.1, I64 g.2.2.2.2.1.1) {x : List Int} (hx : ayx B x = (true, 0)) : aSP B :=
 ⟨(au4.1 hx).1, aQl (au4.1 hx).1 (au4.1 hx).2.2, hn⟩
end Go.Proofs.ZzM
end
noncomputable section
namespace Go.Proofs.ZzM
open Go Go.Am
theorem ajW (id f t : Int) : ∀ l : List ayv, acS id f t l = acS id f t (l.filter fun x => x.1 == id)
 | [] => rfl
 | x :: l => by
   have ih := ajW id f t l
   by_cases h : x.1 = id
   ·rw [List.filter_cons_of_pos (by simp [h])]
    simp only [acS, ih]
   ·rw [List.filter_cons_of_neg (by simp [h]), ← ih]
    simp only [acS, h, false_and, if_false, Int.zero_add]
theorem aGR {id f t : Int} {x y : List ayv} (h : x.Perm y) : acS id f t x = acS id f t y := by
 induction h with
 | nil => rfl
 | cons a _ ih => simp only [acS, ih]
 | swap a b l => simp only [acS]; omega
 | trans _ _ h1 h2 => rw [h1, h2]
theorem aA3 {b : acs} (h : adi b) (id : Int) : (b.2.2.2.1.filter fun x => x.1 == id).Nodup := by
 have hp : b.2.2.2.1.Pairwise fun x y => x ≠ y := by
  rw [List.pairwise_iff_getElem]
  intro i j hi hj hij e
  have hl := h.loans j _ (List.getElem?_eq_getElem hj)
  have hz := (ap0 h (List.getElem_mem hj)).1
  unfold aJx at hl
  split at hl
  ·omega
  split at hl
  ·omega
  split at hl
  ·rename_i h3
   simp only [bne_iff_ne, ne_eq] at h3
   exact h3 hl
  split at hl
  ·omega
  rename_i h4
  have := List.any_eq_false.1 (Bool.eq_false_iff.2 h4) b.2.2.2.1[i] (by
   rw [List.mem_iff_getElem]
   exact ⟨i, by rw [List.length_take]; omega, by rw [List.getElem_take]⟩)
  rw [e] at this
  simp at this
  omega
 exact (hp.filter _)
section
variable {s b : acs} (hs : adi s) (hb : adi b) (hp : aE6 s b = true)
include hs hb hp
theorem apM : (∀ c ∈ s.2.2.2.2.1, c ∈ b.2.2.2.2.1) ∧ s.1 = b.1 ∧ (∀ g ∈ s.2.1, g ∈ b.2.1) ∧ (∀ u ∈ s.2.2.1, u.1 ∈ aHz s → u ∈ b.2.2.1) ∧ (∀ u ∈ b.2.2.1, u.1 ∈ aHz s → u ∈ s.2.2.1) ∧ (∀ u ∈ s.2.2.2.1, u.1 ∈ aHz s → u ∈ b.2.2.2.1) ∧ (∀ u ∈ b.2.2.2.1, u.1 ∈ aHz s → u ∈ s.2.2.2.1) := by
 unfold aE6 ahz at hp
 simp only [Bool.and_eq_true, List.all_eq_true, Bool.or_eq_true, Bool.not_eq_true', decide_eq_true_eq, aFl, Bool.not_true, Bool.false_eq_true, false_or] at hp
 obtain ⟨h1, h2, h3, h4, h5, h6, h7⟩ := hp
 have q : ∀ {x : Int}, x ∈ aHz s → ¬ (aHz s).contains x = false := fun hx e => by simp [hx] at e
 exact ⟨h1, h2, h3, fun u hu hm => (h4 u hu).resolve_left (q hm), fun u hu hm => (h5 u hu).resolve_left (q hm), fun u hu hm => (h6 u hu).resolve_left (q hm), fun u hu hm => (h7 u hu).resolve_left (q hm)⟩
theorem aPk {g : acP} (hg : g ∈ s.2.1) (f t : Int) : agc s g f t = agc b g f t := by
 obtain ⟨_, _, h3, h4, h5, h6, h7⟩ := apM hs hb hp
 have hid : g.1 ∈ aHz s := List.mem_map.2 ⟨g, hg, rfl⟩
 unfold agc
 have e1 : acS g.1 f t s.2.2.2.1 = acS g.1 f t b.2.2.2.1 := by
  rw [ajW, ajW g.1 f t b.2.2.2.1]
  refine aGR ((List.perm_ext_iff_of_nodup (aA3 hs g.1) (aA3 hb g.1)).2 fun l => ?_)
  simp only [List.mem_filter, beq_iff_eq]
  exact ⟨fun ⟨a, e⟩ => ⟨h6 l a (by rw [e]; exact hid), e⟩, fun ⟨a, e⟩ => ⟨h7 l a (by rw [e]; exact hid), e⟩⟩
 have e2 : aHx (aeT s g.1 f t) = aHx (aeT b g.1 f t) := by
  refine aQ9 (aze _) (aze _) fun d => ?_
  rw [apL, apL]
  unfold aeT
  simp only [List.mem_map, List.mem_filter, Bool.and_eq_true, beq_iff_eq]
  exact ⟨fun ⟨u, ⟨a, e, q⟩, r⟩ => ⟨u, ⟨h4 u a (by rw [e]; exact hid), e, q⟩, r⟩, fun ⟨u, ⟨a, e, q⟩, r⟩ => ⟨u, ⟨h5 u a (by rw [e]; exact hid), e, q⟩, r⟩⟩
 rw [e1, e2]
theorem aNM {g : acP} (hg : g ∈ s.2.1) : ags b g.1 = ags s g.1 := by
 obtain ⟨_, _, h3, _⟩ := apM hs hb hp
 rw [aj0 hb.ids (h3 g hg), aj0 hs.ids hg]
theorem aH9 {c : Cmp} (hc : c ∈ s.2.2.2.2.1) {p : List Int} (hpl : ∀ x ∈ p, x ∈ c.2.2.1 ++ c.2.2.2.1) : arx (aiO s) p = arx (aiO b) p := by
 unfold arx
 cases p with
 | nil => rfl
 | cons x t =>
   obtain ⟨⟨g, hg, _⟩, _⟩ := hs.pile hc (hpl x (by simp))
   obtain ⟨hm, e⟩ := akW hg
   dsimp only
   rw [apP hs.ids, apP hb.ids, ← e, aNM hs hb hp hm]
theorem aPj {c : Cmp} (hc : c ∈ s.2.2.2.2.1) : aeG s c = aeG b c := by
 obtain ⟨_, hf, _⟩ := apM hs hb hp
 have e1 : ads s c = ads b c := by
  unfold ads rateK
  rw [aH9 hs hb hp hc (fun x hx => List.mem_append.2 (.inl (agz.1 hx).1)), aH9 hs hb hp hc (fun x hx => List.mem_append.2 (.inr (agz.1 hx).1))]
 have e2 : af1 s c = af1 b c := by
  unfold af1
  rw [hf]
 unfold aeG
 rw [e1, e2]
theorem azq {f : Int → Int → Int} {z : Int} (hh : aMc b f z) : aMc s f z := by
 obtain ⟨h1, hf, h3, _⟩ := apM hs hb hp
 refine ⟨fun g hg => ?_, fun c hc => ?_⟩
 ·have := hh.gauge g (h3 g hg)
  exact ⟨this.hi, this.lo, this.down, fun d e q1 q2 => by rw [aPk hs hb hp hg]; exact this.loss d e q1 q2⟩
 ·rw [aPj hs hb hp hc]
  exact hh.cmp c (h1 c hc)
end
theorem aMj {L : List Lk} {p : Int → Int} (hp : Pot L p) : ∀ (l : List Int) (u s : Int), (∀ i ∈ l, 0 ≤ i ∧ i.toNat < L.length) → (alz L u s l).2.2 = true → p (alz L u s l).1 - p u ≤ (alz L u s l).2.1 - s
 | [], u, s, _, _ => by simp [alz]
 | i :: t, u, s, hi, hw => by
   have hx := hi i (by simp)
   have hg : L[i.toNat]? = some L[i.toNat] := List.getElem?_eq_getElem hx.2
   have hm := List.mem_of_getElem? hg
   generalize L[i.toNat] = x at hg hm
   unfold alz at hw ⊢
   rw [hg] at hw ⊢
   simp only [Option.getD_some] at hw ⊢
   split at hw
   ·rename_i hc
    rw [if_pos hc]
    have h1 := hp x.1 x.2.1 x.2.2 hm
    have h2 := aMj hp t x.2.1 (s + x.2.2) (fun j hj => hi j (by simp [hj])) hw
    rw [hc] at h1
    omega
   ·cases hw
theorem aJ7 {L : List Lk} {p : Int → Int} (hp : Pot L p) {u v n : Int} {l : List Int} (h : adS L u v l = (n, 0)) : p v - p u ≤ n := by
 unfold adS at h
 by_cases hi : agH L l = 0
 ·rw [if_neg (by simp [hi])] at h
  split at h
  ·rename_i hw
   have := aMj hp l u 0 (aGZ hi).2 hw.1
   rw [hw.2] at this
   simp only [Prod.mk.injEq, and_true] at h
   omega
  ·simp at h
 ·rw [if_pos hi] at h
  simp only [Prod.mk.injEq] at h
  exact absurd h.2 hi
theorem aQJ {c : aON} (h : agk c = 0) : adi c.1 ∧ arm c.1 c.2.1 ∧ ∀ p, Pot (ack c.1) p → (c.2.2.1 = true → p (aki c.1 c.2.1.1 c.2.1.2) - p 0 ≤ c.2.2.2.1) ∧ (c.2.2.1 = false → c.2.2.2.1 ≤ p (aki c.1 c.2.1.1 c.2.1.2) - p 0) := by
 unfold agk at h
 by_cases hc : acw c.1 = 0
 case neg => rw [if_pos hc] at h; exact absurd h hc
 rw [if_neg (by simp [hc])] at h
 have hg := (acu _).1 hc
 by_cases h0 : aki c.1 c.2.1.1 c.2.1.2 = 0
 ·rw [if_pos h0] at h; cases h
 rw [if_neg h0] at h
 refine ⟨hg, (ayR hg).1 h0, fun p hp => ⟨fun hu => ?_, fun hu => ?_⟩⟩
 ·rw [hu, if_pos rfl] at h
  split at h
  ·rename_i hch; exact aJ7 hp hch
  ·cases h
 ·rw [hu, if_neg (by simp)] at h
  split at h
  ·rename_i hch
   have := aJ7 hp hch
   omega
  ·cases h
theorem aRP {c : aON} {b : acs} (hg : adi b) (hn : ∀ g ∈ b.2.1, I64 g.2.2.2.2.1.1) (hnode : arm b c.2.1) {x : List Int} (hx : x.length = (aca b).length) :
 agf c b x = some (if c.2.2.1 then decide (gv (0 :: x) (aki b c.2.1.1 c.2.1.2) ≤ c.2.2.2.1) else decide (c.2.2.2.1 ≤ gv (0 :: x) (aki b c.2.1.1 c.2.1.2))) := by
 have hi := aeb b c.2.1
 have h0 := (ayR hg).2 hnode
 unfold agf avq
 rw [aMA (hg.inn hn), abZ, azo hg, aci (decide_eq_false (by omega)), acB, hx, aci (decide_eq_false (by omega))]
 cases c.2.2.1 with
 | true =>
   rw [adH, aMY (by omega) (by omega), if_pos rfl, adA]
   by_cases h : gv (0 :: x) (aki b c.2.1.1 c.2.1.2) ≤ c.2.2.2.1
   ·rw [if_pos (by simpa [ile] using h), decide_eq_true h]
   ·rw [if_neg (by simpa [ile] using h), decide_eq_false h]; rfl
 | false =>
   rw [acF, if_neg (by simp), aMY (by omega) (by omega)]
   rfl
end Go.Proofs.ZzM
end
noncomputable section
namespace Go.Proofs.ZzM
open Go Go.Am
theorem aHK {b : acs} (hn : ∀ g ∈ b.2.1, I64 g.2.2.2.2.1.1) {c : aON} (hcn : ∀ g ∈ c.1.2.1, I64 g.2.2.2.2.1.1) (hv : I64 c.2.2.2.1) (x y : List Int) : aht b c x y = some true := by
 unfold aht ahh
 rw [aS5, abZ, aS5, abZ, aNH]
 by_cases hf : fewP b = true
 case neg => rw [Bool.eq_false_iff.2 hf]; rfl
 have hI : In b := ⟨aM9 hf, hn⟩
 rw [hf, aci (by rfl)]
 by_cases hf2 : fewP c.1 = true
 case neg => rw [Bool.eq_false_iff.2 hf2]; rfl
 have hIc : In c.1 := ⟨aM9 hf2, hcn⟩
 rw [hf2, aci (by rfl), acB, acB, acB]
 by_cases l1 : 90 < c.2.2.2.2.length
 ·rw [acp (decide_eq_true (by omega)), abZ]
 rw [aci (decide_eq_false (by omega))]
 by_cases l2 : 70 < x.length
 ·rw [acp (decide_eq_true (by omega)), abZ]
 rw [aci (decide_eq_false (by omega))]
 by_cases l3 : 70 < y.length
 ·rw [acp (decide_eq_true (by omega)), abZ]
 rw [aci (decide_eq_false (by omega)), apF hIc hv, abZ]
 by_cases hcc : agk c = 0
 case neg => rw [acp (bne_iff_ne.2 hcc), abZ]
 rw [aci (by rw [hcc]; rfl)]
 obtain ⟨hgc, hnc, hsays⟩ := aQJ hcc
 -- what is said of lengths that fit a book whose histories are the certificate's book's
 have obey : ∀ {B : acs}, adi B → (∀ g ∈ B.2.1, I64 g.2.2.2.2.1.1) → arm B c.2.1 → (∀ {f : Int → Int → Int} {z : Int}, aMc B f z → aMc c.1 f z) → ∀ {w : List Int}, ayx B w = (true, 0) → agf c B w = some true := by
  intro B hB hBn hnd hh w hw
  obtain ⟨_, lw, fw⟩ := au4.1 hw
  obtain ⟨lw, _⟩ := aJA.1 lw
  have hp : Pot (ack B) (gv (0 :: w)) := aJV.1 fw
  obtain ⟨f, hf, hm⟩ := aE5 hB hp
  have hR : aSP B := aQk hBn hw
  have hRc : Pot (ack c.1) (ayF c.1 f (gv (0 :: w) 0)) := ayS hgc (hh hf)
  have v1 := aMO hR hm hnd
  have v2 : ayF c.1 f (gv (0 :: w) 0) (aki c.1 c.2.1.1 c.2.1.2) = f c.2.1.1 c.2.1.2 := by
   obtain ⟨g, hg, e, hd⟩ := hnc
   rw [auF, ← e, ajF hgc f _ hg hd]
  obtain ⟨s1, s2⟩ := hsays _ hRc
  rw [v2, agu] at s1 s2
  have e0 : gv (0 :: w) 0 = 0 := rfl
  rw [aRP hB hBn hnd lw, v1]
  cases hu : c.2.2.1 with
  | true => have := s1 hu; rw [if_pos rfl, decide_eq_true (by omega)]
  | false => have := s2 hu; rw [if_neg (by simp), decide_eq_true (by omega)]
 -- the end: the interval
 have fin : ∀ K : Option Bool, K = some true → (adi b → arm b c.2.1 → aE6 c.1 b = true → True) → True := fun _ _ _ => trivial
 have tail : aE6 c.1 b = true → adi b → arm b c.2.1 → (ab2 (acU b c.2.1) fun r19 => ab2 (some true) fun r20 => ifb r20 (ifb (ieq r19.2 (9 : Int)) (some true) (ifb (ieq r19.2 (0 : Int)) (ifb c.2.2.1 (ifb (ige c.2.2.2.1 r19.1.2) (some true) (ifb (!c.2.2.1) (some (ile c.2.2.2.1 r19.1.1)) (some false))) (ifb (!c.2.2.1) (some (ile c.2.2.2.1 r19.1.1)) (some false))) (some false))) (some false)) = some true := by
  intro hpart hgb hnb
  rw [asu hI, abZ, abZ, adH]
  unfold apE
  have q := aL9 hgb (ns := [c.2.1]) (fun k hk => by simp at hk; subst hk; exact hnb)
  rw [q]
  by_cases ho : adV (ack b) ((aca b).length + 1) = true
  ·have hR : aSP b := ⟨hgb, ho, hn⟩
   rw [if_pos ho]
   dsimp only
   rw [if_neg (by simp), aci (by rfl), acp (by rfl)]
   have hio := aR3 hR c.2.1
   cases hu : c.2.2.1 with
   | true =>
     obtain ⟨f, z, hf, e⟩ := iv_at hR hnb (t := (ivR b c.2.1).2) hio (Int.le_refl _)
     have s1 := (hsays _ (ayS hgc (azq hgc hgb hpart hf))).1 hu
     have v2 : ayF c.1 f z (aki c.1 c.2.1.1 c.2.1.2) = f c.2.1.1 c.2.1.2 := by
      obtain ⟨g, hg, e, hd⟩ := hnc
      rw [auF, ← e, ajF hgc f _ hg hd]
     rw [v2, agu] at s1
     rw [adH, acp (decide_eq_true (by dsimp only; omega))]
   | false =>
     obtain ⟨f, z, hf, e⟩ := iv_at hR hnb (t := (ivR b c.2.1).1) (Int.le_refl _) hio
     have s1 := (hsays _ (ayS hgc (azq hgc hgb hpart hf))).2 hu
     have v2 : ayF c.1 f z (aki c.1 c.2.1.1 c.2.1.2) = f c.2.1.1 c.2.1.2 := by
      obtain ⟨g, hg, e, hd⟩ := hnc
      rw [auF, ← e, ajF hgc f _ hg hd]
     rw [v2, agu] at s1
     rw [acF, acp (by rfl)]
     exact congrArg some (decide_eq_true (by dsimp only; omega))
  ·rw [if_neg ho]
   dsimp only
   rw [if_pos (by simp), acp (by rfl)]
 have rest : ∀ K : Option Bool, K = (ab2 (ag3 b c) fun r12 => ifb (ine r12.2 (0 : Int)) (ab2 (some true) fun r13 => some r13) (ifb (!r12.1) (ab2 (some true) fun r14 => some r14) (ab2 (ag2 b c.2.1) fun r15 => ifb (ilt r15 (0 : Int)) (ab2 (some true) fun r16 => some r16) (ab2 (akZ b x) fun r17 => ifb (ieq r17.2 (0 : Int)) (ifb r17.1 (ab2 (agf c b x) fun r18 => ifb (!r18) (some false) (ab2 (acU b c.2.1) fun r19 => ab2 (some true) fun r20 => ifb r20 (ifb (ieq r19.2 (9 : Int)) (some true) (ifb (ieq r19.2 (0 : Int)) (ifb c.2.2.1 (ifb (ige c.2.2.2.1 r19.1.2) (some true) (ifb (!c.2.2.1) (some (ile c.2.2.2.1 r19.1.1)) (some false))) (ifb (!c.2.2.1) (some (ile c.2.2.2.1 r19.1.1)) (some false))) (some false))) (some false))) (ab2 (acU b c.2.1) fun r21 => ab2 (some true) fun r22 => ifb r22 (ifb (ieq r21.2 (9 : Int)) (some true) (ifb (ieq r21.2 (0 : Int)) (ifb c.2.2.1 (ifb (ige c.2.2.2.1 r21.1.2) (some true) (ifb (!c.2.2.1) (some (ile c.2.2.2.1 r21.1.1)) (some false))) (ifb (!c.2.2.1) (some (ile c.2.2.2.1 r21.1.1)) (some false))) (some false))) (some false))) (ab2 (acU b c.2.1) fun r23 => ab2 (some true) fun r24 => ifb r24 (ifb (ieq r23.2 (9 : Int)) (some true) (ifb (ieq r23.2 (0 : Int)) (ifb c.2.2.1 (ifb (ige c.2.2.2.1 r23.1.2) (some true) (ifb (!c.2.2.1) (some (ile c.2.2.2.1 r23.1.1)) (some false))) (ifb (!c.2.2.1) (some (ile c.2.2.2.1 r23.1.1)) (some false))) (some false))) (some false)))))) → K = some true := by
  intro K hK
  rw [hK, aKo hI hIc hv, abZ]
  by_cases hst : (awL b c).2 = 0
  case neg => rw [acp (bne_iff_ne.2 hst), abZ]
  rw [aci (by rw [hst]; rfl)]
  by_cases hst2 : (awL b c).1 = true
  case neg => rw [Bool.eq_false_iff.2 hst2]; rfl
  rw [hst2, aci (by rfl)]
  have hcb : acw b = 0 ∧ aE6 c.1 b = true := by
   unfold awL at hst hst2
   by_cases h0 : acw b = 0
   ·rw [if_neg (by simp [h0])] at hst hst2
    refine ⟨h0, ?_⟩
    split at hst2
    ·split at hst2
     ·cases hst2
     ·exact hst2
    ·split at hst2
     ·cases hst2
     ·exact hst2
   ·rw [if_pos h0] at hst; exact absurd hst h0
  have hgb := (acu _).1 hcb.1
  rw [aMA hI, abZ, azo hgb]
  by_cases h0 : aki b c.2.1.1 c.2.1.2 = 0
  ·rw [acp (decide_eq_true (by omega)), abZ]
  have hir := aeb b c.2.1
  have hnb := (ayR hgb).1 h0
  rw [aci (decide_eq_false (by omega)), aRk hI.size hI.num, abZ]
  by_cases e1 : (ayx b x).2 = 0
  case neg => rw [aci (beq_eq_false_iff_ne.2 e1)]; exact tail hcb.2 hgb hnb
  rw [acp (beq_iff_eq.2 e1)]
  cases e2 : (ayx b x).1 with
  | false => rw [acF]; exact tail hcb.2 hgb hnb
  | true =>
    rw [adH, obey hgb hn hnb (fun hf => azq hgc hgb hcb.2 hf) (show ayx b x = (true, 0) from Prod.ext e2 e1), abZ, aci (by rfl)]
    exact tail hcb.2 hgb hnb
 rw [aRk hIc.size hIc.num, abZ]
 by_cases e1 : (ayx c.1 y).2 = 0
 case neg => rw [aci (beq_eq_false_iff_ne.2 e1)]; exact rest _ rfl
 rw [acp (beq_iff_eq.2 e1)]
 cases e2 : (ayx c.1 y).1 with
 | false => rw [acF]; exact rest _ rfl
 | true =>
   rw [adH, obey hgc hcn hnc (fun hf => hf) (show ayx c.1 y = (true, 0) from Prod.ext e2 e1), abZ, aci (by rfl)]
   exact rest _ rfl
end Go.Proofs.ZzM
end