/- lemmas -/
import Derived.Test.YthhhehllmdfhiaaGreatPlA
import Derived.Test.YthhhehllmdfhiaaGreatMdTA
set_option linter.all false
set_option linter.unusedSectionVars false
set_option linter.unusedVariables false
set_option linter.unusedSimpArgs false
noncomputable section
namespace Go.Proofs.ZzM
open Go Go.Am
section
variable {L : List Lk} {N : Nat}
theorem Wl.app {u v : Int} {vs : List Int} {d : Int} (h1 : Wl L (fun x => x = u) vs v d) {ws : List Int} {w e : Int} (h2 : Wl L (fun x => x = v) ws w e) : ∃ xs, Wl L (fun x => x = u) xs w (d + e) := by
 induction h2 with
 | nil h => subst h; exact ⟨vs, by rw [Int.add_zero]; exact h1⟩
 | step hw hx ih =>
   obtain ⟨xs, hi⟩ := ih
   have := Wl.step hi hx
   rw [Int.add_assoc] at this
   exact ⟨_, this⟩
def dst (L : List Lk) (N : Nat) (s t : Int) : Int := gv (oZ L N s) t
theorem Xs (h : gP L N) (ht : Iv L N) (ho : d9 L N = true) {s t : Int} (hs : 0 ≤ s ∧ s < N) (hv : 0 ≤ t ∧ t < N) : dst L N s t ≤ 9007199254740992 := by
 have h2 := h.n60
 obtain ⟨p, hp⟩ := (gI h.links (by omega)).1 ho
 obtain ⟨vs, d, hw, hd⟩ := ht.from' s hs.1 hs.2
 obtain ⟨ws, e, hx, he⟩ := ht.to t hv.1 hv.2
 obtain ⟨xs, hy⟩ := Wl.app hw hx
 have := (kF h.links (by omega) hp hs).low t xs _ (Wm.2 hy)
 unfold dst
 omega
theorem Xr (h : gP L N) (ht : Iv L N) (ho : d9 L N = true) {s t : Int} (hs : 0 ≤ s ∧ s < N) (hv : 0 ≤ t ∧ t < N) : dst L N s t ≠ gc := by
 have := Xs h ht ho hs hv
 unfold gc
 omega
theorem Xq (h : gP L N) (ht : Iv L N) (ho : d9 L N = true) {s : Int} (hs : 0 ≤ s ∧ s < N) : Pot L (dst L N s) := by
 have h2 := h.n60
 obtain ⟨p, hp⟩ := (gI h.links (by omega)).1 ho
 intro u v m hl
 have hr := h.inr _ hl
 exact (kF h.links (by omega) hp hs).pot h.inr hl (Xr h ht ho hs hr.1)
theorem T2 (h : gP L N) (ho : d9 L N = true) {s : Int} (hs : 0 ≤ s ∧ s < N) : dst L N s s = 0 := ST h ho hs.1 hs.2
theorem CD (h : gP L N) (ht : Iv L N) (ho : d9 L N = true) {s t : Int} (hs : 0 ≤ s ∧ s < N) (hv : 0 ≤ t ∧ t < N) {p : Int → Int} (hp : Pot L p) : p t - p s ≤ dst L N s t := by
 have h2 := h.n60
 obtain ⟨vs, hw⟩ := (kF h.links (by omega) hp hs).att t hv.1 hv.2 (Xr h ht ho hs hv)
 obtain ⟨u, hu, hx⟩ := (Wm.1 hw).pot hp
 subst hu
 exact hx
theorem SA (h : gP L N) (ht : Iv L N) (ho : d9 L N = true) {x y : Int} (hx : 0 ≤ x ∧ x < N) (hy : 0 ≤ y ∧ y < N) {t : Int} (h1 : -(dst L N x y) ≤ t) (h2 : t ≤ dst L N y x) : ∃ p, Pot L p ∧ p x - p y = t := by
 refine ⟨fun v => min (dst L N y v) (dst L N x v + t), fun u v m hl => ?_, ?_⟩
 ·have a1 := Xq h ht ho hy u v m hl
  have a2 := Xq h ht ho hx u v m hl
  show min _ _ ≤ min _ _ + m
  omega
 ·have e1 := T2 h ho hx
  have e2 := T2 h ho hy
  show min (dst L N y x) (dst L N x x + t) - min (dst L N y y) (dst L N x y + t) = t
  omega
theorem AQ (h : gP L N) (ht : Iv L N) (ho : d9 L N = true) {x y : Int} (hx : 0 ≤ x ∧ x < N) (hy : 0 ≤ y ∧ y < N) : -(dst L N x y) ≤ dst L N y x := by
 have h2 := h.n60
 obtain ⟨p, hp⟩ := (gI h.links (by omega)).1 ho
 have a1 := CD h ht ho hx hy hp
 have a2 := CD h ht ho hy hx hp
 omega
theorem T3 (h : gP L N) (ht : Iv L N) (ho : d9 L N = true) {s t : Int} (hs : 0 ≤ s ∧ s < N) (hv : 0 ≤ t ∧ t < N) : -9007199254740992 ≤ dst L N s t ∧ dst L N s t ≤ 9007199254740992 := by
 have a1 := Xs h ht ho hs hv
 have a2 := Xs h ht ho hv hs
 have a3 := AQ h ht ho hv hs
 omega
theorem vB (h : gP L N) (ht : Iv L N) {s t : Int} (hs : 0 ≤ s ∧ s < N) (hv : 0 ≤ t ∧ t < N) : f8 L N s t = if d9 L N then (dst L N s t, 0) else (0, 9) := by
 unfold f8
 by_cases ho : d9 L N = true
 ·have hne := Xr h ht ho hs hv
  unfold dst at hne ⊢
  rw [if_neg (by simp [ho]), if_neg hne, if_pos ho]
 ·rw [if_pos (by simpa using ho), if_neg ho]
end
section
variable {b : bH} {c : Cmp}
theorem aaI (h' : cX (bK b c)) : GL (bK b c) (bV (bK b c)) := by
 intro i g hg l hl
 rw [Sv]
 exact List.mem_append.2 (.inl (List.mem_flatMap.2 ⟨g, List.mem_of_getElem? hg, hl⟩))
theorem iH (h' : cX (bK b c)) : Iv (bV (bK b c)) ((bn (bK b c)).length + 1) := h'.tiedL (aaI h')
theorem iq (h' : cX (bK b c)) : gP (bV (bK b c)) ((bn (bK b c)).length + 1) :=
 h'.sys.sub (fun l hl => List.mem_of_mem_take hl) (by unfold bV; rw [List.length_take]; omega)
theorem m8 (h : cX b) (h' : cX (bK b c)) : d9 (bV (bK b c)) ((bn (bK b c)).length + 1) = d9 (bC b) ((bn b).length + 1) := by
 have n1 := h.sys.n60
 have n2 := (iq h').n60
 rw [Bool.eq_iff_iff, gI (iq h').links (by omega), gI h.sys.links (by omega)]
 exact (Wj h h').symm
theorem uY : c ∈ (bK b c).2.2.2.2.1 := by simp [bK]
theorem wJ (h' : cX (bK b c)) : 0 ≤ cx (bK b c) c ∧ cx (bK b c) c < ((bn (bK b c)).length + 1 : Nat) := (NM h' uY).rng
theorem wI (h' : cX (bK b c)) : 0 ≤ cy (bK b c) c ∧ cy (bK b c) c < ((bn (bK b c)).length + 1 : Nat) := (HY h' uY).rng
def dLo (b : bH) (c : Cmp) : Int := -(dst (bV (bK b c)) ((bn (bK b c)).length + 1) (cx (bK b c) c) (cy (bK b c) c))
def dHi (b : bH) (c : Cmp) : Int := dst (bV (bK b c)) ((bn (bK b c)).length + 1) (cy (bK b c) c) (cx (bK b c) c)
theorem Iw (h : cX b) (h' : cX (bK b (bg c))) : dm b c = if d9 (bC b) ((bn b).length + 1) then Fw b (bg c) (dLo b (bg c), dHi b (bg c)) else ((0, 0), 9) := by
 have e : uP b (bg c) = (bK b (bg c), 0) := by
  unfold uP
  rw [if_neg (by simp [(bS b).2 h]), if_neg (by simp [(bS _).2 h'])]
 unfold dm
 rw [e, vB (iq h') (iH h') (wI h') (wJ h'), vB (iq h') (iH h') (wJ h') (wI h'), m8 h h']
 by_cases ho : d9 (bC b) ((bn b).length + 1) = true
 ·rw [if_pos ho, if_pos ho, if_pos ho]
  rfl
 ·rw [if_neg ho, if_neg ho, if_neg ho]
  rfl
theorem mi (hp : (dm b c).2 = 0) : cX b ∧ cX (bK b (bg c)) := by
 have hw : (uP b (bg c)).2 = 0 := by
  unfold dm at hp
  by_cases hw : (uP b (bg c)).2 = 0
  ·exact hw
  ·rw [if_pos hw] at hp; exact hp
 unfold uP at hw
 by_cases hb : bO b = 0
 ·rw [if_neg (by simp [hb])] at hw
  by_cases hm : bO (bK b (bg c)) = 0
  ·exact ⟨(bS b).1 hb, (bS _).1 hm⟩
  ·rw [if_pos hm] at hw; exact absurd hw hm
 ·rw [if_pos hb] at hw; exact absurd hw hb
theorem Rm {s : Int × Int} (h : (Fw b c s).2 = 0) : Sk b c ≤ xP b c ∧ Fw b c s = ((s.1 + Sk b c, s.2 + xP b c), 0) := by
 unfold Fw at h ⊢
 split at h
 ·simp at h
 ·rename_i hl
  rw [if_neg hl]
  exact ⟨by omega, rfl⟩
end
end Go.Proofs.ZzM
end
noncomputable section
namespace Go.Proofs.ZzM
open Go Go.Am
structure Room (B : bH) : Prop where
 good : cX B
 op : d9 (bC B) ((bn B).length + 1) = true
 num : ∀ g ∈ B.2.1, I64 g.2.2.2.2.1.1
theorem jq {b : bH} (hI : In b) {ns : List (Int × Int)} (e : (dg b ns).2 = 0) : Room (dg b ns).1 ∧ (dg b ns).1 = (gq b ns).1 ∧ (gq b ns).2 = 0 ∧ cX b := by
 unfold dg at e ⊢
 by_cases hc : bO b = 0
 ·rw [if_neg (by simp [hc])] at e ⊢
  by_cases hr : (gq b ns).2 = 0
  ·rw [if_neg (by simp [hr])] at e ⊢
   cases ho : d9 (bC (gq b ns).1) ((bn (gq b ns).1).length + 1) with
   | true =>
     rw [if_pos rfl]
     exact ⟨⟨FB ((bS b).1 hc) hr, ho, by rw [qk hr]; exact hI.num⟩, rfl, hr, (bS b).1 hc⟩
   | false => rw [ho] at e; simp at e
  ·rw [if_pos hr] at e; exact absurd e hr
 ·rw [if_pos hc] at e; exact absurd e hc
theorem dn (B : bH) (n : Int × Int) : 0 ≤ sG B n.1 n.2 ∧ sG B n.1 n.2 < ((bn B).length + 1 : Nat) := by
 unfold sG
 cases h : iz (bn B) n.1 n.2 with
 | none => dsimp only; omega
 | some j => have := (i8 h).1; dsimp only; omega
theorem Il {B : bH} (h : cX B) (hn : ∀ g ∈ B.2.1, I64 g.2.2.2.2.1.1) (s : Sys) (n : Int × Int) : fJ (B, s) n = some (sG B n.1 n.2) := by
 unfold fJ xm
 rw [show er (B, s).1 n = er B n from rfl, Iy (h.inn hn), aW, yb h]
 split
 ·rename_i e; rw [e]
 ·rfl
theorem QY {B : bH} {L : List Lk} {N : Nat} (h : gP L N) {to from' : Int} (h1 : 0 ≤ to ∧ to < N) (h2 : 0 ≤ from' ∧ from' < N) : cg (B, (N : Int), L) to from' = some (f8 L N from' to).1 := by
 unfold cg oD
 rw [show (B, (N : Int), L).2 = ((N : Int), L) from rfl, Fk h h2 h1, aW]
def J8 (B : bH) : Sys := (((bn B).length : Int) + 1, bC B)
def Yn (B : bH) (s t : Int) : Int := dst (bC B) ((bn B).length + 1) s t
def ivR (B : bH) (n : Int × Int) : Int × Int := (-(Yn B (sG B n.1 n.2) 0), Yn B 0 (sG B n.1 n.2))
theorem Fp (B : bH) : J8 B = ((((bn B).length + 1 : Nat) : Int), bC B) := by unfold J8; push_cast; rfl
theorem dW (B : bH) : 0 ≤ (0 : Int) ∧ (0 : Int) < ((bn B).length + 1 : Nat) := by omega
section
variable {B : bH} (h : Room B)
include h
theorem uF {s t : Int} (hs : 0 ≤ s ∧ s < ((bn B).length + 1 : Nat)) (ht : 0 ≤ t ∧ t < ((bn B).length + 1 : Nat)) : -9007199254740992 ≤ Yn B s t ∧ Yn B s t ≤ 9007199254740992 :=
 T3 h.good.sys h.good.tied h.op hs ht
theorem vy {to from' : Int} (h1 : 0 ≤ to ∧ to < ((bn B).length + 1 : Nat)) (h2 : 0 ≤ from' ∧ from' < ((bn B).length + 1 : Nat)) : cg (B, J8 B) to from' = some (Yn B from' to) := by
 rw [Fp, QY h.good.sys h1 h2, vB h.good.sys h.good.tied h2 h1, if_pos h.op]
 rfl
theorem KT (n : Int × Int) : fI (B, J8 B) n = some (-(Yn B (sG B n.1 n.2) 0)) := by
 unfold fI oC
 have hb := uF h (dn B n) (dW B)
 rw [Il h.good h.num, aW, vy h (dW B) (dn B n), aW, bz (by omega) (by omega)]
 congr 1
 omega
theorem Az (n : Int × Int) : f7 (B, J8 B) n = some (Yn B 0 (sG B n.1 n.2)) := by
 unfold f7 ki
 rw [Il h.good h.num, aW, vy h (dn B n) (dW B), aW]
theorem rk (n : Int × Int) : eM (B, J8 B) n = some (ivR B n) := by
 unfold eM kh
 rw [KT h, aW, Az h, aW]
 rfl
end
def jN (b : bH) (n : Int × Int) : (Int × Int) × Int := if (dg b [n]).2 ≠ 0 then ((0, 0), (dg b [n]).2) else (ivR (dg b [n]).1 n, 0)
theorem rG {b : bH} (hI : In b) (n : Int × Int) : gk b n = some (jN b n) := by
 unfold gk tz jN
 refine (qn hI (ns := [n]) (by simp) (fun e => some (((0, 0) : Int × Int), e)) (fun e he => by rw [dA (by simp [ine, he])]) (fun z he => by rw [dA (by simp [ine, he])]) (fun _ _ _ => rfl)).trans ?_
 split
 ·rfl
 ·rename_i e
  have hr := (jq hI (by simpa using e)).1
  dsimp only
  rw [ur, show ((((bn (dg b [n]).1).length : Int) + 1, bC (dg b [n]).1) : Sys) = J8 (dg b [n]).1 from rfl, rk hr, aW]
theorem Vr {ρ : Type} : @oK ρ = @cr ρ := rfl
theorem Y2 {ρ : Type} : @tx ρ = @cr ρ := rfl
def btR (B : bH) (m n : Int × Int) : Int × Int := (-(Yn B (sG B m.1 m.2) (sG B n.1 n.2)), Yn B (sG B n.1 n.2) (sG B m.1 m.2))
def rI (b : bH) (m n : Int × Int) : (Int × Int) × Int := if (dg b [m, n]).2 ≠ 0 then ((0, 0), (dg b [m, n]).2) else (btR (dg b [m, n]).1 m n, 0)
theorem Lr {b : bH} (hI : In b) (m n : Int × Int) : ni b m n = some (rI b m n) := by
 unfold ni xv rI
 rw [Vr]
 refine (qn hI (ns := [m, n]) (by simp) (fun e => some (((0, 0) : Int × Int), e)) (fun e he => by rw [dA (by simp [ine, he])]) (fun z he => by rw [dA (by simp [ine, he])]) (fun _ _ _ => rfl)).trans ?_
 split
 ·rfl
 ·rename_i e
  have hr := (jq hI (by simpa using e)).1
  dsimp only
  generalize (dg b [m, n]).1 = B at hr ⊢
  have hb := uF hr (dn B m) (dn B n)
  rw [ur, show ((((bn B).length : Int) + 1, bC B) : Sys) = J8 B from rfl, Il hr.good hr.num, aW, Il hr.good hr.num, aW, vy hr (dn B n) (dn B m), aW,
   bz (by omega) (by omega), vy hr (dn B m) (dn B n), aW]
  unfold btR
  rw [Int.zero_sub]
def nw (s l : Int × Int) : Int := if l.1 ≤ s.1 ∧ s.2 ≤ l.2 then 1 else if s.2 < l.1 ∨ l.2 < s.1 then 2 else 3
theorem J5 (s l : Int × Int) : nf s l = some (nw s l) := by
 unfold nf xj nw
 simp only [dp, ile, ilt, decide_eq_true_eq]
 by_cases h1 : l.1 ≤ s.1 <;> by_cases h2 : s.2 ≤ l.2 <;> by_cases h3 : s.2 < l.1 <;> by_cases h4 : l.2 < s.1 <;> simp [h1, h2, h3, h4]
def Yg (b : bH) (n l : Int × Int) : Int × Int := if (dg b [n]).2 ≠ 0 then (0, (dg b [n]).2) else if l.2 < l.1 then (0, 1) else (nw (ivR (dg b [n]).1 n) l, 0)
theorem ZP {b : bH} (hI : In b) (n l : Int × Int) : AG b n l = some (Yg b n l) := by
 unfold AG Gg Yg
 rw [Y2]
 refine (qn hI (ns := [n]) (by simp) (fun e => some ((0 : Int), e)) (fun e he => by rw [bI (by simp [ine, he])]) (fun z he => by rw [bI (by simp [ine, he])]) (fun _ _ _ => rfl)).trans ?_
 split
 ·rfl
 ·rename_i e
  have hr := (jq hI (by simpa using e)).1
  dsimp only
  by_cases hl : l.2 < l.1
  ·rw [bI (by simp [igt, hl]), if_pos hl]
  ·rw [bu (by simp [igt]; omega), if_neg hl, ur, show ((((bn (dg b [n]).1).length : Int) + 1, bC (dg b [n]).1) : Sys) = J8 (dg b [n]).1 from rfl, rk hr, aW, J5, aW]
end Go.Proofs.ZzM
end
noncomputable section
namespace Go.Proofs.ZzM
open Go Go.Am
def IB (x y : List Int) : List Int × List Int × Int := if !lY x then ([], [], 1) else if !lY y then ([], [], 1) else (cw x y, cw y x, 0)
theorem Q8 {x y : List Int} (hx : x.length ≤ 100000) (hy : y.length ≤ 100000) : qd x y = some (IB x y) := by
 unfold qd Cl IB
 rw [As (by omega), aW]
 cases lY x with
 | false => rfl
 | true =>
   rw [As (by omega), aW]
   cases lY y with
   | false => rfl
   | true =>
     rw [oR (by omega) (by omega), aW, oR (by omega) (by omega), aW]
     rfl
end Go.Proofs.ZzM
end
noncomputable section
namespace Go.Proofs.ZzM
open Go Go.Am
theorem QD (ls : List (List Int)) (i : Nat) : (ls.take i).flatten.length ≤ ls.flatten.length := by
 conv => rhs; rw [← List.take_append_drop i ls, List.flatten_append, List.length_append]
 omega
theorem mC {ls : List (List Int)} (hl : ls.length ≤ 1000000) (hf : ls.flatten.length ≤ 1000000) : bL ls = some ls.flatten := by
 have hk : ∀ n : Nat, n ≤ 4000000 → ∀ (f : Int → Option (List Int)), ck (n : Int) f = f n := fun n h f => bz (by omega) (by omega) f
 have second : bt (fun (v9 : (Val (.pair tI (.slice tI)))) kk12 => bQ ls (bE ls) v9.1 v9.2 (fun u10 u11 => kk12 (u10, u11)) (fun z8 => some z8)) ((0 : Int), ([] : List Int)) = some ls.flatten := by
  refine cD ls (fun i => (ls.take i).flatten) (some ls.flatten) (f := fun (v9 : (Val (.pair tI (.slice tI)))) kk12 => bQ ls (bE ls) v9.1 v9.2 (fun u10 u11 => kk12 (u10, u11)) (fun z8 => some z8)) rfl (fun i x hi hx kn => ?_) (fun kn => ?_)
  ·try dsimp only
   unfold bQ
   have h1 := QD ls (i + 1)
   rw [take_succ hx, List.flatten_append, List.length_append] at h1
   simp only [List.flatten_cons, List.flatten_nil, List.append_nil] at h1
   rw [bv hi, bp hx, br hi (by omega), take_succ hx, List.flatten_append]
   have : bW ((List.take i ls).flatten.length + x.length) = true := bw (by omega)
   rw [dA this]
   simp
  ·try dsimp only
   unfold bQ
   rw [bU]
   simp
 unfold bL gT
 refine gW (fun x : Int × Int => ∃ i : Nat, i ≤ ls.length ∧ x = (((ls.take i).flatten.length : Int), (i : Int))) (fun x => ls.length - x.2.toNat) ?_ ⟨0, by omega, rfl⟩
 rintro x ⟨i, hi, rfl⟩
 rcases Nat.lt_or_ge i ls.length with h2 | h2
 ·refine .inr ⟨(((ls.take (i + 1)).flatten.length : Int), (i : Int) + 1), ⟨i + 1, h2, by simp⟩, by simp; omega, fun kn => ?_⟩
  obtain ⟨x, hx⟩ : ∃ x, ls[i]? = some x := ⟨_, List.getElem?_eq_getElem h2⟩
  have h1 := QD ls (i + 1)
  rw [take_succ hx, List.flatten_append, List.length_append] at h1
  simp only [List.flatten_cons, List.flatten_nil, List.append_nil] at h1
  try dsimp only
  unfold dh
  rw [bv h2, bp hx, b8]
  have e1 : (((List.take i ls).flatten.length : Int) + (x.length : Int)) = ((List.take i ls).flatten.length + x.length : Nat) := by omega
  rw [e1, hk _ (by omega)]
  have : ilt ((((List.take i ls).flatten.length + x.length : Nat)) : Int) 0 = false := by simp [ilt]; omega
  rw [bu this, br h2 (by omega), take_succ hx]
  simp
 ·refine .inl fun kn => ?_
  obtain rfl : i = ls.length := by omega
  try dsimp only
  unfold dh
  rw [bU, List.take_length]
  have e2 : ilt ((ls.flatten.length : Nat) : Int) 0 = false := decide_eq_false (by omega)
  dsimp only
  rw [bu e2, Int.sub_zero, hk _ (by omega)]
  rcases Nat.eq_zero_or_pos ls.flatten.length with h0 | h0
  ·have : igt (ls.flatten.length : Int) 0 = false := decide_eq_false (by omega)
   rw [bu this]
   exact second
  ·have : igt (ls.flatten.length : Int) 0 = true := decide_eq_true (by omega)
   rw [bI this]
   have : ((ilt (0 : Int) (ls.flatten.length : Int)) && (bW (Int.toNat (ls.flatten.length : Int)))) = true := by
    rw [Int.toNat_natCast, bw (by omega), Bool.and_true]
    exact decide_eq_true (by omega)
   rw [dA this]
   have : ile 0 (dt (List.replicate (Int.toNat (ls.flatten.length : Int)) (0 : Int))) = true := decide_eq_true (Int.natCast_nonneg _)
   rw [dA this]
   exact second
def onP (day : Int) (ids : List Int) : List (Int × Int) := ids.map fun id => (id, day)
theorem VX {day : Int} {ls : List (List Int)} (hl : ls.length ≤ 1000000) (hf : ls.flatten.length ≤ 1000000) : AE day ls = some (onP day ls.flatten) := by
 unfold AE F4
 rw [mC hl hf, aW]
 refine cD ls.flatten (fun i => onP day (ls.flatten.take i)) _ rfl (fun i x hi hx kn => ?_) (fun kn => ?_)
 ·try dsimp only
  unfold nM
  rw [bv hi, bp hx, br hi (by omega), take_succ hx]
  have : bW (List.length (onP day (ls.flatten.take i)) + List.length ([(x, day)])) = true := bw (by simp [onP]; omega)
  rw [dA this]
  simp [onP]
 ·try dsimp only
  unfold nM
  rw [bU, List.take_length]
theorem Yy {l : List Int} (hl : l.length ≤ 100000) (m : Int) : E9 l m = some (lY l && decide ((l.length : Int) ≤ m)) := by
 unfold E9 L5
 rw [Q8 hl (by simp), aW]
 have e0 : lY [] = true := by decide
 unfold IB
 rw [e0, b8]
 cases lY l <;> rfl
theorem aal (n : Int) : AF n = some (NL n) := by
 unfold AF F9 NL inP
 rw [dp]
 by_cases h : 0 ≤ n
 ·rw [if_pos (by simpa [ige] using h)]; simp [h]
 ·rw [if_neg (by simpa [ige] using h)]; simp [h]
theorem Y7 {ρ α : Type} (l : List α) (i : Int) (f : α → Option ρ) : ca ((ile (0 : Int) i) && (ilt i (dt l))) (gg l (Int.toNat i) f) = dI l i f := by
 unfold dI
 by_cases h0 : 0 ≤ i
 ·by_cases h1 : i < l.length
  ·have e : ((ile (0 : Int) i) && (ilt i (dt l))) = true := by simp [ile, ilt, h0, h1]
   rw [dA e]
   simp only [h0, decide_true]
   unfold gg
   rfl
  ·have e : ((ile (0 : Int) i) && (ilt i (dt l))) = false := by simp [ile, ilt, h1]
   rw [e]
   simp only [h0, decide_true]
   rw [List.getElem?_eq_none (by omega)]
   rfl
 ·have e : ((ile (0 : Int) i) && (ilt i (dt l))) = false := by simp [ile, ilt, h0]
  rw [e]
  simp only [h0, decide_false]
  rfl
theorem aau {ρ : Type} (ns : List (Int × Int)) (n : Int) : @qG ρ ns n = @cr ρ n ns := by
 funext v0 v1 v2 v3 v4 v5 v6 v7 kn k0 k1
 unfold qG cr
 rw [Y7]
def Th (B : bH) (ns : List (Int × Int)) (s : Int × Int) : Int × Int := ns.foldl (fun s n => (s.1 + (ivR B n).1, s.2 + (ivR B n).2)) s
def pileR (B : bH) (f : Int × Int) (ns : List (Int × Int)) : Int × Int := Th B ns (((ns.length : Int) - 1) * f.1, ((ns.length : Int) - 1) * f.2)
def aa8 (b : bH) (day : Int) (ids : List Int) : (Int × Int) × Int :=
 if bO b ≠ 0 then ((0, 0), bO b) else if ids.length = 0 ∨ lY ids = false ∨ NL day = false then ((0, 0), 1) else
 if (dg b (onP day ids)).2 ≠ 0 then ((0, 0), (dg b (onP day ids)).2) else (pileR (dg b (onP day ids)).1 b.1 (onP day ids), 0)
theorem Rj (B : bH) (x y : List (Int × Int)) (s : Int × Int) : Th B (x ++ y) s = Th B y (Th B x s) := by unfold Th; rw [List.foldl_append]
theorem VT {B : bH} (h : Room B) : ∀ (ns : List (Int × Int)) (s : Int × Int) (m : Int), -m ≤ s.1 ∧ s.1 ≤ m → -m ≤ s.2 ∧ s.2 ≤ m →
 (-(m + ns.length * 9007199254740992) ≤ (Th B ns s).1 ∧ (Th B ns s).1 ≤ m + ns.length * 9007199254740992) ∧ (-(m + ns.length * 9007199254740992) ≤ (Th B ns s).2 ∧ (Th B ns s).2 ≤ m + ns.length * 9007199254740992)
 | [], s, m, h1, h2 => by unfold Th; simp; omega
 | n :: t, s, m, h1, h2 => by
   have b1 := uF h (dn B n) (dW B)
   have b2 := uF h (dW B) (dn B n)
   have := VT h t (s.1 + (ivR B n).1, s.2 + (ivR B n).2) (m + 9007199254740992) (by unfold ivR; dsimp only; omega) (by unfold ivR; dsimp only; omega)
   show (-(m + ((n :: t).length : Nat) * 9007199254740992) ≤ (Th B t _).1 ∧ _) ∧ _
   unfold Th at this ⊢
   simp only [List.foldl_cons, List.length_cons]
   push_cast
   omega
theorem aa7 {b : bH} (hI : In b) (day : Int) {ids : List Int} (hl : ids.length ≤ 1000) : Fc b day ids = some (aa8 b day ids) := by
 unfold Fc Mx aa8
 rw [gF hI.size hI.num, aW, Yy (by omega), aW, aal, aW, b8]
 by_cases hc : bO b = 0
 ·rw [bu (by simp [ine, hc]), if_neg (show ¬ (bO b ≠ 0) from fun h => h hc)]
  by_cases h0 : ids.length = 0
  ·rw [bI (by simp [ieq, h0]), if_pos (.inl h0)]
  ·rw [bu (beq_eq_false_iff_ne.2 (by omega))]
   by_cases h1 : lY ids = true
   ·have hp := (OO ids).1 h1
    have e1 : (lY ids && decide ((ids.length : Int) ≤ 6)) = true := by rw [h1]; simp; omega
    rw [e1, bu (by rfl)]
    by_cases h2 : NL day = true
    ·have hg := (bS b).1 hc
     rw [bu (by rw [h2]; rfl), if_neg (by simp [h0, h1, h2]), VX (by simp) (by simp; omega), aW]
     have hlen : (onP day ids).length = ids.length := by simp [onP]
     rw [show ([ids] : List (List Int)).flatten = ids by simp, aau, ← gF hI.size hI.num]
     refine (qn hI (ns := onP day ids) (by omega) (fun e => some (((0, 0) : Int × Int), e)) (fun e he => by rw [bI (by simp [ine, he])]) (fun z he => by rw [bI (by simp [ine, he])]) (fun _ _ _ => rfl)).trans ?_
     split
     ·rfl
     ·rename_i e
      have hr := (jq hI (by simpa using e)).1
      have hf := hg.film
      dsimp only
      generalize (dg b (onP day ids)).1 = B at hr ⊢
      have hm : ∀ x : Int, 0 ≤ x → x ≤ 1000000 → 0 ≤ ((ids.length : Int) - 1) * x ∧ ((ids.length : Int) - 1) * x ≤ 10000000 := by
       intro x h0 h1
       have : ((ids.length : Int) - 1) * x ≤ 5 * 1000000 := Int.mul_le_mul (by omega) h1 h0 (by omega)
       exact ⟨Int.mul_nonneg (by omega) h0, by omega⟩
      have m1 := hm b.1.1 (by omega) (by omega)
      have m2 := hm b.1.2 (by omega) (by omega)
      rw [bz (by omega) (by omega), bz (by omega) (by omega), bz (by omega) (by omega), ur, show ((((bn B).length : Int) + 1, bC B) : Sys) = J8 B from rfl]
      unfold pileR
      rw [hlen]
      refine cD (onP day ids) (fun i => Th B ((onP day ids).take i) (((ids.length : Int) - 1) * b.1.1, ((ids.length : Int) - 1) * b.1.2)) _ rfl (fun i n hi hn kn => ?_) (fun kn => ?_)
      ·try dsimp only
       unfold qF
       have b1 := uF hr (dn B n) (dW B)
       have b2 := uF hr (dW B) (dn B n)
       have bs := VT hr ((onP day ids).take i) (((ids.length : Int) - 1) * b.1.1, ((ids.length : Int) - 1) * b.1.2) 10000000 (by dsimp only; omega) (by dsimp only; omega)
       have bl : (((onP day ids).take i).length : Int) ≤ 6 := by rw [List.length_take]; omega
       rw [bv hi, bp hn, rk hr, aW, take_succ hn, Rj]
       generalize Th B ((onP day ids).take i) (((ids.length : Int) - 1) * b.1.1, ((ids.length : Int) - 1) * b.1.2) = s at bs ⊢
       unfold ivR
       dsimp only
       rw [bz (by omega) (by omega), bz (by omega) (by omega), br hi (by omega)]
       rfl
      ·try dsimp only
       unfold qF
       rw [bU, List.take_length]
    ·have h2' : NL day = false := by simpa using h2
     rw [h2', bI (by rfl), if_pos (.inr (.inr rfl))]
   ·have h1' : lY ids = false := by simpa using h1
    rw [h1', bI (by rfl), if_pos (.inr (.inl rfl))]
 ·rw [bI (by simp [ine, hc]), if_pos hc]
theorem m9 {α : Type} (p : α → Bool) (l : List α) (i : Nat) : ((l.take i).filter p).length ≤ l.length := by
 have h1 := List.length_filter_le p (l.take i)
 rw [List.length_take] at h1
 omega
end Go.Proofs.ZzM
end
noncomputable section
namespace Go.Proofs.ZzM
open Go Go.Am
theorem Kw (x y : Int) (g : Bool) : ∀ m : List (Int × Bool), mJ (k := tI) (v := .bool) x (EU (k := tI) (v := .bool) y g m) = if x = y then some g else mJ (k := tI) (v := .bool) x m
 | [] => by
   unfold EU mJ i5 mJ
   by_cases h : x = y <;> simp [h]
 | e :: m => by
   unfold EU
   by_cases h : y = e.1
   ·have : i5 tI y e.1 = true := by simp [i5, h]
    rw [this]
    try dsimp only
    unfold mJ i5
    by_cases h2 : x = y
    ·simp [h2]
    ·have : ¬ x = e.1 := fun h3 => h2 (h3.trans h.symm)
     simp [h2, this]
   ·have : i5 tI y e.1 = false := by simp [i5, h]
    rw [this]
    try dsimp only
    have ih := Kw x y g m
    unfold mJ
    by_cases h2 : x = e.1
    ·have : i5 tI x e.1 = true := by simp [i5, h2]
     rw [this]
     have : ¬ x = y := fun h3 => h (h3.symm.trans h2)
     simp [this]
    ·have : i5 tI x e.1 = false := by simp [i5, h2]
     rw [this]
     exact ih
def IE (l : List Int) : List (Int × Bool) := l.foldl (fun m x => EU (k := tI) (v := .bool) x true m) []
theorem sL (l : List Int) (x : Int) : IE (l ++ [x]) = EU (k := tI) (v := .bool) x true (IE l) := by unfold IE; rw [List.foldl_append]; rfl
theorem Pf (x : Int) : ∀ (l : List Int) (m : List (Int × Bool)), mJ (k := tI) (v := .bool) x (l.foldl (fun m x => EU (k := tI) (v := .bool) x true m) m) = if l.contains x then some true else mJ (k := tI) (v := .bool) x m
 | [], m => by simp
 | y :: l, m => by
   rw [List.foldl_cons, Pf x l, Kw]
   by_cases h : x = y
   ·subst h; simp
   ·simp [h]
theorem Pd (l : List Int) (x : Int) : mJ (k := tI) (v := .bool) x (IE l) = if l.contains x then some true else none := Pf x l []
def yg (b : bH) (s : Int × Int) : List Int := if s.1 = 3 then (match b.2.2.2.2.1[s.2.toNat]? with | some c => c.2.2.1 ++ c.2.2.2.1 | none => []) else (match b.2.1[s.2.toNat]? with | some g => [g.1] | none => [])
def HZ (b : bH) (ss looks : List (Int × Int)) : List Int := ss.flatMap (yg b) ++ looks.map fun n => n.1
def AU (ss : List (Int × Int)) : List Int := (ss.filter fun s => s.1 == 3).map fun s => s.2
def xN (w : List Int) : Nat → List Cmp → List Cmp
 | _, [] => []
 | i, c :: t => if w.contains (i : Int) then c :: xN w (i + 1) t else xN w (i + 1) t
def cutP (b : bH) (ss looks : List (Int × Int)) : bH :=
 (b.1, b.2.1.filter fun g => (HZ b ss looks).contains g.1, b.2.2.1.filter fun u => (HZ b ss looks).contains u.1, b.2.2.2.1.filter fun l => (HZ b ss looks).contains l.1, xN (AU ss) 0 b.2.2.2.2.1, looks)
def aa5 (b : bH) (s : Int × Int) : Prop := ((s.1 = 1 ∨ s.1 = 2) ∧ 0 ≤ s.2 ∧ s.2 < b.2.1.length) ∨ (s.1 = 3 ∧ 0 ≤ s.2 ∧ s.2 < b.2.2.2.2.1.length)
theorem KU (w : List Int) (c : Cmp) : ∀ (l : List Cmp) (i : Nat), xN w i (l ++ [c]) = xN w i l ++ if w.contains ((i + l.length : Nat) : Int) then [c] else []
 | [], i => by simp only [List.nil_append, xN, List.length_nil, Nat.add_zero]
 | a :: l, i => by
   have e : ((i + 1 + l.length : Nat) : Int) = ((i + (l.length + 1) : Nat) : Int) := by congr 1; omega
   simp only [List.cons_append, xN, KU w c l (i + 1), List.length_cons, e]
   split <;> rfl
theorem Ht (w : List Int) : ∀ (l : List Cmp) (i : Nat), (xN w i l).length ≤ l.length
 | [], i => by simp [xN]
 | a :: l, i => by
   have := Ht w l (i + 1)
   simp only [xN]
   split <;> simp only [List.length_cons] <;> omega
theorem ug {ρ : Type} (x : Int) (l : List Int) (f : Bool → Option ρ) (g : Option ρ) : ED (k := tI) (v := .bool) x (IE l) f g = if l.contains x then f true else g := by
 unfold ED
 rw [Pd]
 by_cases h : l.contains x = true
 ·rw [if_pos h, if_pos h]
 ·rw [if_neg h, if_neg h]
section
variable {ρ : Type}
theorem cut_L3 (l : List (Int × Int)) (hl : l.length ≤ 1000) (ids : List Int) (K : List (Int × Int) → Option ρ) : bt (fun (v47 : (Val (.pair tI (.slice aY)))) kk50 => pA l (bE l) (IE ids) v47.1 v47.2 (fun u48 u49 => kk50 (u48, u49)) K) ((0 : Int), []) = K (l.filter fun u => ids.contains u.1) := by
 refine cD l (fun i => (l.take i).filter fun u => ids.contains u.1) _ rfl (fun i a hi ha kn => ?_) (fun kn => ?_)
 ·try dsimp only
  unfold pA
  have h1 := m9 (fun u : Int × Int => ids.contains u.1) l i
  rw [bv hi, bp ha, ug, take_succ ha, List.filter_append]
  by_cases h : ids.contains a.1 = true
  ·rw [if_pos h, ez, dA (bw (by simp only [List.length_singleton]; omega)), br hi (by omega)]
   simp only [List.filter_cons, List.filter_nil, h, if_pos]
  ·rw [if_neg h, br hi (by omega)]
   simp only [List.filter_cons, List.filter_nil, h, if_neg, Bool.false_eq_true, not_false_eq_true, List.append_nil]
 ·try dsimp only
  unfold pA
  rw [bU, List.take_length]
theorem cut_L4 (l : List Ix) (hl : l.length ≤ 1000) (ids : List Int) (K : List Ix → Option ρ) : bt (fun (v47 : (Val (.pair tI (.slice dr)))) kk50 => pz l (bE l) (IE ids) v47.1 v47.2 (fun u48 u49 => kk50 (u48, u49)) K) ((0 : Int), []) = K (l.filter fun u => ids.contains u.1) := by
 refine cD l (fun i => (l.take i).filter fun u => ids.contains u.1) _ rfl (fun i a hi ha kn => ?_) (fun kn => ?_)
 ·try dsimp only
  unfold pz
  have h1 := m9 (fun u : Ix => ids.contains u.1) l i
  rw [bv hi, bp ha, ug, take_succ ha, List.filter_append]
  by_cases h : ids.contains a.1 = true
  ·rw [if_pos h, ez, dA (bw (by simp only [List.length_singleton]; omega)), br hi (by omega)]
   simp only [List.filter_cons, List.filter_nil, h, if_pos]
  ·rw [if_neg h, br hi (by omega)]
   simp only [List.filter_cons, List.filter_nil, h, if_neg, Bool.false_eq_true, not_false_eq_true, List.append_nil]
 ·try dsimp only
  unfold pz
  rw [bU, List.take_length]
theorem cut_L5 (l : List Cmp) (hl : l.length ≤ 1000) (hp : ∀ c ∈ l, c.2.2.1.length ≤ 1000 ∧ c.2.2.2.1.length ≤ 1000) (w : List Int) (K : List Cmp → Option ρ) : bt (fun (v47 : (Val (.pair tI (.slice bm)))) kk50 => pw l (bE l) (IE w) v47.1 v47.2 (fun u48 u49 => kk50 (u48, u49)) K) ((0 : Int), []) = K (xN w 0 l) := by
 refine cD l (fun i => xN w 0 (l.take i)) _ rfl (fun i a hi ha kn => ?_) (fun kn => ?_)
 ·try dsimp only
  unfold pw
  have h1 := Ht w (l.take i) 0
  have h2 := hp a (List.mem_of_getElem? ha)
  have e : (l.take i).length = i := by rw [List.length_take]; omega
  rw [bv hi, bp ha, ug, take_succ ha, KU, e, Nat.zero_add]
  by_cases h : w.contains (i : Int) = true
  ·rw [if_pos h, if_pos h, ez, dA (bw (by omega)), dA (bw (by omega)), dA (bw (by simp only [List.length_singleton]; omega)), br hi (by omega)]
  ·rw [if_neg h, if_neg h, br hi (by omega)]
   simp only [List.append_nil]
 ·try dsimp only
  unfold pw
  rw [bU, List.take_length]
theorem cut_L2 (looks : List (Int × Int)) (hl : looks.length ≤ 1000) (ids : List Int) (K : List (Int × Bool) → Option ρ) : bt (fun (v51 : (Val (.pair tI (.map tI .bool)))) kk54 => pB looks (bE looks) v51.1 v51.2 (fun u52 u53 => kk54 (u52, u53)) K) ((0 : Int), IE ids) = K (IE (ids ++ looks.map fun n => n.1)) := by
 refine cD looks (fun i => IE (ids ++ (looks.take i).map fun n => n.1)) _ (by simp) (fun i a hi ha kn => ?_) (fun kn => ?_)
 ·try dsimp only
  unfold pB
  rw [bv hi, bp ha, br hi (by omega), take_succ ha, List.map_append, ← List.append_assoc, List.map_singleton, sL]
 ·try dsimp only
  unfold pB
  rw [bU, List.take_length]
theorem cut_L1 (xs : List Int) (hl : xs.length ≤ 10000) (ids : List Int) (K : List (Int × Bool) → Option ρ) : bt (fun (v13 : (Val (.pair tI (.map tI .bool)))) kk16 => pC xs (bE xs) v13.1 v13.2 (fun u14 u15 => kk16 (u14, u15)) K) ((0 : Int), IE ids) = K (IE (ids ++ xs)) := by
 refine cD xs (fun i => IE (ids ++ xs.take i)) _ (by simp) (fun i a hi ha kn => ?_) (fun kn => ?_)
 ·try dsimp only
  unfold pC
  rw [bv hi, bp ha, br hi (by omega), take_succ ha, ← List.append_assoc, sL]
 ·try dsimp only
  unfold pC
  rw [bU, List.take_length]
end
theorem kv {ρ α : Type} {l : List α} {i : Int} (h0 : 0 ≤ i) {a : α} (h : l[i.toNat]? = some a) (f : α → Option ρ) : dI l i f = f a := by
 obtain ⟨n, rfl⟩ := Int.eq_ofNat_of_zero_le h0
 exact bp (by simpa using h) f
theorem cut_ok {b : bH} (hs : jM b) {ss looks : List (Int × Int)} (h1 : ss.length ≤ 1000) (h2 : looks.length ≤ 1000) (hv : ∀ s ∈ ss, aa5 b s) : HN b ss looks = some (cutP b ss looks) := by
 have g1 := hs.gauges; have g2 := hs.uses; have g3 := hs.loans; have g4 := hs.compares; have g5 := hs.looks
 unfold HN WE ze
 refine cD ss (fun i => (IE ((ss.take i).flatMap (yg b)), IE (AU (ss.take i)))) _ rfl (fun i s hi ha kn => ?_) (fun kn => ?_)
 ·try dsimp only
  unfold vd
  have hok := hv s (List.mem_of_getElem? ha)
  rw [bv hi, bp ha, take_succ ha, List.flatMap_append]
  have e3 : AU (ss.take i ++ [s]) = AU (ss.take i) ++ if s.1 = 3 then [s.2] else [] := by
   unfold AU
   rw [List.filter_append, List.map_append]
   congr 1
   by_cases h : s.1 = 3 <;> simp [h]
  rw [e3]
  rcases hok with ⟨hk, h0, h3⟩ | ⟨hk, h0, h3⟩
  ·have hg : b.2.1[s.2.toNat]? = some b.2.1[s.2.toNat] := List.getElem?_eq_getElem (by omega)
   generalize b.2.1[s.2.toNat] = g at hg
   have e1 : yg b s = [g.1] := by
    unfold yg
    rw [if_neg (by omega), hg]
   have e2 : List.flatMap (yg b) [s] = [g.1] := by simp [e1]
   rw [bu (decide_eq_false (by omega)), if_neg (by omega), List.append_nil, e2, sL]
   rcases hk with hk | hk
   ·rw [bI (decide_eq_true hk), kv h0 hg, br hi (by omega)]
   ·rw [bu (decide_eq_false (by omega)), bI (decide_eq_true hk), kv h0 hg, br hi (by omega)]
  ·have hc : b.2.2.2.2.1[s.2.toNat]? = some b.2.2.2.2.1[s.2.toNat] := List.getElem?_eq_getElem (by omega)
   have hp := hs.piles b.2.2.2.2.1[s.2.toNat] (List.getElem_mem _)
   generalize b.2.2.2.2.1[s.2.toNat] = c at hc hp
   have e1 : yg b s = c.2.2.1 ++ c.2.2.2.1 := by
    unfold yg
    rw [if_pos hk, hc]
   have e2 : List.flatMap (yg b) [s] = c.2.2.1 ++ c.2.2.2.1 := by simp [e1]
   rw [bu (decide_eq_false (by omega)), bu (decide_eq_false (by omega)), bu (decide_eq_false (by omega)), dA (decide_eq_true hk), if_pos hk, e2, kv h0 hc, kv h0 hc, mC (by simp) (by simp; omega), aW]
   rw [show ([c.2.2.1, c.2.2.2.1] : List (List Int)).flatten = c.2.2.1 ++ c.2.2.2.1 by simp]
   refine (cut_L1 (c.2.2.1 ++ c.2.2.2.1) (by simp; omega) _ _).trans ?_
   rw [sL, br hi (by omega)]
 ·try dsimp only
  unfold vd
  rw [bU]
  dsimp only
  rw [List.take_length]
  refine (cut_L2 looks h2 _ _).trans ?_
  rw [show (ss.flatMap (yg b) ++ looks.map fun n => n.1) = HZ b ss looks from rfl]
  unfold vl
  try dsimp only
  rw [dA (bw (by omega)), aW]
  have ek : (List.filter (fun g => (mJ (k := tI) (v := .bool) g.1 (IE (HZ b ss looks))).getD false) b.2.1) = b.2.1.filter fun g => (HZ b ss looks).contains g.1 := by
   refine List.filter_congr fun g _ => ?_
   rw [Pd]
   cases (HZ b ss looks).contains g.1 <;> rfl
  rw [ek]
  unfold la
  dsimp only
  refine (cut_L3 b.2.2.1 g2 _ _).trans ?_
  refine (cut_L4 b.2.2.2.1 g3 _ _).trans ?_
  refine (cut_L5 b.2.2.2.2.1 g4 hs.piles _ _).trans ?_
  rfl
end Go.Proofs.ZzM
end
noncomputable section
namespace Go.Proofs.ZzM
open Go Go.Am
theorem V3 {α : Type} [DecidableEq α] {l m : List α} (hl : l.length = m.length) (h : fk (fun i a => if m[i]? = some a then none else some false) 0 l = none) : l = m := by
 have := kw.1 h
 refine List.ext_getElem hl fun i h1 h2 => ?_
 have h3 := this i l[i] (List.getElem?_eq_getElem h1)
 rw [Nat.zero_add] at h3
 split at h3
 ·rename_i h4
  rw [List.getElem?_eq_getElem h2] at h4
  exact (Option.some.inj h4).symm
 ·cases h3
theorem V2 {α : Type} [DecidableEq α] {l m : List α} {b : Bool} (h : fk (fun i a => if m[i]? = some a then none else some false) 0 l = some b) : b = false ∧ l ≠ m := by
 constructor
 ·have : ∀ (k : Nat) (x : List α) (b : Bool), fk (fun i a => if m[i]? = some a then none else some false) k x = some b → b = false := by
   intro k x
   induction x generalizing k with
   | nil => intro b h; cases h
   | cons a t ih =>
     intro b h
     unfold fk at h
     split at h
     ·rename_i c hc
      split at hc
      ·cases hc
      ·cases hc; cases h; rfl
     ·exact ih _ _ h
  exact this _ _ _ h
 ·intro e
  subst e
  rw [kw.2 fun j a ha => by rw [Nat.zero_add, if_pos ha]] at h
  cases h
end Go.Proofs.ZzM
end
noncomputable section
namespace Go.Proofs.ZzM
open Go Go.Am
instance dec1 : DecidableEq ((Int × Int) × Int) := fun a b => instDecidableEqProd a b
instance dec2 : DecidableEq ((Int × Int) × ((Int × Int) × Int)) := fun a b => instDecidableEqProd a b
instance dec3 : DecidableEq (Int × (Int × Int) × ((Int × Int) × Int)) := fun a b => instDecidableEqProd a b
instance dec4 : DecidableEq (Int × Int × (Int × Int) × ((Int × Int) × Int)) := fun a b => instDecidableEqProd a b
instance decG : DecidableEq b9 := fun a b => instDecidableEqProd a b
instance decL : DecidableEq Ix := fun a b => instDecidableEqProd a b
instance decI4 : DecidableEq (Int × (Int × (Int × Int))) := fun a b => instDecidableEqProd a b
instance decI5 : DecidableEq (List Int × Int × (Int × (Int × Int))) := fun a b => instDecidableEqProd a b
instance decI6 : DecidableEq (List Int × List Int × Int × (Int × (Int × Int))) := fun a b => instDecidableEqProd a b
instance decI7 : DecidableEq (Int × List Int × List Int × Int × (Int × (Int × Int))) := fun a b => instDecidableEqProd a b
instance decC : DecidableEq Cmp := fun a b => instDecidableEqProd a b
def LZ {α : Type} [DecidableEq α] (x : α) (l : List α) : Bool := l.any fun a => decide (x = a)
theorem TE {α : Type} [DecidableEq α] {x : α} {l : List α} : LZ x l = true ↔ x ∈ l := by
 unfold LZ
 rw [List.any_eq_true]
 exact ⟨fun ⟨a, h1, h2⟩ => by rw [of_decide_eq_true h2]; exact h1, fun h => ⟨x, h, decide_eq_true rfl⟩⟩
theorem RH {α : Type} [DecidableEq α] (l : List α) (x : α) : ige (match l.findIdx? (fun a => decide (x = a)) with | some j => (j : Int) | none => -1) 0 = LZ x l := by
 cases h : l.findIdx? (fun a => decide (x = a)) with
 | none =>
   have : LZ x l = false := by
    cases hm : LZ x l with
    | false => rfl
    | true => have := List.findIdx?_eq_none_iff.1 h x (TE.1 hm); simp at this
   rw [this]
   rfl
 | some j =>
   obtain ⟨hj, hp, _⟩ := List.findIdx?_eq_some_iff_getElem.1 h
   have : x ∈ l := by rw [of_decide_eq_true hp]; exact List.getElem_mem _
   rw [TE.2 this]
   exact decide_eq_true (by dsimp only; omega)
theorem Wz {ρ : Type} (o : Option Nat) (f : Int → Option ρ) : (match o with | some j => f (j : Int) | none => f (-1)) = f (match o with | some j => (j : Int) | none => -1) := by cases o <;> rfl
theorem Q6 {l : List (Int × Int)} (hl : l.length ≤ 1000000) (x : Int × Int) : cG l x = some (LZ x l) := by
 unfold cG ew fH fE
 have e : bt (fun (v5 : Int) kk7 => cB l (bE l) x.1 x.2 v5 (fun u6 => kk7 u6) (fun z3 => some z3) (fun _ => some (-1 : Int))) (0 : Int) = some (match l.findIdx? (fun a => decide (x = a)) with | some j => (j : Int) | none => -1) := by
  refine (hO l (fun a => decide (x = a)) (fun z => some z) (some (-1)) (fun i a hi ha kn => ?_) (fun kn => ?_)).trans (Wz _ some)
  ·try dsimp only
   unfold cB
   have e : ((ff x.1 a.1) && ((ff x.2 a.2) && true)) = decide (x = a) := by
    rw [Bool.eq_iff_iff]; simp [ff, Prod.ext_iff]
   rw [bv hi, bp ha, br hi (by omega), dp, e]
  ·try dsimp only
   unfold cB
   rw [bU]
 rw [e, aW]
 exact congrArg some (RH l x)
theorem N7 {l : List Ix} (hl : l.length ≤ 1000000) (x : Ix) : cn l x = some (LZ x l) := by
 unfold cn dR eY eW
 have e : bt (fun (v5 : Int) kk7 => cm l (bE l) x.1 x.2.1.1 x.2.1.2 x.2.2 v5 (fun u6 => kk7 u6) (fun z3 => some z3) (fun _ => some (-1 : Int))) (0 : Int) = some (match l.findIdx? (fun a => decide (x = a)) with | some j => (j : Int) | none => -1) := by
  refine (hO l (fun a => decide (x = a)) (fun z => some z) (some (-1)) (fun i a hi ha kn => ?_) (fun kn => ?_)).trans (Wz _ some)
  ·try dsimp only
   unfold cm
   have e : ((ff x.1 a.1) && ((ff x.2.1.1 a.2.1.1) && ((ff x.2.1.2 a.2.1.2) && ((ff x.2.2 a.2.2) && true)))) = decide (x = a) := by
    rw [Bool.eq_iff_iff]; simp [ff, Prod.ext_iff, and_assoc]
   rw [bv hi, bp ha, br hi (by omega), dp, e]
  ·try dsimp only
   unfold cm
   rw [bU]
 rw [e, aW]
 exact congrArg some (RH l x)
theorem Q7 {l : List b9} (hl : l.length ≤ 1000000) (x : b9) : cN l x = some (LZ x l) := by
 unfold cN dF eo ej
 have e : bt (fun (v5 : Int) kk7 => cf l (bE l) x.1 x.2.1 x.2.2.1 x.2.2.2.1.1 x.2.2.2.1.2 x.2.2.2.2.1.1 x.2.2.2.2.1.2 x.2.2.2.2.2 v5 (fun u6 => kk7 u6) (fun z3 => some z3) (fun _ => some (-1 : Int))) (0 : Int) = some (match l.findIdx? (fun a => decide (x = a)) with | some j => (j : Int) | none => -1) := by
  refine (hO l (fun a => decide (x = a)) (fun z => some z) (some (-1)) (fun i a hi ha kn => ?_) (fun kn => ?_)).trans (Wz _ some)
  ·try dsimp only
   unfold cf
   have e : ((ff x.1 a.1) && ((ff x.2.1 a.2.1) && ((ff x.2.2.1 a.2.2.1) && ((ff x.2.2.2.1.1 a.2.2.2.1.1) && ((ff x.2.2.2.1.2 a.2.2.2.1.2) && ((ff x.2.2.2.2.1.1 a.2.2.2.2.1.1) && ((ff x.2.2.2.2.1.2 a.2.2.2.2.1.2) && ((ff x.2.2.2.2.2 a.2.2.2.2.2) && true)))))))) = decide (x = a) := by
    rw [Bool.eq_iff_iff]; simp [ff, Prod.ext_iff, and_assoc]
   rw [bv hi, bp ha, br hi (by omega), dp, e]
  ·try dsimp only
   unfold cf
   rw [bU]
 rw [e, aW]
 exact congrArg some (RH l x)
def W8 (b : bH) : List Int := b.2.1.map fun g => g.1
def jZ {α : Type} [DecidableEq α] (x y : List α) (w : α → Bool) : Bool := x.all fun a => !w a || LZ a y
def YL (s b : bH) : Bool :=
 jZ s.2.2.2.2.1 b.2.2.2.2.1 (fun _ => true) && (decide (s.1 = b.1) && (jZ s.2.1 b.2.1 (fun _ => true) && (jZ s.2.2.1 b.2.2.1 (fun u => (W8 s).contains u.1) && (jZ b.2.2.1 s.2.2.1 (fun u => (W8 s).contains u.1) &&
  (jZ s.2.2.2.1 b.2.2.2.1 (fun u => (W8 s).contains u.1) && jZ b.2.2.2.1 s.2.2.2.1 (fun u => (W8 s).contains u.1))))))
section
variable {ρ : Type}
theorem CQ {α : Type} [DecidableEq α] (x y : List α) (w : α → Bool) (X Y KF : Option ρ) {f : Int → (Int → Option ρ) → Option ρ}
 (h : ∀ (i : Nat) (a : α), i < x.length → x[i]? = some a → ∀ kn, f i kn = if !(!w a || LZ a y) then (ifb (!(ige (i : Int) 0)) X KF) else kn ((i : Int) + 1))
 (hn : ∀ kn, f x.length kn = Y) : bt f 0 = if jZ x y w then Y else KF := by
 refine (ip x (fun a => !(!w a || LZ a y)) (fun z => ifb (!(ige z 0)) X KF) KF Y (fun j => by rw [show ige (j : Int) 0 = true from decide_eq_true (by omega)]; rfl) h hn).trans ?_
 unfold jZ
 rw [List.all_eq_not_any_not]
 cases x.any fun a => !(!w a || LZ a y) <;> rfl
theorem aax : @qy ρ = @km ρ := rfl
theorem KQ {x y : List Int} (hl : x.length = y.length) (hx : x.length ≤ 1000000) (k0 : Bool → Option ρ) (K : Option ρ) :
 bt (fun (v30 : Int) kk32 => km x y (bE x) v30 (fun u31 => kk32 u31) k0 (fun _ => K)) (0 : Int) = if x = y then K else k0 false := by
 refine (pQ x (fun i a => if y[i]? = some a then none else some false) k0 K (fun i a hi ha kn => ?_) (fun kn => ?_)).trans ?_
 ·try dsimp only
  unfold km
  have hm : y[i]? = some y[i] := List.getElem?_eq_getElem (by omega)
  rw [bv hi, bp ha, bp hm, br hi (by omega), hm, dp]
  by_cases h : a = y[i]
  ·simp [ine, h]
  ·have h' : ¬ y[i] = a := fun e => h e.symm
   simp [ine, h, h']
 ·try dsimp only
  unfold km
  rw [bU]
 ·cases h : fk (fun i a => if y[i]? = some a then none else some false) 0 x with
  | none => rw [if_pos (V3 hl h)]
  | some b =>
    obtain ⟨h1, h2⟩ := V2 h
    rw [if_neg h2, h1]
theorem V4 {l : List Cmp} (hl : l.length ≤ 1000) (c : Cmp) (hA : c.2.2.1.length ≤ 1000) (hB : c.2.2.2.1.length ≤ 1000) (k0 : Int → Option ρ) (K1 KF : Option ρ) (hk : ∀ j : Nat, k0 (j : Int) = K1) :
 bt (fun (v41 : Int) kk43 => mT l (bE l) c.1 c.2.1 c.2.2.1 c.2.2.2.1 c.2.2.2.2.1 c.2.2.2.2.2.1 c.2.2.2.2.2.2.1 c.2.2.2.2.2.2.2 v41 (fun u42 => kk43 u42) k0 (fun _ => KF)) (0 : Int) = if LZ c l then K1 else KF := by
 refine (ip l (fun d => decide (c = d)) k0 K1 KF hk (fun i d hi hd kn => ?_) (fun kn => ?_)).trans rfl
 ·try dsimp only
  unfold mT
  have hsplit : (c = d) ↔ (c.1 = d.1 ∧ c.2.1 = d.2.1 ∧ c.2.2.2.2.1 = d.2.2.2.2.1 ∧ c.2.2.2.2.2.1 = d.2.2.2.2.2.1 ∧ (c.2.2.2.2.2.2.1 = d.2.2.2.2.2.2.1 ∧ c.2.2.2.2.2.2.2 = d.2.2.2.2.2.2.2) ∧ c.2.2.1 = d.2.2.1 ∧ c.2.2.2.1 = d.2.2.2.1) := by
   simp only [Prod.ext_iff]
   constructor
   ·rintro ⟨a1, a2, a3, a4, a5, a6, a7, a8⟩; exact ⟨a1, a2, a5, a6, ⟨a7, a8⟩, a3, a4⟩
   ·rintro ⟨a1, a2, a5, a6, ⟨a7, a8⟩, a3, a4⟩; exact ⟨a1, a2, a3, a4, a5, a6, a7, a8⟩
  have hno : ∀ {P : Prop}, ¬ P → (c = d → P) → (if decide (c = d) = true then k0 (i : Int) else kn ((i : Int) + 1)) = kn ((i : Int) + 1) := fun h1 h2 => by
   rw [if_neg]
   intro h
   exact h1 (h2 (of_decide_eq_true h))
  rw [bv hi, bp hd, br hi (by omega)]
  by_cases a1 : c.1 = d.1
  case neg => rw [hno a1 (fun e => (hsplit.1 e).1), bu (beq_eq_false_iff_ne.2 a1)]
  rw [bI (beq_iff_eq.2 a1)]
  by_cases a2 : c.2.1 = d.2.1
  case neg => rw [hno a2 (fun e => (hsplit.1 e).2.1), bu (beq_eq_false_iff_ne.2 a2)]
  rw [bI (beq_iff_eq.2 a2)]
  by_cases a3 : c.2.2.2.2.1 = d.2.2.2.2.1
  case neg => rw [hno a3 (fun e => (hsplit.1 e).2.2.1), bu (beq_eq_false_iff_ne.2 a3)]
  rw [bI (beq_iff_eq.2 a3)]
  by_cases a4 : c.2.2.2.2.2.1 = d.2.2.2.2.2.1
  case neg => rw [hno a4 (fun e => (hsplit.1 e).2.2.2.1), bu (beq_eq_false_iff_ne.2 a4)]
  rw [bI (beq_iff_eq.2 a4)]
  by_cases a5 : c.2.2.2.2.2.2.1 = d.2.2.2.2.2.2.1 ∧ c.2.2.2.2.2.2.2 = d.2.2.2.2.2.2.2
  case neg => rw [hno a5 (fun e => (hsplit.1 e).2.2.2.2.1), bu (by simp only [ff, Bool.and_true, Bool.and_eq_false_iff, decide_eq_false_iff_not]; exact Decidable.not_and_iff_or_not.1 a5)]
  rw [bI (by simp [ff, a5.1, a5.2]), b8, b8, b8, b8]
  have rest : ∀ X Y : Option ρ, (c.2.2.1 = d.2.2.1) → (if decide (c = d) = true then k0 (i : Int) else kn ((i : Int) + 1)) = (if c.2.2.2.1 = d.2.2.2.1 then k0 (i : Int) else kn ((i : Int) + 1)) := by
   intro _ _ h
   by_cases g : c.2.2.2.1 = d.2.2.2.1
   ·rw [if_pos (decide_eq_true (hsplit.2 ⟨a1, a2, a3, a4, a5, h, g⟩)), if_pos g]
   ·rw [if_neg g]; exact hno g (fun e => (hsplit.1 e).2.2.2.2.2.2)
  by_cases l1 : c.2.2.1.length = d.2.2.1.length
  case neg =>
   rw [hno l1 (fun e => by rw [e]), bI (bne_iff_ne.2 (by omega))]
  rw [bu (by rw [l1]; exact bne_self_eq_false' _)]
  have e3 := KQ (ρ := ρ) l1 (by omega)
  rw [b8] at e3
  rw [e3]
  by_cases g1 : c.2.2.1 = d.2.2.1
  case neg => rw [if_neg g1, bX, hno g1 (fun e => (hsplit.1 e).2.2.2.2.2.1)]
  rw [if_pos g1, rest none none g1]
  by_cases l2 : c.2.2.2.1.length = d.2.2.2.1.length
  case neg =>
   rw [bI (bne_iff_ne.2 (by omega)), if_neg (fun e => l2 (by rw [e]))]
  rw [bu (by rw [l2]; exact bne_self_eq_false' _), aax]
  have e4 := KQ (ρ := ρ) l2 (by omega)
  rw [b8] at e4
  rw [e4, bX]
 ·try dsimp only
  unfold mT
  rw [bU]
theorem aaw : @kj ρ = @iY ρ := rfl
theorem aav : @cz ρ = @du ρ := rfl
theorem abc {x y : List b9} (hx : x.length ≤ 1000) (hy : y.length ≤ 1000) (X Y KF : Option ρ) : bt (fun (v225 : Int) kk227 => mS x (bE x) y v225 (fun u226 => kk227 u226) (fun z => ifb (!(ige z 0)) X KF) (fun _ => Y)) (0 : Int) = if jZ x y (fun _ => true) then Y else KF := by
 refine CQ x y (fun _ => true) X Y KF (fun i a hi ha kn => ?_) (fun kn => ?_)
 ·try dsimp only
  unfold mS
  rw [bv hi, bp ha, Q7 (by omega), aW, br hi (by omega), dp]
  simp
 ·try dsimp only
  unfold mS
  rw [bU]
theorem Yf {x y : List (Int × Int)} (hx : x.length ≤ 1000) (hy : y.length ≤ 1000) (ids : List Int) (X Y KF : Option ρ) : bt (fun (v225 : Int) kk227 => iY x (bE x) (IE ids) y v225 (fun u226 => kk227 u226) (fun z => ifb (!(ige z 0)) X KF) (fun _ => Y)) (0 : Int) = if jZ x y (fun u => ids.contains u.1) then Y else KF := by
 refine CQ x y (fun u => ids.contains u.1) X Y KF (fun i a hi ha kn => ?_) (fun kn => ?_)
 ·try dsimp only
  unfold iY
  rw [bv hi, bp ha, ug, Q6 (by omega), aW]
  by_cases h : ids.contains a.1 = true
  ·rw [if_pos h, ez, br hi (by omega), dp, h]
   simp
  ·rw [if_neg h, br hi (by omega)]
   have h' := Bool.not_eq_true _ ▸ h
   rw [h']
   simp
 ·try dsimp only
  unfold iY
  rw [bU]
theorem Ye {x y : List Ix} (hx : x.length ≤ 1000) (hy : y.length ≤ 1000) (ids : List Int) (X Y KF : Option ρ) : bt (fun (v225 : Int) kk227 => du x (bE x) (IE ids) y v225 (fun u226 => kk227 u226) (fun z => ifb (!(ige z 0)) X KF) (fun _ => Y)) (0 : Int) = if jZ x y (fun u => ids.contains u.1) then Y else KF := by
 refine CQ x y (fun u => ids.contains u.1) X Y KF (fun i a hi ha kn => ?_) (fun kn => ?_)
 ·try dsimp only
  unfold du
  rw [bv hi, bp ha, ug, N7 (by omega), aW]
  by_cases h : ids.contains a.1 = true
  ·rw [if_pos h, ez, br hi (by omega), dp, h]
   simp
  ·rw [if_neg h, br hi (by omega)]
   have h' := Bool.not_eq_true _ ▸ h
   rw [h']
   simp
 ·try dsimp only
  unfold du
  rw [bU]
theorem abb {x y : List Ix} (hx : x.length ≤ 1000) (hy : y.length ≤ 1000) (ids : List Int) (k : Bool → Option ρ) : bt (fun (v225 : Int) kk227 => du x (bE x) (IE ids) y v225 (fun u226 => kk227 u226) (fun z => k (!(ige z 0))) (fun _ => k true)) (0 : Int) = k (jZ x y (fun u => ids.contains u.1)) := by
 have h := Ye (ρ := ρ) hx hy ids (k true) (k true) (k false)
 have e : (fun z : Int => ifb (!(ige z 0)) (k true) (k false)) = fun z => k (!(ige z 0)) := by
  funext z
  cases (!(ige z 0)) <;> rfl
 rw [e] at h
 rw [h]
 cases jZ x y (fun u => ids.contains u.1) <;> rfl
theorem abd {x y : List Cmp} (hx : x.length ≤ 1000) (hp : ∀ c ∈ x, c.2.2.1.length ≤ 1000 ∧ c.2.2.2.1.length ≤ 1000) (hy : y.length ≤ 1000) (K : Option Bool) : bt (fun (v228 : Int) kk230 => mU x (bE x) y v228 (fun u229 => kk230 u229) (fun z44 => some z44) (fun _ => K)) (0 : Int) = if (x.all fun c => LZ c y) = true then K else some false := by
 refine (ip x (fun c => !LZ c y) (fun _ => some false) (some false) K (fun _ => rfl) (fun i c hi hc kn => ?_) (fun kn => ?_)).trans ?_
 rotate_left
 ·try dsimp only
  unfold mU
  rw [bU]
 ·rw [List.all_eq_not_any_not]
  cases x.any fun c => !LZ c y <;> rfl
 ·try dsimp only
  unfold mU
  have h := hp c (List.mem_of_getElem? hc)
  rw [bv hi, bp hc]
  refine (V4 hy c h.1 h.2 _ (kn ((i : Int) + 1)) (some false) (fun j => by rw [show ige (j : Int) 0 = true from decide_eq_true (by omega), br hi (by omega)]; rfl)).trans ?_
  cases LZ c y <;> rfl
end
theorem part_ok {s b : bH} (hs : jM s) (hb : jM b) : AD s b = some (YL s b) := by
 have g1 := hs.gauges; have g2 := hs.uses; have g3 := hs.loans; have g4 := hs.compares
 have b1 := hb.gauges; have b2 := hb.uses; have b3 := hb.loans; have b4 := hb.compares
 unfold AD Mh YL
 rw [aaw, aav]
 refine (cD s.2.1 (fun i => IE (W8 (s.1, s.2.1.take i, s.2.2))) (some _) rfl (fun i g hi hg kn => ?_) (fun kn => ?_))
 ·try dsimp only
  unfold qz
  rw [bv hi, bp hg, br hi (by omega)]
  unfold W8
  dsimp only
  rw [take_succ hg, List.map_append, List.map_singleton, sL]
 ·try dsimp only
  unfold qz
  rw [bU, List.take_length]
  try dsimp only
  rw [show W8 (s.1, s.2.1, s.2.2) = W8 s from rfl]
  refine (abd g4 hs.piles b4 _).trans ?_
  rw [show (jZ s.2.2.2.2.1 b.2.2.2.2.1 fun _ => true) = s.2.2.2.2.1.all fun c => LZ c b.2.2.2.2.1 from rfl]
  by_cases hc : (s.2.2.2.2.1.all fun c => LZ c b.2.2.2.2.1) = true
  case neg => rw [if_neg hc, Bool.eq_false_iff.2 hc]; rfl
  rw [if_pos hc, hc, Bool.true_and]
  by_cases hf : s.1 = b.1
  case neg =>
   have ef : (ff s.1.1 b.1.1 && (ff s.1.2 b.1.2 && true)) = false := by
    rw [Prod.ext_iff] at hf
    simp [ff]
    omega
   rw [ef, bX, decide_eq_false hf]
   rfl
  have ef : (ff s.1.1 b.1.1 && (ff s.1.2 b.1.2 && true)) = true := by simp [ff, hf]
  rw [ef, ez, decide_eq_true hf, Bool.true_and]
  refine (abc g1 b1 _ _ _).trans ?_
  cases jZ s.2.1 b.2.1 fun _ => true
  case false => rfl
  rw [if_pos rfl, Bool.true_and]
  refine (Yf g2 b2 _ _ _ _).trans ?_
  cases jZ s.2.2.1 b.2.2.1 fun u => (W8 s).contains u.1
  case false => rfl
  rw [if_pos rfl, Bool.true_and]
  refine (Yf b2 g2 _ _ _ _).trans ?_
  cases jZ b.2.2.1 s.2.2.1 fun u => (W8 s).contains u.1
  case false => rfl
  rw [if_pos rfl, Bool.true_and]
  refine (Ye g3 b3 _ _ _ _).trans ?_
  cases jZ s.2.2.2.1 b.2.2.2.1 fun u => (W8 s).contains u.1
  case false => rfl
  rw [if_pos rfl, Bool.true_and]
  exact abb b3 g3 _ some
end Go.Proofs.ZzM
end
noncomputable section
namespace Go.Proofs.ZzM
open Go Go.Am
def sm (x : List Int) (y : List Int) (l : Lk) : List Int := if gv x l.2.1 = gc then y else y.set l.1.toNat (min (gv y l.1) (l.2.2 + gv x l.2.1))
def QI (L : List Lk) (N : Nat) (x : List Int) : List Int := L.foldl (sm x) (List.replicate N gc)
def exL (L : List Lk) (N : Nat) (to : Int) : Nat → List Int
 | 0 => (List.replicate N gc).set to.toNat 0
 | k + 1 => QI L N (exL L N to k)
def lT (L : List Lk) (N : Nat) (to : Int) (most : Nat) : List (List Int) := (List.range (most + 1)).map (exL L N to)
section
variable {L : List Lk} {N : Nat}
theorem Lc (x y : List Int) (l : Lk) : (sm x y l).length = y.length := by unfold sm; split <;> simp
theorem CA (x : List Int) : ∀ (M : List Lk) (y : List Int), (M.foldl (sm x) y).length = y.length
 | [], y => rfl
 | l :: M, y => by rw [List.foldl_cons, CA x M, Lc]
theorem U6 (x : List Int) : (QI L N x).length = N := by unfold QI; rw [CA]; simp
theorem Sy (to : Int) (k : Nat) : (exL L N to k).length = N := by
 cases k with
 | zero => simp [exL]
 | succ k => exact U6 _
def Lim (B : Int) (x : List Int) : Prop := ∀ v : Int, gv x v ≠ gc → -B ≤ gv x v ∧ gv x v ≤ B
theorem gv_out {x : List Int} {v : Int} (h : ¬ v.toNat < x.length) : gv x v = 0 := by
 unfold gv
 rw [List.getElem?_eq_none (by omega)]
 rfl
theorem WX {B : Int} (hB : 0 ≤ B) : Lim B (List.replicate N gc) := by
 intro v hv
 by_cases h : v.toNat < N
 ·exfalso; apply hv
  unfold gv
  rw [List.getElem?_replicate, if_pos h]
  rfl
 ·rw [gv_out (by simpa using h)]; omega
theorem WW {B : Int} {y : List Int} (hy : Lim B y) {u : Int} (hu : 0 ≤ u) (hl : u.toNat < y.length) {a : Int} (ha : a ≠ gc → -B ≤ a ∧ a ≤ B) : Lim B (y.set u.toNat a) := by
 intro v hv
 by_cases h : v.toNat = u.toNat
 ·have : gv (y.set u.toNat a) v = a := by
   unfold gv
   rw [h, List.getElem?_set_self hl]
   rfl
  rw [this] at hv ⊢
  exact ha hv
 ·have : gv (y.set u.toNat a) v = gv y v := by
   unfold gv
   rw [List.getElem?_set_ne (fun e => h e.symm)]
  rw [this] at hv ⊢
  exact hy v hv
theorem YZ (hS : gP L N) {B : Int} (hB : 0 ≤ B) (hB2 : B ≤ 1000000000000000000) {x y : List Int} (hx : Lim B x) (hy : Lim (B + 4503599627370496) y) (hl : y.length = N) {l : Lk} (hm : l ∈ L) : Lim (B + 4503599627370496) (sm x y l) := by
 unfold sm
 split
 ·exact hy
 ·rename_i hf
  have h1 := hS.inr l hm
  have h2 := hS.most l hm
  have h3 := hx _ hf
  refine WW hy h1.1.1 (by omega) fun ha => ?_
  by_cases h4 : gv y l.1 = gc
  ·rw [h4] at ha ⊢
   have : min gc (l.2.2 + gv x l.2.1) = l.2.2 + gv x l.2.1 := by unfold gc; omega
   rw [this]; omega
  ·have := hy _ h4
   omega
theorem TJ (hS : gP L N) {B : Int} (hB : 0 ≤ B) (hB2 : B ≤ 1000000000000000000) {x : List Int} (hx : Lim B x) : ∀ (M : List Lk), (∀ l ∈ M, l ∈ L) → ∀ y : List Int, y.length = N → Lim (B + 4503599627370496) y → Lim (B + 4503599627370496) (M.foldl (sm x) y)
 | [], _, y, _, hy => hy
 | l :: M, hM, y, hl, hy => by
   rw [List.foldl_cons]
   exact TJ hS hB hB2 hx M (fun m hm => hM m (by simp [hm])) _ (by rw [Lc, hl]) (YZ hS hB hB2 hx hy hl (hM l (by simp)))
theorem Sn (hS : gP L N) {to : Int} (ht : 0 ≤ to ∧ to < N) : ∀ k : Nat, k ≤ 200 → Lim (k * 4503599627370496) (exL L N to k)
 | 0, _ => by
   unfold exL
   exact WW (WX (by omega)) ht.1 (by simp; omega) (fun _ => by omega)
 | k + 1, hk => by
   have := TJ hS (B := k * 4503599627370496) (by omega) (by omega) (Sn hS ht k (by omega)) L (fun _ h => h) (List.replicate N gc) (by simp) (WX (by omega))
   unfold exL QI
   have e : (((k + 1 : Nat) : Int) * 4503599627370496) = (k : Int) * 4503599627370496 + 4503599627370496 := by push_cast; omega
   rw [e]
   exact this
theorem QF {ρ : Type} (hN : N ≤ 1000) (K : List Int → Option ρ) {f : Int × List Int → (Int × List Int → Option ρ) → Option ρ}
 (hf : ∀ (v : Int × List Int) kk, f v kk = vf (N : Int) v.1 v.2 (fun u34 u35 => kk (u34, u35)) K) : bt f ((0 : Int), List.replicate N (0 : Int)) = K (List.replicate N gc) := by
 refine cD (List.replicate N (0 : Int)) (fun i => List.replicate i gc ++ List.replicate (N - i) (0 : Int)) _ (by simp) (fun i a hi ha kn => ?_) (fun kn => ?_)
 ·rw [hf]
  dsimp only
  unfold vf
  rw [List.length_replicate] at hi
  have hlen : (List.replicate i gc ++ List.replicate (N - i) (0 : Int)).length = N := by simp; omega
  have e1 : ilt (i : Int) (N : Int) = true := decide_eq_true (by omega)
  rw [bI e1, show dt (List.replicate i gc ++ List.replicate (N - i) (0 : Int)) = (N : Int) by unfold dt; rw [hlen], hX (by omega) (by omega), iT (by rw [hlen]; omega), bz (by omega) (by omega)]
  congr 2
  rw [Int.toNat_natCast]
  rw [List.set_append_right _ _ (by simp), List.length_replicate, Nat.sub_self]
  rw [show N - i = (N - (i + 1)) + 1 by omega, List.replicate_succ, List.set_cons_zero, List.replicate_succ']
  simp
 ·rw [hf]
  dsimp only
  unfold vf
  rw [List.length_replicate]
  have e1 : ilt (N : Int) (N : Int) = false := decide_eq_false (by omega)
  rw [bu e1]
  simp
theorem okN (hN : N ≤ 1000) {ρ : Type} (x : Option ρ) : ca ((ile (0 : Int) (N : Int)) && (bW (Int.toNat (N : Int)))) x = x := by
 rw [dA]
 rw [Int.toNat_natCast, bw (by omega), Bool.and_true]
 exact decide_eq_true (by omega)
theorem WV {ρ : Type} (hS : gP L N) {B : Int} (hB : 0 ≤ B) (hB2 : B ≤ 1000000000000000000) {x : List Int} (hx : Lim B x) (hxl : x.length = N) (K : List Int → Option ρ) :
 bt (fun (v20 : (Val (.pair tI (.slice tI)))) kk23 => zy x L (bE L) v20.1 v20.2 (fun u21 u22 => kk23 (u21, u22)) K) ((0 : Int), List.replicate N gc) = K (QI L N x) := by
 have hl3 := hS.len
 refine cD L (fun i => (L.take i).foldl (sm x) (List.replicate N gc)) _ rfl (fun i l hi hl kn => ?_) (fun kn => ?_)
 ·try dsimp only
  unfold zy
  have hm := List.mem_of_getElem? hl
  have h1 := hS.inr l hm
  have h2 := hS.most l hm
  rw [bv hi, bp hl, uk h1.2.1 (by omega), take_succ hl, List.foldl_append, br hi (by omega)]
  have hlen : ((L.take i).foldl (sm x) (List.replicate N gc)).length = N := by rw [CA]; simp
  generalize (L.take i).foldl (sm x) (List.replicate N gc) = y at hlen ⊢
  by_cases hf : gv x l.2.1 = gc
  ·rw [bu (by rw [hf]; rfl)]
   simp only [List.foldl_cons, List.foldl_nil]
   unfold sm
   rw [if_pos hf]
  ·have h3 := hx _ hf
   rw [bI (bne_iff_ne.2 hf), show dt y = (N : Int) by unfold dt; rw [hlen], hX h1.1.1 h1.1.2, iT (by omega), uk h1.2.1 (by omega), bz (by omega) (by omega), hX h1.1.1 h1.1.2, iT (by omega), br hi (by omega)]
   simp only [List.foldl_cons, List.foldl_nil]
   unfold sm
   rw [if_neg hf, Hz]
 ·try dsimp only
  unfold zy
  rw [bU, List.take_length]
  rfl
theorem Zh {ρ : Type} : @MD ρ = @vf ρ := rfl
theorem jg (to : Int) (m : Nat) : (lT L N to m).length = m + 1 := by simp [lT]
theorem Cz {to : Int} {m k : Nat} (hk : k ≤ m) : (lT L N to m)[k]? = some (exL L N to k) := by
 unfold lT
 rw [List.getElem?_map, List.getElem?_range (by omega)]
 rfl
theorem Zg (hS : gP L N) {to : Int} (ht : 0 ≤ to ∧ to < N) {most : Nat} (hm : most ≤ 100) : uz ((N : Int), L) to (most : Int) = some (lT L N to most) := by
 have hN := hS.n60
 unfold uz Gp
 dsimp only
 rw [okN (by omega), Int.toNat_natCast]
 refine (QF (by omega) _ (fun v kk => by rw [b8, List.length_replicate])).trans ?_
 rw [show dt (List.replicate N gc) = (N : Int) by simp [dt], hX ht.1 ht.2, iT (by simp; omega)]
 refine cD (List.replicate most ()) (fun i => lT L N to i) _ (by simp [lT, exL]) (fun i a hi ha kn => ?_) (fun kn => ?_)
 ·try dsimp only
  unfold EX
  rw [List.length_replicate] at hi
  have e1 : ilt (i : Int) (most : Int) = true := decide_eq_true (by omega)
  rw [bI e1, b8, jg]
  have e2 : (((i + 1 : Nat) : Int) - 1) = (i : Int) := by omega
  rw [e2, bz (by omega) (by omega), show dt (lT L N to i) = ((i + 1 : Nat) : Int) by unfold dt; rw [jg], hX (by omega) (by omega), Int.toNat_natCast, qo (Cz (Nat.le_refl i)), okN (by omega), Int.toNat_natCast]
  rw [Zh]
  refine (QF (by omega) _ (fun v kk => by rw [b8, List.length_replicate])).trans ?_
  refine (WV hS (B := i * 4503599627370496) (by omega) (by omega) (Sn hS ht i (by omega)) (Sy _ _) _).trans ?_
  rw [dA (bw (by simp only [jg, List.length_singleton]; omega)), bz (by omega) (by omega)]
  congr 2
  unfold lT
  rw [List.range_succ (n := i + 1), List.map_append]
  rfl
 ·try dsimp only
  unfold EX
  rw [List.length_replicate]
  have e1 : ilt (most : Int) (most : Int) = false := decide_eq_false (by omega)
  rw [bu e1]
def IK (L : List Lk) (x : List Int) (good : Int → Bool) (u sum : Int) : Option Nat := L.findIdx? fun l => l.1 == u && (decide (gv x l.2.1 ≠ gc) && good (sum + l.2.2 + gv x l.2.1))
def oT (L : List Lk) (rest : Nat → List Int) (good : Int → Bool) : Nat → Int → Int → List Int → List Int
 | 0, _, _, out => out
 | k + 1, u, sum, out => match IK L (rest k) good u sum with
   | some i => oT L rest good k (L[i]?.getD (0, 0, 0)).2.1 (sum + (L[i]?.getD (0, 0, 0)).2.2) (out ++ [(i : Int)])
   | none => oT L rest good k u sum out
def folL {ρ : Type} (good : Int → Bool) (c0 : Int) (c1 : List (List Int)) (c2 : List Lk) (c3 : Int) (v0 : Int) (v1 : Int) (v2 : Int) (v3 : List Int) (kn : Int → Int → Int → List Int → Option ρ) (k0 : Int × Int × List Int → Option ρ) : Option ρ :=
 ifb (ilt v2 c3) (dI c2 v2 fun e7 => ifb (ieq e7.1 v0) (ck (c0 - (1 : Int)) fun n8 => dI c1 n8 fun e9 => dI e9 e7.2.1 fun e10 => ifb (ine e10 (1152921504606846976 : Int)) (ck (v1 + e7.2.2) fun n11 => ck (c0 - (1 : Int)) fun n12 => dI c1 n12 fun e13 => dI e13 e7.2.1 fun e14 => ck (n11 + e14) fun n15 => ifb (good n15) (ca (bW ((List.length v3) + (List.length ([v2])))) (ck (v1 + e7.2.2) fun n16 => k0 (e7.2.1, n16, (v3 ++ ([v2]))))) (ck (v2 + (1 : Int)) fun n17 => kn v0 v1 n17 v3)) (ck (v2 + (1 : Int)) fun n18 => kn v0 v1 n18 v3)) (ck (v2 + (1 : Int)) fun n19 => kn v0 v1 n19 v3)) (k0 (v0, v1, v3))
theorem aaN {ρ : Type} (hS : gP L N) (good : Int → Bool) {rest : List (List Int)} {k : Nat} {x : List Int} (hr : rest[k]? = some x) (hk : k ≤ 100) (hx : Lim 1000000000000000000 x) (hxl : x.length = N) {u sum : Int} (hs : -1000000000000000000 ≤ sum ∧ sum ≤ 1000000000000000000) {out : List Int} (ho : out.length ≤ 1000)
 (K : Int × Int × List Int → Option ρ) : bt (fun (v : Int × Int × Int × List Int) kk => folL good ((k + 1 : Nat) : Int) rest L (bE L) v.1 v.2.1 v.2.2.1 v.2.2.2 (fun a b c d => kk (a, b, c, d)) K) (u, sum, (0 : Int), out) =
  match IK L x good u sum with | some i => K ((L[i]?.getD (0, 0, 0)).2.1, sum + (L[i]?.getD (0, 0, 0)).2.2, out ++ [(i : Int)]) | none => K (u, sum, out) := by
 have hl3 := hS.len
 refine gW (fun v => ∃ i : Nat, i ≤ L.length ∧ v = (u, sum, (i : Int), out) ∧ ∀ j l, j < i → L[j]? = some l → (l.1 == u && (decide (gv x l.2.1 ≠ gc) && good (sum + l.2.2 + gv x l.2.1))) = false) (fun v => L.length - v.2.2.1.toNat) ?_ ⟨0, by omega, rfl, fun j l h => by omega⟩
 rintro v ⟨i, hi, rfl, hp⟩
 have e0 : (((k + 1 : Nat) : Int) - 1) = (k : Int) := by omega
 rcases Nat.lt_or_ge i L.length with h2 | h2
 ·have hl : L[i]? = some L[i] := List.getElem?_eq_getElem h2
  generalize L[i] = l at hl
  have hm := List.mem_of_getElem? hl
  have h1 := hS.inr l hm
  have h4 := hS.most l hm
  have hstep : (l.1 == u && (decide (gv x l.2.1 ≠ gc) && good (sum + l.2.2 + gv x l.2.1))) = false → ∃ y, (∃ i : Nat, i ≤ L.length ∧ y = (u, sum, (i : Int), out) ∧ ∀ j l, j < i → L[j]? = some l → (l.1 == u && (decide (gv x l.2.1 ≠ gc) && good (sum + l.2.2 + gv x l.2.1))) = false) ∧ (L.length - y.2.2.1.toNat < L.length - ((u, sum, (i : Int), out) : Int × Int × Int × List Int).2.2.1.toNat) ∧ y = (u, sum, (i : Int) + 1, out) := fun hf =>
   ⟨_, ⟨i + 1, h2, by rw [show ((i + 1 : Nat) : Int) = (i : Int) + 1 by push_cast; rfl], fun j m hj hm => by
    rcases Nat.lt_succ_iff_lt_or_eq.1 hj with h | rfl
    ·exact hp j m h hm
    ·rw [hl] at hm; cases hm; exact hf⟩, by simp; omega, rfl⟩
  by_cases hf : (l.1 == u && (decide (gv x l.2.1 ≠ gc) && good (sum + l.2.2 + gv x l.2.1))) = true
  ·refine .inl fun kn => ?_
   have hfi : IK L x good u sum = some i := by
    unfold IK
    rw [List.findIdx?_eq_some_iff_getElem]
    obtain ⟨hh, rfl⟩ := List.getElem?_eq_some_iff.1 hl
    exact ⟨h2, hf, fun j hj => by have := hp j _ hj (List.getElem?_eq_getElem (by omega)); rw [this]; simp⟩
   rw [hfi]
   simp only [Bool.and_eq_true, beq_iff_eq, decide_eq_true_eq] at hf
   have h5 := hx _ hf.2.1
   dsimp only
   unfold folL
   rw [bv h2, bp hl, bI (by simp [hf.1]), e0, bz (by omega) (by omega), bp hr, uk h1.2.1 (by omega), bI (bne_iff_ne.2 hf.2.1), bz (by omega) (by omega), bz (by omega) (by omega), bp hr, uk h1.2.1 (by omega), bz (by omega) (by omega), bI hf.2.2,
    dA (bw (by simp; omega)), bz (by omega) (by omega), hl]
   rfl
  ·have hf' := Bool.not_eq_true _ ▸ hf
   obtain ⟨y, hy1, hy2, rfl⟩ := hstep hf'
   refine .inr ⟨_, hy1, hy2, fun kn => ?_⟩
   dsimp only
   unfold folL
   rw [bv h2, bp hl, br h2 (by omega)]
   by_cases g1 : l.1 = u
   ·rw [bI (by simp [g1]), e0, bz (by omega) (by omega), bp hr, uk h1.2.1 (by omega)]
    by_cases g2 : gv x l.2.1 = gc
    ·rw [bu (by rw [g2]; rfl)]
    ·have h5 := hx _ g2
     have g3 : good (sum + l.2.2 + gv x l.2.1) = false := by simpa [g1, g2] using hf'
     rw [bI (bne_iff_ne.2 g2), bz (by omega) (by omega), bz (by omega) (by omega), bp hr, uk h1.2.1 (by omega), bz (by omega) (by omega), bu g3]
   ·rw [bu (by simpa using g1)]
 ·refine .inl fun kn => ?_
  obtain rfl : i = L.length := by omega
  have hfi : IK L x good u sum = none := by
   unfold IK
   rw [List.findIdx?_eq_none_iff]
   intro l hl
   obtain ⟨j, hj, rfl⟩ := List.mem_iff_getElem.1 hl
   exact hp j _ hj (List.getElem?_eq_getElem hj)
  rw [hfi]
  dsimp only
  unfold folL
  rw [bU]
def aaM {ρ : Type} (good : Int → Bool) (c0 : List (List Int)) (c6 : List Lk) (v0 : Int) (v1 : Int) (v2 : Int) (v3 : List Int) (kn : Int → Int → Int → List Int → Option ρ) (k0 : List Int → Option ρ) : Option ρ :=
 ifb (igt v1 (0 : Int)) (bt (fun (v22 : Int × Int × Int × List Int) kk27 => folL good v1 c0 c6 (bE c6) v22.1 v22.2.1 v22.2.2.1 v22.2.2.2 (fun u23 u24 u25 u26 => kk27 (u23, u24, u25, u26)) (fun z20 => ck (v1 - (1 : Int)) fun n21 => kn z20.1 n21 z20.2.1 z20.2.2)) (v0, v2, (0 : Int), v3)) (k0 v3)
theorem Zw {ρ : Type} (c0 : List (List Int)) (c4 : Int) (c6 : List Lk) : @n0 ρ c0 c4 c6 = aaM (fun n => ieq n c4) c0 c6 := rfl
theorem aaL {ρ : Type} (hS : gP L N) (good : Int → Bool) {rest : List (List Int)} {R : Nat → List Int} {k0 : Nat} (hk : k0 ≤ 100) (hr : ∀ k, k < k0 → rest[k]? = some (R k)) (hx : ∀ k, k < k0 → Lim 900000000000000000 (R k) ∧ (R k).length = N) (u : Int) (K : List Int → Option ρ) :
 bt (fun (v : Int × Int × Int × List Int) kk => aaM good rest L v.1 v.2.1 v.2.2.1 v.2.2.2 (fun a b c d => kk (a, b, c, d)) K) (u, (k0 : Int), (0 : Int), []) = K (oT L R good k0 u 0 []) := by
 have key := pR (f := fun (v : Int × Int × Int × List Int) kk => aaM good rest L v.1 v.2.1 v.2.2.1 v.2.2.2 (fun a b c d => kk (a, b, c, d)) K) (F := fun v => K (oT L R good v.2.1.toNat v.1 v.2.2.1 v.2.2.2))
  (fun v => ∃ k : Nat, v.2.1 = k ∧ k ≤ k0 ∧ (-(((k0 - k : Nat) : Int) * 4503599627370496) ≤ v.2.2.1 ∧ v.2.2.1 ≤ ((k0 - k : Nat) : Int) * 4503599627370496) ∧ v.2.2.2.length ≤ k0 - k) (fun v => v.2.1.toNat) (fun v hv kn hk => ?_) (x := (u, (k0 : Int), 0, [])) ⟨k0, rfl, Nat.le_refl _, by simp, by simp⟩
 ·rw [key]; simp
 ·obtain ⟨u, k', sum, out⟩ := v
  obtain ⟨k, e, h1, h2, h3⟩ := hv
  dsimp only at e h2 h3 hk ⊢
  subst e
  rw [Int.toNat_natCast] at hk ⊢
  unfold aaM
  cases k with
  | zero =>
    rw [bu (by rfl)]
    rfl
  | succ k =>
    rw [bI (decide_eq_true (by omega))]
    have hh := hx k (by omega)
    have hlim : Lim 1000000000000000000 (R k) := fun v hv => by have := hh.1 v hv; omega
    refine (aaN hS good (hr k (by omega)) (by omega) hlim hh.2 (by omega) (by omega) _).trans ?_
    unfold oT
    have e0 : (((k + 1 : Nat) : Int) - 1) = (k : Int) := by omega
    cases hn : IK L (R k) good u sum with
    | none =>
      dsimp only
      rw [e0, bz (by omega) (by omega), hk _ ⟨k, rfl, by omega, by dsimp only; omega, by dsimp only; omega⟩ (by simp)]
      simp
    | some i =>
      have hi : i < L.length := by
       unfold IK at hn
       exact (List.findIdx?_eq_some_iff_getElem.1 hn).1
      have hl : L[i]? = some L[i] := List.getElem?_eq_getElem hi
      have h4 := hS.most L[i] (List.getElem_mem _)
      dsimp only
      rw [hl]
      simp only [Option.getD_some]
      rw [e0, bz (by omega) (by omega), hk _ ⟨k, rfl, by omega, by dsimp only; omega, by simp; omega⟩ (by simp)]
      simp
def IA (L : List Lk) (N : Nat) (u v : Int) : List Int × Int :=
 if (f8 L N u v).2 ≠ 0 then ([], (f8 L N u v).2) else
 match (lT L N v N).findIdx? (fun x => gv x u == (f8 L N u v).1) with
 | some k => (oT L (exL L N v) (fun n => ieq n (f8 L N u v).1) k u 0 [], 0)
 | none => ([], 0)
theorem Ur (hS : gP L N) {u v : Int} (hu : 0 ≤ u ∧ u < N) (hv : 0 ≤ v ∧ v < N) : uB ((N : Int), L) u v = some (IA L N u v) := by
 have hN := hS.n60
 unfold uB GI IA
 rw [Fk hS hu hv, aW]
 by_cases h : (f8 L N u v).2 = 0
 ·rw [bu (by rw [h]; rfl), if_neg (by simp [h]), Zg hS hv (by omega), aW]
  rw [Zw]
  let k0 : Int → Option (List Int × Int) := fun j => bt (fun (v29 : Int × Int × Int × List Int) kk34 => aaM (fun n => ieq n (f8 L N u v).1) (lT L N v N) L v29.1 v29.2.1 v29.2.2.1 v29.2.2.2 (fun u30 u31 u32 u33 => kk34 (u30, u31, u32, u33)) (fun z28 => some ((z28, (0 : Int)) : List Int × Int))) (u, j, (0 : Int), [])
  refine (hO (lT L N v N) (fun x => gv x u == (f8 L N u v).1) k0 (k0 (-1)) (fun i x hi hx kn => ?_) (fun kn => ?_)).trans ?_
  rotate_left
  ·try dsimp only
   unfold oa
   rw [bU]
  ·have hex : ∀ k, k < N + 1 → (lT L N v N)[k]? = some (exL L N v k) := fun k hk => Cz (by omega)
   have hlim : ∀ k, k < N + 1 → Lim 900000000000000000 (exL L N v k) ∧ (exL L N v k).length = N := fun k hk => ⟨fun w hw => by
    have := Sn hS hv k (by omega) w hw; omega, Sy _ _⟩
   cases hf : (lT L N v N).findIdx? (fun x => gv x u == (f8 L N u v).1) with
   | none =>
     have := pR (f := fun (v29 : Int × Int × Int × List Int) kk34 => aaM (fun n => ieq n (f8 L N u v).1) (lT L N v N) L v29.1 v29.2.1 v29.2.2.1 v29.2.2.2 (fun u30 u31 u32 u33 => kk34 (u30, u31, u32, u33)) (fun z28 => some ((z28, (0 : Int)) : List Int × Int))) (F := fun _ => some (([], 0) : List Int × Int)) (fun v => v.2.1 = -1 ∧ v.2.2.2 = []) (fun _ => 0) (fun x hx kn hk => by
      unfold aaM
      rw [hx.1, hx.2]
      rfl) (x := (u, (-1 : Int), (0 : Int), [])) ⟨rfl, rfl⟩
     exact this
   | some k =>
     have hk := (List.findIdx?_eq_some_iff_getElem.1 hf).1
     rw [jg] at hk
     exact aaL hS _ (R := exL L N v) (by omega) (fun j hj => hex j (by omega)) (fun j hj => hlim j (by omega)) u (fun z => some ((z, (0 : Int)) : List Int × Int))
  ·try dsimp only
   unfold oa
   have hxl : x.length = N := by
    have hi' := hi
    rw [jg] at hi'
    rw [Cz (by omega)] at hx
    cases hx
    exact Sy _ _
   rw [jg] at hi
   rw [b8, jg, bI (decide_eq_true (by omega)), bp hx, uk hu.1 (by omega), bz (by omega) (by omega), dp]
 ·rw [bI (bne_iff_ne.2 h), if_pos h]
end
end Go.Proofs.ZzM
end
noncomputable section
namespace Go.Proofs.ZzM
open Go Go.Am
def VY (f : Int → Int → Int) (z : Int) (l : List Int) (d : Int) : Int := match l with | [] => z | x :: _ => f x d
def AR (f : Int → Int → Int) (z : Int) (c : Cmp) : Int := VY f z (cw c.2.2.1 c.2.2.2.1) c.2.1 - VY f z (cw c.2.2.2.1 c.2.2.1) c.2.1
structure abe (b : bH) (f : Int → Int → Int) (z : Int) (g : b9) : Prop where
 hi : f g.1 g.2.1 ≤ z + (g.2.2.1 + g.2.2.2.1.2)
 lo : z + (g.2.2.1 + g.2.2.2.1.1) ≤ f g.1 g.2.1
 down : ∀ d e, g.2.1 ≤ d → d ≤ e → f g.1 e ≤ f g.1 d
 loss : ∀ d e, g.2.1 ≤ d → d ≤ e → f g.1 d ≤ f g.1 e + gy b g d e
structure Iz (b : bH) (f : Int → Int → Int) (z : Int) : Prop where
 gauge : ∀ g ∈ b.2.1, abe b f z g
 cmp : ∀ c ∈ b.2.2.2.2.1, (fR b c).1 ≤ AR f z c ∧ AR f z c ≤ (fR b c).2
theorem QG {b : bH} (h : cX b) {p : Int → Int} (hg : ∀ g ∈ b.2.1, nt b p g) : ∃ f : Int → Int → Int, (∀ g ∈ b.2.1, abe b f (p 0) g) ∧ ∀ g ∈ b.2.1, ∀ d ∈ bG b g, f g.1 d = p (eS b g.1 d) := by
 let f : Int → Int → Int := fun id d => match iB b id with | some g => fill b p g d | none => 0
 have hfv : ∀ g ∈ b.2.1, ∀ d, f g.1 d = fill b p g d := fun g hgm d => by
  show (match iB b g.1 with | some g => fill b p g d | none => 0) = _
  rw [xQ h.ids hgm]
 refine ⟨f, fun g hgm => ?_, fun g hgm d hd => by rw [hfv g hgm]; exact E7 h hgm (hg g hgm) hd⟩
 have gf := hg g hgm
 have e0 : f g.1 g.2.1 = p (eS b g.1 g.2.1) := by rw [hfv g hgm]; exact E7 h hgm gf (kP g)
 refine ⟨by rw [e0]; exact gf.hi, by rw [e0]; exact gf.lo, fun d e h0 hde => ?_, fun d e h0 hde => ?_⟩
 ·rw [hfv g hgm, hfv g hgm]
  exact (AB h hgm gf h0 hde).1
 ·rw [hfv g hgm, hfv g hgm]
  exact (AB h hgm gf h0 hde).2
theorem Ow {b : bH} {f : Int → Int → Int} {p : Int → Int} (hm : ∀ g ∈ b.2.1, ∀ d ∈ bG b g, f g.1 d = p (eS b g.1 d)) {l : List Int} {day : Int} (hl : ∀ x ∈ l, ∃ g ∈ b.2.1, g.1 = x ∧ day ∈ bG b g) : p (EH b l day) = VY f (p 0) l day := by
 cases l with
 | nil => rfl
 | cons x t =>
   obtain ⟨g, q1, rfl, q3⟩ := hl x (by simp)
   exact (hm g q1 day q3).symm
theorem HW {b : bH} {f : Int → Int → Int} {p : Int → Int} (hm : ∀ g ∈ b.2.1, ∀ d ∈ bG b g, f g.1 d = p (eS b g.1 d)) {c : Cmp}
 (hl : ∀ x, x ∈ cw c.2.2.1 c.2.2.2.1 ∨ x ∈ cw c.2.2.2.1 c.2.2.1 → ∃ g ∈ b.2.1, g.1 = x ∧ c.2.1 ∈ bG b g) : p (cx b c) - p (cy b c) = AR f (p 0) c := by
 unfold AR
 rw [CF, CE, Ow hm (fun x hx => hl x (.inl hx)), Ow hm (fun x hx => hl x (.inr hx))]
theorem Kh {b : bH} (h : cX b) (f : Int → Int → Int) (z : Int) {l : List Int} {day : Int} (hl : ∀ x ∈ l, ∃ g ∈ b.2.1, g.1 = x ∧ day ∈ bG b g) : IJ b f z (EH b l day) = VY f z l day := by
 rw [CO h f z hl]
 unfold VY
 cases l <;> rfl
theorem FF {b : bH} (h : cX b) {f : Int → Int → Int} {z : Int} {c : Cmp} (hl : ∀ x, x ∈ cw c.2.2.1 c.2.2.2.1 ∨ x ∈ cw c.2.2.2.1 c.2.2.1 → ∃ g ∈ b.2.1, g.1 = x ∧ c.2.1 ∈ bG b g) : IJ b f z (cx b c) - IJ b f z (cy b c) = AR f z c := by
 unfold AR
 rw [CF, CE, Kh h f z (fun x hx => hl x (.inl hx)), Kh h f z (fun x hx => hl x (.inr hx))]
theorem Kg {b : bH} (h : cX b) {f : Int → Int → Int} {z : Int} {g : b9} (hg : g ∈ b.2.1) (hh : abe b f z g) : nt b (IJ b f z) g := by
 have q : ∀ d ∈ bG b g, IJ b f z (eS b g.1 d) = f g.1 d := fun d hd => sP h f z hg hd
 have e0 := q g.2.1 (kP g)
 refine ⟨?_, ?_, fun d e hd he hde => ?_, fun d e hd he hde => ?_⟩
 ·rw [e0, kR]; exact hh.hi
 ·rw [e0, kR]; exact hh.lo
 ·rw [q d hd, q e he]; exact hh.down d e (h.day hg hd).1 hde
 ·rw [q d hd, q e he]; exact hh.loss d e (h.day hg hd).1 hde
section
variable {b : bH} {c : Cmp}
theorem LH (h : cX b) {p : Int → Int} (hp : Pot (bC b) p) : ∃ f, Iz b f (p 0) ∧ ∀ g ∈ b.2.1, ∀ d ∈ bG b g, f g.1 d = p (eS b g.1 d) := by
 obtain ⟨hg, hc⟩ := (LG h).1 hp
 obtain ⟨f, hf, hm⟩ := QG h hg
 refine ⟨f, ⟨hf, fun c hcm => ?_⟩, hm⟩
 have := HW hm (c := c) (fun x hx => l8 h hcm hx)
 have := hc c hcm
 omega
theorem TO (h : cX b) {f : Int → Int → Int} {z : Int} (hh : Iz b f z) : Pot (bC b) (IJ b f z) := by
 refine (LG h).2 ⟨fun g hg => Kg h hg (hh.gauge g hg), fun c hc => ?_⟩
 have := FF (f := f) (z := z) h (c := c) (fun x hx => l8 h hc hx)
 have := hh.cmp c hc
 omega
theorem T4 (h : cX b) {d : Cmp} (hd : d ∈ b.2.2.2.2.1) : ∀ x, x ∈ cw d.2.2.1 d.2.2.2.1 ∨ x ∈ cw d.2.2.2.1 d.2.2.1 → ∃ g ∈ (bK b c).2.1, g.1 = x ∧ d.2.1 ∈ bG (bK b c) g := by
 intro x hx
 obtain ⟨g, q1, q2, q3⟩ := l8 h hd hx
 exact ⟨g, q1, q2, qe q3⟩
theorem Xb (h : cX b) (h' : cX (bK b c)) {p : Int → Int} (hp : Pot (bV (bK b c)) p) : ∃ f, Iz b f (p 0) ∧ p (cx (bK b c) c) - p (cy (bK b c) c) = AR f (p 0) c := by
 obtain ⟨hg, hc⟩ := (E6 h').1 hp
 obtain ⟨f, hf, hm⟩ := QG h' hg
 refine ⟨f, ⟨fun g hgm => ?_, fun d hd => ?_⟩, HW hm fun x hx => l8 h' uY hx⟩
 ·have := hf g hgm
  exact ⟨this.hi, this.lo, this.down, this.loss⟩
 ·have := HW hm (c := d) (T4 h hd)
  have := hc d hd
  omega
theorem W9 (h : cX b) (h' : cX (bK b c)) {f : Int → Int → Int} {z : Int} (hh : Iz b f z) : Pot (bV (bK b c)) (IJ (bK b c) f z) ∧ IJ (bK b c) f z (cx (bK b c) c) - IJ (bK b c) f z (cy (bK b c) c) = AR f z c := by
 refine ⟨(E6 h').2 ⟨fun g hg => Kg h' hg ?_, fun d hd => ?_⟩, FF h' fun x hx => l8 h' uY hx⟩
 ·have := hh.gauge g hg
  exact ⟨this.hi, this.lo, this.down, this.loss⟩
 ·have := FF (f := f) (z := z) h' (c := d) (T4 h hd)
  have := hh.cmp d hd
  omega
theorem O9 (h : cX b) : d9 (bC b) ((bn b).length + 1) = true ↔ ∃ f z, Iz b f z := by
 have := h.sys.n60
 rw [gI h.sys.links (by omega)]
 constructor
 ·rintro ⟨p, hp⟩
  obtain ⟨f, hf, _⟩ := LH h hp
  exact ⟨f, _, hf⟩
 ·rintro ⟨f, z, hh⟩
  exact ⟨_, TO h hh⟩
theorem d_max (h : cX b) (h' : cX (bK b c)) {f : Int → Int → Int} {z : Int} (hh : Iz b f z) : dLo b c ≤ AR f z c ∧ AR f z c ≤ dHi b c := by
 have ho : d9 (bV (bK b c)) ((bn (bK b c)).length + 1) = true := by rw [m8 h h']; exact (O9 h).2 ⟨f, z, hh⟩
 obtain ⟨hp, hd⟩ := W9 h h' hh
 have a1 := CD (iq h') (iH h') ho (wJ h') (wI h') hp
 have a2 := CD (iq h') (iH h') ho (wI h') (wJ h') hp
 unfold dLo dHi
 omega
theorem d_all (h : cX b) (h' : cX (bK b c)) (ho : d9 (bC b) ((bn b).length + 1) = true) {t : Int} (h1 : dLo b c ≤ t) (h2 : t ≤ dHi b c) : ∃ f z, Iz b f z ∧ AR f z c = t := by
 rw [← m8 h h'] at ho
 obtain ⟨p, hp, hd⟩ := SA (iq h') (iH h') ho (wJ h') (wI h') h1 h2
 obtain ⟨f, hf, he⟩ := Xb h h' hp
 exact ⟨f, _, hf, by rw [← he]; exact hd⟩
theorem aaS (h : cX b) (h' : cX (bK b c)) (ho : d9 (bC b) ((bn b).length + 1) = true) : dLo b c ≤ dHi b c := by
 rw [← m8 h h'] at ho
 exact AQ (iq h') (iH h') ho (wJ h') (wI h')
structure Pred (b : bH) (c : Cmp) (s : Int × Int) : Prop where
 good : cX b
 good2 : cX (bK b (bg c))
 order : Sk b c ≤ xP b c
 has : ∃ f z, Iz b f z
 ends : s.1 - Sk b c ≤ s.2 - xP b c
 bd : -9007199254740992 ≤ s.1 - Sk b c ∧ s.2 - xP b c ≤ 9007199254740992
 all : ∀ f z, Iz b f z → s.1 - Sk b c ≤ AR f z c ∧ AR f z c ≤ s.2 - xP b c
 each : ∀ t, s.1 - Sk b c ≤ t → t ≤ s.2 - xP b c → ∃ f z, Iz b f z ∧ AR f z c = t
theorem OK (hp : (dm b c).2 = 0) : Pred b c (dm b c).1 := by
 obtain ⟨h, h'⟩ := mi hp
 rw [Iw h h'] at hp ⊢
 by_cases ho : d9 (bC b) ((bn b).length + 1) = true
 ·rw [if_pos ho] at hp ⊢
  obtain ⟨h1, h2⟩ := Rm hp
  rw [h2]
  have e1 : Sk b (bg c) = Sk b c := rfl
  have e2 : xP b (bg c) = xP b c := rfl
  rw [e1, e2] at *
  have s1 : dLo b (bg c) + Sk b c - Sk b c = dLo b (bg c) := by omega
  have s2 : dHi b (bg c) + xP b c - xP b c = dHi b (bg c) := by omega
  refine ⟨h, h', h1, (O9 h).1 ho, ?_, ?_, fun f z hh => ?_, fun t t1 t2 => ?_⟩
  ·simp only
   rw [s1, s2]
   exact aaS h h' ho
  ·simp only
   rw [s1, s2]
   rw [← m8 h h'] at ho
   have a1 := T3 (iq h') (iH h') ho (wJ h') (wI h')
   have a2 := T3 (iq h') (iH h') ho (wI h') (wJ h')
   unfold dLo dHi
   omega
  ·simp only
   rw [s1, s2]
   exact d_max (c := bg c) h h' hh
  ·simp only at t1 t2
   rw [s1] at t1
   rw [s2] at t2
   exact d_all (c := bg c) h h' ho t1 t2
 ·rw [if_neg ho] at hp
  simp at hp
end
end Go.Proofs.ZzM
end
noncomputable section
namespace Go.Proofs.ZzM
open Go Go.Am
theorem Lv {b : bH} (h : cX b) : (fe b).length = (bC b).length := by
 have g0 : ∀ i, ((b.2.1.take i).mapIdx (di b)).flatten.length = ((b.2.1.take i).flatMap (cW b)).length := by
  intro i
  induction i with
  | zero => simp
  | succ i ih =>
    rcases Nat.lt_or_ge i b.2.1.length with hi | hi
    ·have hg : b.2.1[i]? = some b.2.1[i] := List.getElem?_eq_getElem hi
     rw [j8 _ hg, take_succ hg, List.flatMap_append, List.flatten_append, List.length_append, List.length_append, ih]
     congr 1
     unfold di cW
     simp only [List.flatMap_cons, List.flatMap_nil, List.append_nil, List.flatten_cons, List.flatten_nil, List.length_append]
     rw [iQ _ _ (fun _ => rfl), iQ _ _ (fun _ => rfl)]
     rfl
    ·rw [List.take_of_length_le (by omega)] at ih ⊢
     exact ih
 have c0 := Vq (b := b) b.2.2.2.2.1.length (Nat.le_refl _)
 have g1 := g0 b.2.1.length
 rw [List.take_length] at c0 g1
 unfold fe bC
 rw [List.length_append, List.length_append, g1, c0.1, c0.2]
theorem Qw {b : bH} : ∀ s ∈ (b.2.1.mapIdx (di b)).flatten, (s.1 = 1 ∨ s.1 = 2) ∧ 0 ≤ s.2 ∧ s.2 < b.2.1.length := by
 intro s hs
 obtain ⟨l, hl, hm⟩ := List.mem_flatten.1 hs
 obtain ⟨i, hi, rfl⟩ := List.mem_iff_getElem.1 hl
 rw [List.length_mapIdx] at hi
 rw [List.getElem_mapIdx] at hm
 unfold di at hm
 rcases List.mem_append.1 hm with h | h
 ·simp at h; subst h; exact ⟨.inl rfl, by dsimp only; omega, by dsimp only; omega⟩
 ·obtain ⟨_, _, h⟩ := List.mem_flatMap.1 h
  simp at h; subst h; exact ⟨.inr rfl, by dsimp only; omega, by dsimp only; omega⟩
theorem QM {l : List Cmp} : ∀ s ∈ (l.mapIdx fun i (_ : Cmp) => [((3 : Int), (i : Int)), ((3 : Int), (i : Int))]).flatten, s.1 = 3 ∧ 0 ≤ s.2 ∧ s.2 < l.length := by
 intro s hs
 obtain ⟨m, hl, hm⟩ := List.mem_flatten.1 hs
 obtain ⟨i, hi, rfl⟩ := List.mem_iff_getElem.1 hl
 rw [List.length_mapIdx] at hi
 rw [List.getElem_mapIdx] at hm
 simp at hm; subst hm
 exact ⟨rfl, by dsimp only; omega, by dsimp only; omega⟩
theorem YU (b : bH) (c : Cmp) : ∃ S : List (Int × Int), fe (bK b c) = S ++ [(3, (b.2.2.2.2.1.length : Int)), (3, (b.2.2.2.2.1.length : Int))] ∧ ∀ s ∈ S, ¬ (s.1 = 3 ∧ s.2 = (b.2.2.2.2.1.length : Int)) := by
 refine ⟨((bK b c).2.1.mapIdx (di (bK b c))).flatten ++ (b.2.2.2.2.1.mapIdx fun i (_ : Cmp) => [((3 : Int), (i : Int)), ((3 : Int), (i : Int))]).flatten, ?_, fun s hs => ?_⟩
 ·unfold fe
  rw [show (bK b c).2.2.2.2.1 = b.2.2.2.2.1 ++ [c] from rfl, List.mapIdx_append, List.flatten_append, List.append_assoc]
  simp
 ·rcases List.mem_append.1 hs with h | h
  ·have := Qw s h; omega
  ·have := QM s h; omega
theorem KR (b : bH) (c : Cmp) (h : cX (bK b c)) : bC (bK b c) = bV (bK b c) ++ [(cy (bK b c) c, cx (bK b c) c, (fR (bK b c) c).2), (cx (bK b c) c, cy (bK b c) c, -(fR (bK b c) c).1)] := by
 rw [Sv]
 unfold bC
 rw [show (bK b c).2.2.2.2.1 = b.2.2.2.2.1 ++ [c] from rfl, List.flatMap_append, List.append_assoc]
 simp [cp]
def Z1 (b : bH) (c : Cmp) (s t : Int) : Int := dst (bV (bK b c)) ((bn (bK b c)).length + 1) s t
abbrev End : Type := Int × Int × Int
abbrev CS : Type := (Int × Int) × End × End
def endP (b : bH) (c : Cmp) (s t : Int) : End :=
 (Z1 b c s t, Z1 b c s (cy (bK b c) c) + (fR b c).2 + Z1 b c (cx (bK b c) c) t, Z1 b c s (cx (bK b c) c) - (fR b c).1 + Z1 b c (cy (bK b c) c) t)
def worth0 : CS := ((0, 0), (0, 0, 0), (0, 0, 0))
def Oa (b : bH) (n : Int × Int) (c : Cmp) : CS :=
 ((dm b c).1, endP b (bg c) 0 (sG (bK b (bg c)) n.1 n.2), endP b (bg c) (sG (bK b (bg c)) n.1 n.2) 0)
def NB (b : bH) (n : Int × Int) (c : Cmp) : CS × Int := if (dm b c).2 ≠ 0 then (worth0, (dm b c).2) else (Oa b n c, 0)
theorem C2 {b : bH} {c : Cmp} (h : (dm b c).2 = 0) : d9 (bC b) ((bn b).length + 1) = true := by
 obtain ⟨g1, g2⟩ := mi h
 rw [Iw g1 g2] at h
 by_cases ho : d9 (bC b) ((bn b).length + 1) = true
 ·exact ho
 ·rw [if_neg ho] at h; cases h
section
variable {b : bH} {c : Cmp} (h : cX b) (h' : cX (bK b c)) (ho : d9 (bC b) ((bn b).length + 1) = true)
include h h' ho
theorem oS {s t : Int} (hs : 0 ≤ s ∧ s < ((bn (bK b c)).length + 1 : Nat)) (ht : 0 ≤ t ∧ t < ((bn (bK b c)).length + 1 : Nat)) : -9007199254740992 ≤ Z1 b c s t ∧ Z1 b c s t ≤ 9007199254740992 :=
 T3 (iq h') (iH h') (by rw [m8 h h']; exact ho) hs ht
theorem pU (B : bH) {s t : Int} (hs : 0 ≤ s ∧ s < ((bn (bK b c)).length + 1 : Nat)) (ht : 0 ≤ t ∧ t < ((bn (bK b c)).length + 1 : Nat)) : cg (B, (((bn (bK b c)).length : Int) + 1, bV (bK b c))) t s = some (Z1 b c s t) := by
 rw [show (((bn (bK b c)).length : Int) + 1) = (((bn (bK b c)).length + 1 : Nat) : Int) by push_cast; rfl, QY (iq h') ht hs, vB (iq h') (iH h') hs ht, if_pos (by rw [m8 h h']; exact ho)]
 rfl
theorem V1 : (-4503599627370496 ≤ (fR b c).1 ∧ (fR b c).1 ≤ 4503599627370496) ∧ (-4503599627370496 ≤ (fR b c).2 ∧ (fR b c).2 ≤ 4503599627370496) := by
 have hs := h'.sys
 have e := KR b c h'
 have m1 := hs.most (cy (bK b c) c, cx (bK b c) c, (fR (bK b c) c).2) (by rw [e]; simp)
 have m2 := hs.most (cx (bK b c) c, cy (bK b c) c, -(fR (bK b c) c).1) (by rw [e]; simp)
 have e2 : fR (bK b c) c = fR b c := rfl
 rw [e2] at m1 m2
 dsimp only at m1 m2
 omega
theorem T1 (B : bH) {s t : Int} (hs : 0 ≤ s ∧ s < ((bn (bK b c)).length + 1 : Nat)) (ht : 0 ≤ t ∧ t < ((bn (bK b c)).length + 1 : Nat)) :
 lp t s (B, (((bn (bK b c)).length : Int) + 1, bV (bK b c))) (cy (bK b c) c) (fR b c) (cx (bK b c) c) = some (endP b c s t) := by
 have hx := wJ h'
 have hy := wI h'
 have b1 := oS h h' ho hs ht
 have b2 := oS h h' ho hs hy
 have b3 := oS h h' ho hx ht
 have b4 := oS h h' ho hs hx
 have b5 := oS h h' ho hy ht
 have b6 := V1 h h' ho
 unfold lp tk
 rw [pU h h' ho B hs ht, aW, pU h h' ho B hs hy, aW, bz (by omega) (by omega), pU h h' ho B hx ht, aW, bz (by omega) (by omega), pU h h' ho B hs hx, aW, bz (by omega) (by omega), pU h h' ho B hy ht, aW, bz (by omega) (by omega)]
 rfl
end
theorem OM {B : bH} (h : cX B) (hn : ∀ g ∈ B.2.1, I64 g.2.2.2.2.1.1) (s : Sys) (l : List Int) (c : Cmp) : lq l (B, s) c = some (atP (bn B) l c.2.1) := by
 unfold lq tm
 cases l with
 | nil => rw [b8]; rfl
 | cons x t =>
   rw [b8, bu (beq_eq_false_iff_ne.2 (by simp; omega)), show (0 : Int) = ((0 : Nat) : Int) from rfl, bp (show (x :: t)[0]? = some x from rfl), Il h hn, aW]
   rfl
theorem Xf {ρ : Type} {b : bH} {c : Cmp} (h : cX (bK b c)) (K : List Lk → Option ρ) :
 bt (fun (v17 : Val bo) kk20 => jA (b.2.2.2.2.1.length : Int) (fe (bK b c)) (bC (bK b c)) (bE (bC (bK b c))) v17.1 v17.2 (fun u18 u19 => kk20 (u18, u19)) K) ((0 : Int), []) = K (bV (bK b c)) := by
 have hl3 := h.sys.len
 have hsl := Lv h
 obtain ⟨S, hS, hSk⟩ := YU b c
 have hL := KR b c h
 have hSl : S.length = (bV (bK b c)).length := by
  rw [hS, hL, List.length_append, List.length_append] at hsl
  simpa using hsl
 generalize bV (bK b c) = H at hL hSl ⊢
 rw [hS]
 generalize bC (bK b c) = L at hL hsl hl3 ⊢
 have hLl : L.length = H.length + 2 := by rw [hL]; simp
 refine cD L (fun i => (L.take i).take H.length) _ (by simp) (fun i l hi hl kn => ?_) (fun kn => ?_)
 ·try dsimp only
  unfold jA
  rw [bv hi, bp hl]
  rcases Nat.lt_or_ge i H.length with h1 | h1
  ·have hs : (S ++ [((3 : Int), (b.2.2.2.2.1.length : Int)), (3, (b.2.2.2.2.1.length : Int))])[i]? = some S[i] := by
    rw [List.getElem?_append_left (by omega), List.getElem?_eq_getElem]
   have hk := hSk S[i] (List.getElem_mem _)
   have e : ((ff (S[i]).1 (3 : Int)) && ((ff (S[i]).2 (b.2.2.2.2.1.length : Int)) && true)) = false := by
    simp [ff]; omega
   have e1 : (L.take i).take H.length = L.take i := List.take_of_length_le (by rw [List.length_take]; omega)
   have e2 : (L.take (i + 1)).take H.length = L.take (i + 1) := List.take_of_length_le (by rw [List.length_take]; omega)
   rw [bp hs, e, bI (by rfl), e1, e2, dA (bw (by rw [List.length_take]; simp; omega)), br hi (by omega), take_succ hl]
  ·have hs : (S ++ [((3 : Int), (b.2.2.2.2.1.length : Int)), (3, (b.2.2.2.2.1.length : Int))])[i]? = some ((3 : Int), (b.2.2.2.2.1.length : Int)) := by
    rw [List.getElem?_append_right (by omega)]
    have : i - S.length = 0 ∨ i - S.length = 1 := by omega
    rcases this with e | e <;> rw [e] <;> rfl
   have e : ((ff (3 : Int) (3 : Int)) && ((ff (b.2.2.2.2.1.length : Int) (b.2.2.2.2.1.length : Int)) && true)) = true := by simp [ff]
   have e1 : (L.take i).take H.length = (L.take (i + 1)).take H.length := by
    rw [List.take_take, List.take_take]
    congr 1
    omega
   rw [bp hs]
   dsimp only
   rw [e, bu (by rfl), br hi (by omega), e1]
 ·try dsimp only
  unfold jA
  rw [bU, List.take_length, hL]
  simp
theorem Qm {B : bH} (hr : Room B) (n : Int × Int) {c : Cmp} (hA : c.2.2.1.length ≤ 1000) (hB : c.2.2.2.1.length ≤ 1000) : pX (B, J8 B) n c = some (NB B n c) := by
 unfold pX Bz NB
 have hs := hr.good.size
 rw [show (B, J8 B).1 = B from rfl, Vu hs hr.num hA hB, aW]
 by_cases hp : (dm B c).2 = 0
 ·obtain ⟨g1, g2⟩ := mi hp
  have ho := C2 hp
  have e1 : uP B (bg c) = (bK B (bg c), 0) := by
   unfold uP
   rw [if_neg (by simp [(bS B).2 g1]), if_neg (by simp [(bS _).2 g2])]
  have hn2 : ∀ g ∈ (bK B (bg c)).2.1, I64 g.2.2.2.2.1.1 := hr.num
  have hC := g2.nC
  have hw : (((bK B (bg c)).2.2.2.2.1.length : Int) - 1) = (B.2.2.2.2.1.length : Int) := by simp [bK]
  have hSays : ZN (bK B (bg c)) (B.2.2.2.2.1.length : Int) = (fR B (bg c), 0) := by
   have e : o9 (bK B (bg c)) (B.2.2.2.2.1.length : Int) = (bg c, 0) := by
    unfold o9
    rw [if_neg (by simp [(bS _).2 g2]), if_neg (by simp [bK]; omega)]
    simp [bK]
   unfold ZN
   rw [e, if_neg (by simp)]
   rfl
  have hCancel : IB c.2.2.1 c.2.2.2.1 = (cw c.2.2.1 c.2.2.2.1, cw c.2.2.2.1 c.2.2.1, 0) := by
   have hnu := (jr _).1 (g2.nums (uY (c := bg c)))
   have h6 : lY c.2.2.1 = true ∧ lY c.2.2.2.1 = true := ⟨hnu.2.2.2.2.2.1, hnu.2.2.2.2.2.2⟩
   unfold IB
   rw [h6.1, h6.2]
   rfl
  rw [bu (by rw [hp]; rfl), if_neg (by simp [hp]), show mf B (c.1, c.2.1, c.2.2.1, c.2.2.2.1, (0 : Int), c.2.2.2.2.2) = mf B (bg c) from rfl, X9 hs hr.num (c := bg c) hA hB, aW, e1]
  dsimp only
  rw [bu (by rfl), b8, hw, bz (by omega) (by omega), aa6 (g2.inn hn2), aW, hSays, Q8 (by omega) (by omega), aW, hCancel, nr (g2.inn hn2), aW, ic g2]
  dsimp only
  refine (Xf g2 _).trans ?_
  have ex : cx (bK B (bg c)) (bg c) = atP (bn (bK B (bg c))) (cw c.2.2.1 c.2.2.2.1) c.2.1 := rfl
  have ey : cy (bK B (bg c)) (bg c) = atP (bn (bK B (bg c))) (cw c.2.2.2.1 c.2.2.1) c.2.1 := rfl
  rw [OM g2 hn2, aW, OM g2 hn2, aW, Il g2 hn2, aW, ← ex, ← ey, T1 g1 g2 ho _ (dW _) (dn _ n), aW, T1 g1 g2 ho _ (dn _ n) (dW _), aW]
  rfl
 ·rw [bI (bne_iff_ne.2 hp), if_pos hp]
  rfl
end Go.Proofs.ZzM
end
noncomputable section
namespace Go.Proofs.ZzM
open Go Go.Am
abbrev ZR : Type := bH × (Int × Int) × Bool × Int × List Int
def XG : ZR := (o8, (0, 0), false, 0, [])
def wQ (L : List Lk) : Int → Int → List Int → Int × Int × Bool
 | u, s, [] => (u, s, true)
 | u, s, i :: t => if (L[i.toNat]?.getD (0, 0, 0)).1 = u then wQ L (L[i.toNat]?.getD (0, 0, 0)).2.1 (s + (L[i.toNat]?.getD (0, 0, 0)).2.2) t else (0, 0, false)
def Q0 (L : List Lk) (i : Int) : Bool := decide (i < 0) || decide ((L.length : Int) ≤ i)
def jE (L : List Lk) (l : List Int) : Int := if 80 < l.length then 2 else if l.any (Q0 L) then 1 else 0
def fc (L : List Lk) (u v : Int) (l : List Int) : Int × Int :=
 if jE L l ≠ 0 then (0, jE L l) else if (wQ L u 0 l).2.2 = true ∧ (wQ L u 0 l).1 = v then ((wQ L u 0 l).2.1, 0) else (0, 8)
def Z9 (u : Int) (w : Int × Int × Bool) : Int := if w.2.2 = true ∧ w.1 = u ∧ w.2.1 < 0 then 0 else 8
def rH (L : List Lk) (l : List Int) : Int :=
 if jE L l ≠ 0 then jE L l else match l with
 | [] => 8
 | i :: _ => Z9 (L[i.toNat]?.getD (0, 0, 0)).1 (wQ L (L[i.toNat]?.getD (0, 0, 0)).1 0 l)
section
variable {L : List Lk} {N : Nat}
theorem KX (N : Int) (hL : L.length ≤ 1000) (l : List Int) : nj (N, L) l = some (jE L l) := by
 unfold nj xw jE
 dsimp only
 rw [b8]
 by_cases h : 80 < l.length
 ·rw [bI (decide_eq_true (by omega)), if_pos h]
 ·rw [bu (decide_eq_false (by omega)), if_neg h, ← b8 l]
  refine (ip l (Q0 L) (fun z => ifb (ige z 0) (some 1) (some 0)) (some 1) (some 0) (fun j => by rw [show ige (j : Int) 0 = true from decide_eq_true (by omega)]; rfl) (fun i a hi ha kn => ?_) (fun kn => ?_)).trans ?_
  ·try dsimp only
   unfold kK Q0
   rw [bv hi, bp ha, br hi (by omega), b8, dp, dp]
   by_cases h1 : a < 0
   ·simp [ilt, h1]
   ·by_cases h2 : (L.length : Int) ≤ a
    ·simp [ilt, ige, h1, h2]
    ·simp [ilt, ige, h1, h2]
  ·try dsimp only
   unfold kK
   rw [bU]
  ·cases l.any (Q0 L) <;> rfl
theorem Su {l : List Int} (h : jE L l = 0) : l.length ≤ 80 ∧ ∀ i ∈ l, 0 ≤ i ∧ i.toNat < L.length := by
 unfold jE at h
 split at h
 ·omega
 ·rename_i h1
  split at h
  ·omega
  ·rename_i h2
   refine ⟨by omega, fun i hi => ?_⟩
   have := List.any_eq_false.1 (Bool.eq_false_iff.2 h2) i hi
   simp [Q0] at this
   omega
theorem VJ (hS : gP L N) (u : Int) {l : List Int} (h : jE L l = 0) : AI ((N : Int), L) u l = some (wQ L u 0 l) := by
 obtain ⟨hl, hi⟩ := Su h
 unfold AI MB
 dsimp only
 have := pR (f := fun (v7 : Int × Int × Int) kk11 => qK l (bE l) L v7.1 v7.2.1 v7.2.2 (fun u8 u9 u10 => kk11 (u8, u9, u10)) (fun z5 => some (z5.1, z5.2.1, z5.2.2)) (fun z6 => some (z6.1, z6.2, true)))
  (F := fun v => some (wQ L v.1 v.2.1 (l.drop v.2.2.toNat))) (fun v => ∃ i : Nat, v.2.2 = i ∧ i ≤ l.length ∧ (-(i * 4503599627370496) ≤ v.2.1 ∧ v.2.1 ≤ i * 4503599627370496)) (fun v => l.length - v.2.2.toNat) (fun v hv kn hk => ?_) (x := (u, (0 : Int), (0 : Int))) ⟨0, rfl, by omega, by simp⟩
 ·exact this
 ·obtain ⟨w, s, n⟩ := v
  obtain ⟨i, e, h1, h2⟩ := hv
  dsimp only at e h2 hk ⊢
  subst e
  rw [Int.toNat_natCast] at hk ⊢
  unfold qK
  rcases Nat.lt_or_ge i l.length with h3 | h3
  ·have ha : l[i]? = some l[i] := List.getElem?_eq_getElem h3
   have hd : l.drop i = l[i] :: l.drop (i + 1) := List.drop_eq_getElem_cons h3
   rw [hd]
   have hx := hi l[i] (List.getElem_mem _)
   generalize l[i] = a at ha hx
   have hg : L[a.toNat]? = some L[a.toNat] := List.getElem?_eq_getElem hx.2
   have hm := hS.most _ (List.mem_of_getElem? hg)
   generalize L[a.toNat] = x at hg hm
   rw [bv h3, bp ha, kv hx.1 hg]
   unfold wQ
   rw [hg]
   simp only [Option.getD_some]
   by_cases hc : x.1 = w
   ·rw [bu (by rw [hc]; exact bne_self_eq_false' _), if_pos hc, bz (by omega) (by omega), br h3 (by omega), hk _ ⟨i + 1, by push_cast; rfl, h3, by dsimp only; push_cast; omega⟩ (by simp; omega)]
    simp
   ·rw [bI (bne_iff_ne.2 hc), if_neg hc]
  ·obtain rfl : i = l.length := by omega
   rw [bU, List.drop_length]
   rfl
theorem VK (hS : gP L N) : ∀ (l : List Int) (u s B : Int), -B ≤ s ∧ s ≤ B → -(B + l.length * 4503599627370496) ≤ (wQ L u s l).2.1 ∧ (wQ L u s l).2.1 ≤ B + l.length * 4503599627370496
 | [], u, s, B, h => by simp [wQ]; omega
 | i :: t, u, s, B, h => by
   unfold wQ
   have hm : -4503599627370496 ≤ (L[i.toNat]?.getD (0, 0, 0)).2.2 ∧ (L[i.toNat]?.getD (0, 0, 0)).2.2 ≤ 4503599627370496 := by
    cases hg : L[i.toNat]? with
    | none => simp
    | some x => exact hS.most x (List.mem_of_getElem? hg)
   split
   ·have := VK hS t (L[i.toNat]?.getD (0, 0, 0)).2.1 (s + (L[i.toNat]?.getD (0, 0, 0)).2.2) (B + 4503599627370496) (by omega)
    rw [List.length_cons]
    push_cast
    omega
   ·dsimp only
    omega
theorem A9 (hS : gP L N) {u v : Int} (hu : 0 ≤ u ∧ u < N) (hv : 0 ≤ v ∧ v < N) (l : List Int) : iJ ((N : Int), L) u v l = some (fc L u v l) := by
 have hl3 := hS.len
 unfold iJ oN fc
 have e1 : (decide (0 ≤ u) && decide (u < (N : Int))) = true := by simp [hu.1, hu.2]
 have e2 : (decide (0 ≤ v) && decide (v < (N : Int))) = true := by simp [hv.1, hv.2]
 rw [jP hS, aW, bu (by rfl), FR, aW, e1, bu (by rfl), FR, aW, e2, bu (by rfl), KX _ (by omega), aW]
 by_cases h : jE L l = 0
 ·rw [bu (by rw [h]; rfl), if_neg (by simp [h]), VJ hS u h, aW]
  cases h1 : (wQ L u 0 l).2.2 with
  | false => rw [bI (by rfl), if_neg (by simp)]
  | true =>
    rw [bu (by rfl)]
    by_cases h2 : (wQ L u 0 l).1 = v
    ·rw [bu (by rw [h2]; exact bne_self_eq_false' _), if_pos ⟨rfl, h2⟩]
    ·rw [bI (bne_iff_ne.2 h2), if_neg (fun h => h2 h.2)]
 ·rw [bI (bne_iff_ne.2 h), if_pos h]
theorem W7 {ρ α : Type} (x : α) (t : List α) (f : α → Option ρ) : dI (x :: t) (0 : Int) f = f x := rfl
theorem J4 (hS : gP L N) (l : List Int) : kO ((N : Int), L) l = some (rH L l) := by
 have hl3 := hS.len
 unfold kO oM rH
 rw [jP hS, aW, bu (by rfl), KX _ (by omega), aW]
 by_cases h : jE L l = 0
 ·rw [bu (by rw [h]; rfl), if_neg (by simp [h])]
  cases l with
  | nil => rw [b8]; rfl
  | cons i t =>
    have hx := (Su h).2 i (by simp)
    have hg : L[i.toNat]? = some L[i.toNat] := List.getElem?_eq_getElem hx.2
    generalize L[i.toNat] = x at hg
    rw [b8, bu (beq_eq_false_iff_ne.2 (by simp; omega)), W7, kv hx.1 hg, VJ hS x.1 h, aW]
    dsimp only
    rw [hg]
    dsimp only [Option.getD_some]
    generalize wQ L x.1 0 (i :: t) = w
    obtain ⟨e, sum, ok⟩ := w
    unfold Z9
    dsimp only
    cases ok with
    | false => rw [bI (by rfl), if_neg (by simp)]
    | true =>
      rw [bu (by rfl)]
      by_cases h2 : e = x.1
      ·rw [bu (by rw [h2]; exact bne_self_eq_false' _)]
       by_cases h3 : sum < 0
       ·rw [bu (decide_eq_false (by omega)), if_pos ⟨rfl, h2, h3⟩]
       ·rw [bI (decide_eq_true (by omega)), if_neg (fun h => h3 h.2.2)]
      ·rw [bI (bne_iff_ne.2 h2), if_neg (fun h => h2 h.2.1)]
 ·rw [bI (bne_iff_ne.2 h), if_pos h]
end
def mD (c : ZR) : Int :=
 if bO c.1 ≠ 0 then bO c.1 else if sG c.1 c.2.1.1 c.2.1.2 = 0 then 5 else
 if c.2.2.1 then (if fc (bC c.1) 0 (sG c.1 c.2.1.1 c.2.1.2) c.2.2.2.2 = (c.2.2.2.1, 0) then 0 else 8)
 else (if fc (bC c.1) (sG c.1 c.2.1.1 c.2.1.2) 0 c.2.2.2.2 = (-c.2.2.2.1, 0) then 0 else 8)
def nu (c : ZR) : Int :=
 if bO c.1 ≠ 0 then bO c.1 else if c.2.1 ≠ (0, 0) ∨ c.2.2.1 = true ∨ c.2.2.2.1 ≠ 0 then 1 else if rH (bC c.1) c.2.2.2.2 = 0 then 0 else 8
def SW (b : bH) (c : ZR) : Bool × Int :=
 if bO b ≠ 0 then (false, bO b) else
 if c.2.1 = (0, 0) then (if nu c ≠ 0 then (false, nu c) else (YL c.1 b, 0)) else (if mD c ≠ 0 then (false, mD c) else (YL c.1 b, 0))
theorem wr_neg {n : Int} (h : I64 n) : ZT (0 - n) = if n = -9223372036854775808 then n else -n := by
 have e : ZT (0 - n) = if (0 - n) % 18446744073709551616 ≥ 9223372036854775808 then (0 - n) % 18446744073709551616 - 18446744073709551616 else (0 - n) % 18446744073709551616 := by
  simp [ZT, IntKind.wrap, IntKind.bits, IntKind.signed]
 rw [e]
 unfold I64 at h
 split <;> split <;> omega
theorem D1 {c : ZR} (hI : In c.1) (hv : I64 c.2.2.2.1) : jI c = some (mD c) := by
 unfold jI qH mD
 rw [gF hI.size hI.num, aW]
 by_cases hc : bO c.1 = 0
 ·have hg := (bS c.1).1 hc
  rw [bu (by simp [ine, hc]), if_neg (show ¬ (bO c.1 ≠ 0) from fun h => h hc), Iy hI, aW, yb hg, nr hI, aW, ic hg]
  dsimp only
  by_cases h0 : sG c.1 c.2.1.1 c.2.1.2 = 0
  ·rw [if_pos h0, if_pos h0]; rfl
  ·have hN := hg.sys
   have hr := dn c.1 c.2.1
   have hz := dW c.1
   rw [if_neg h0, if_neg h0, bu (by rfl), show (((bn c.1).length : Int) + 1) = (((bn c.1).length + 1 : Nat) : Int) by push_cast; rfl]
   dsimp only
   rw [show (∀ f : Int → Option Int, ck (0 - c.2.2.2.1) f = f (ZT (0 - c.2.2.2.1))) from fun f => rfl, wr_neg hv]
   have key : ∀ (u v : Int) (t t' : Int), (t' = t ∨ (t' = -9223372036854775808 ∧ t = 9223372036854775808)) → (ifb (ine (fc (bC c.1) u v c.2.2.2.2).2 0) (some (8 : Int)) (ifb (ine (fc (bC c.1) u v c.2.2.2.2).1 t') (some 8) (some 0))) = some (if fc (bC c.1) u v c.2.2.2.2 = (t, 0) then 0 else 8) := by
    intro u v t t' ht
    have hb : -9000000000000000000 ≤ (fc (bC c.1) u v c.2.2.2.2).1 ∧ (fc (bC c.1) u v c.2.2.2.2).1 ≤ 9000000000000000000 := by
     unfold fc
     split
     ·simp
     ·rename_i hi
      split
      ·have := VK hN c.2.2.2.2 u 0 0 (by simp)
       have := (Su (by simpa using hi)).1
       dsimp only
       omega
      ·simp
    generalize fc (bC c.1) u v c.2.2.2.2 = p at hb ⊢
    by_cases h2 : p.2 = 0
    ·rw [bu (by rw [h2]; rfl)]
     by_cases h1 : p.1 = t'
     ·have : p = (t, 0) := Prod.ext (by rcases ht with h | h <;> omega) h2
      rw [bu (by rw [h1]; exact bne_self_eq_false' _), if_pos this]
     ·have : ¬ p = (t, 0) := fun e => by
       have e1 : p.1 = t := by rw [e]
       rcases ht with h | h <;> omega
      rw [bI (bne_iff_ne.2 h1), if_neg this]
    ·have : ¬ p = (t, 0) := fun e => h2 (by rw [e])
     rw [bI (bne_iff_ne.2 h2), if_neg this]
   unfold I64 at hv
   cases c.2.2.1 with
   | true =>
     rw [ez, A9 hN hz hr, aW, key _ _ _ _ (.inl rfl)]
     rfl
   | false =>
     rw [bX, A9 hN hr hz, aW, key _ _ (-c.2.2.2.1) _ (by split <;> omega)]
     rfl
 ·rw [bI (by simp [ine, hc]), if_pos hc]
theorem N8 {c : ZR} (hI : In c.1) : kM c = some (nu c) := by
 unfold kM oH nu
 rw [gF hI.size hI.num, aW]
 by_cases hc : bO c.1 = 0
 ·have hg := (bS c.1).1 hc
  rw [bu (by simp [ine, hc]), if_neg (show ¬ (bO c.1 ≠ 0) from fun h => h hc)]
  by_cases h1 : c.2.1 = (0, 0)
  ·have e1 : (!((ff c.2.1.1 0) && ((ff c.2.1.2 0) && true))) = false := by rw [h1]; rfl
   rw [e1, bX]
   cases h2 : c.2.2.1 with
   | true => rw [ez, if_pos (.inr (.inl rfl))]
   | false =>
     rw [bX]
     by_cases h3 : c.2.2.2.1 = 0
     ·rw [bu (by rw [h3]; rfl), if_neg (by simp [h1, h3]), nr hI, aW, ic hg, show (((bn c.1).length : Int) + 1) = (((bn c.1).length + 1 : Nat) : Int) by push_cast; rfl]
      dsimp only
      rw [J4 hg.sys, aW]
      by_cases h4 : rH (bC c.1) c.2.2.2.2 = 0
      ·rw [bu (by rw [h4]; rfl), if_pos h4]
      ·rw [bI (bne_iff_ne.2 h4), if_neg h4]
     ·rw [bI (bne_iff_ne.2 h3), if_pos (.inr (.inr h3))]
  ·have e1 : (!((ff c.2.1.1 0) && ((ff c.2.1.2 0) && true))) = true := by
    rw [Prod.ext_iff] at h1
    simp [ff]
    dsimp only at h1
    omega
   rw [e1, ez, if_pos (.inl h1)]
 ·rw [bI (by simp [ine, hc]), if_pos hc]
theorem Ya {b : bH} {c : ZR} (hb : In b) (hI : In c.1) (hv : I64 c.2.2.2.1) : vp b c = some (SW b c) := by
 unfold vp BF SW
 rw [gF hb.size hb.num, aW]
 by_cases hc : bO b = 0
 ·rw [bu (by simp [ine, hc]), if_neg (show ¬ (bO b ≠ 0) from fun h => h hc)]
  by_cases h1 : c.2.1 = (0, 0)
  ·have e1 : ((ff c.2.1.1 0) && ((ff c.2.1.2 0) && true)) = true := by rw [h1]; rfl
   rw [e1, ez, if_pos h1, N8 hI, aW]
   by_cases h2 : nu c = 0
   ·rw [bu (by rw [h2]; rfl), if_neg (by simp [h2]), part_ok hI.size hb.size, aW]
   ·rw [bI (bne_iff_ne.2 h2), if_pos h2]
  ·have e1 : ((ff c.2.1.1 0) && ((ff c.2.1.2 0) && true)) = false := by
    rw [Prod.ext_iff] at h1
    simp [ff]
    dsimp only at h1
    omega
   rw [e1, bX, if_neg h1, D1 hI hv, aW]
   by_cases h2 : mD c = 0
   ·rw [bu (by rw [h2]; rfl), if_neg (by simp [h2]), part_ok hI.size hb.size, aW]
   ·rw [bI (bne_iff_ne.2 h2), if_pos h2]
 ·rw [bI (by simp [ine, hc]), if_pos hc]
end Go.Proofs.ZzM
end
noncomputable section
namespace Go.Proofs.ZzM
open Go Go.Am
def Fs (b : bH) (l : List Int) : List (Int × Int) := l.map fun i => (fe b)[i.toNat]?.getD (0, 0)
theorem Ux {b : bH} (hg : cX b) (hn : ∀ g ∈ b.2.1, I64 g.2.2.2.2.1.1) {l : List Int} (hl : l.length ≤ 1000) (hi : ∀ i ∈ l, 0 ≤ i ∧ i.toNat < (bC b).length) : ng b l = some (Fs b l) := by
 unfold ng xl
 rw [nr (hg.inn hn), aW, ic hg]
 refine cD l (fun i => Fs b (l.take i)) _ rfl (fun i a hlt ha kn => ?_) (fun kn => ?_)
 ·try dsimp only
  unfold kI
  have hx := hi a (List.mem_of_getElem? ha)
  have hs : (fe b)[a.toNat]? = some ((fe b)[a.toNat]'(by rw [Lv hg]; exact hx.2)) := List.getElem?_eq_getElem _
  generalize (fe b)[a.toNat]'(by rw [Lv hg]; exact hx.2) = x at hs
  have hlen : (Fs b (l.take i)).length ≤ 1000 := by unfold Fs; rw [List.length_map, List.length_take]; omega
  rw [bv hlt, bp ha, kv hx.1 hs, dA (show bW ((Fs b (l.take i)).length + [x].length) = true from bw (show (Fs b (l.take i)).length + 1 ≤ 4294967296 by omega)), br hlt (by omega), take_succ ha]
  unfold Fs
  rw [List.map_append, List.map_singleton, hs]
  rfl
 ·try dsimp only
  unfold kI
  rw [bU, List.take_length]
theorem src_ok {b : bH} : ∀ s ∈ fe b, aa5 b s := by
 intro s hs
 unfold fe at hs
 rcases List.mem_append.1 hs with h | h
 ·have := Qw s h; exact .inl this
 ·have := QM s h; exact .inr this
theorem Yx {b : bH} (hg : cX b) {l : List Int} (hi : ∀ i ∈ l, 0 ≤ i ∧ i.toNat < (bC b).length) : ∀ s ∈ Fs b l, aa5 b s := by
 intro s hs
 obtain ⟨i, h1, rfl⟩ := List.mem_map.1 hs
 have hx := hi i h1
 have hsx : (fe b)[i.toNat]? = some ((fe b)[i.toNat]'(by rw [Lv hg]; exact hx.2)) := List.getElem?_eq_getElem _
 rw [hsx]
 exact src_ok _ (List.getElem_mem _)
section
variable {L : List Lk} {N : Nat}
theorem Cw (R : Nat → List Int) (good : Int → Bool) : ∀ (k : Nat) (u sum : Int) (out : List Int), (∀ i ∈ out, 0 ≤ i ∧ i.toNat < L.length) → (∀ i ∈ oT L R good k u sum out, 0 ≤ i ∧ i.toNat < L.length) ∧ (oT L R good k u sum out).length ≤ out.length + k
 | 0, u, sum, out, h => ⟨h, by simp [oT]⟩
 | k + 1, u, sum, out, h => by
   unfold oT
   cases hn : IK L (R k) good u sum with
   | none =>
     have := Cw R good k u sum out h
     exact ⟨this.1, by have := this.2; dsimp only; omega⟩
   | some i =>
     have hi : i < L.length := by
      unfold IK at hn
      exact (List.findIdx?_eq_some_iff_getElem.1 hn).1
     have := Cw R good k (L[i]?.getD (0, 0, 0)).2.1 (sum + (L[i]?.getD (0, 0, 0)).2.2) (out ++ [(i : Int)]) (fun j hj => by
      rcases List.mem_append.1 hj with h1 | h1
      ·exact h j h1
      ·simp at h1; subst h1; simp; exact hi)
     exact ⟨this.1, by have := this.2; simp at this; dsimp only; omega⟩
theorem QP (N : Nat) (u v : Int) : (∀ i ∈ (IA L N u v).1, 0 ≤ i ∧ i.toNat < L.length) ∧ (IA L N u v).1.length ≤ N := by
 unfold IA
 split
 ·simp
 ·cases h : (lT L N v N).findIdx? (fun x => gv x u == (f8 L N u v).1) with
  | none => simp
  | some k =>
    have hk := (List.findIdx?_eq_some_iff_getElem.1 h).1
    rw [jg] at hk
    have := Cw (L := L) (exL L N v) (fun n => ieq n (f8 L N u v).1) k u 0 [] (by simp)
    exact ⟨this.1, by have := this.2; simp at this; dsimp only; omega⟩
end
def DX (B : bH) (n : Int × Int) (upper : Bool) : List Int :=
 if upper then (IA (bC B) ((bn B).length + 1) 0 (sG B n.1 n.2)).1 else (IA (bC B) ((bn B).length + 1) (sG B n.1 n.2) 0).1
def sR (B : bH) (n : Int × Int) (upper : Bool) : bH := cutP B (Fs B (DX B n upper)) [n]
def certR (B : bH) (n : Int × Int) (upper : Bool) : ZR := (sR B n upper, n, upper, (if upper then (ivR B n).2 else (ivR B n).1), DX (sR B n upper) n upper)
def mj (b : bH) (n : Int × Int) (upper : Bool) : ZR × Int :=
 if (dg b [n]).2 ≠ 0 then (XG, (dg b [n]).2) else
 if bO (sR (dg b [n]).1 n upper) ≠ 0 then (XG, bO (sR (dg b [n]).1 n upper)) else
 if d9 (bC (sR (dg b [n]).1 n upper)) ((bn (sR (dg b [n]).1 n upper)).length + 1) then (certR (dg b [n]).1 n upper, 0) else (XG, 9)
theorem Vk {ρ : Type} : @oJ ρ = @cr ρ := rfl
theorem Wo {ρ : Type} (K : Option ρ) : bt (fun (v23 : Int) kk25 => oI (0 : Int) v23 (fun u24 => kk25 u24) (fun _ => K)) (0 : Int) = K := by
 refine gW (fun x => x = 0) (fun _ => 0) (fun x hx => .inl fun kn => ?_) rfl
 rw [hx]
 rfl
theorem S9 {B : bH} (h : cX B) (hn : ∀ g ∈ B.2.1, I64 g.2.2.2.2.1.1) (n : Int × Int) (upper : Bool) : jJ (B, J8 B) n upper = some (DX B n upper) := by
 unfold jJ qI DX
 rw [Il h hn, aW, show (B, J8 B).2 = J8 B from rfl, Fp]
 cases upper with
 | true => rw [ez, Ur h.sys (dW B) (dn B n), aW]; rfl
 | false => rw [bX, Ur h.sys (dn B n) (dW B), aW]; rfl
theorem Vi {B : bH} (h : cX B) (n : Int × Int) (upper : Bool) : (∀ i ∈ DX B n upper, 0 ≤ i ∧ i.toNat < (bC B).length) ∧ (DX B n upper).length ≤ 60 := by
 have hN := h.sys.n60
 unfold DX
 split
 ·have := QP (L := bC B) ((bn B).length + 1) 0 (sG B n.1 n.2)
  exact ⟨this.1, by have := this.2; omega⟩
 ·have := QP (L := bC B) ((bn B).length + 1) (sG B n.1 n.2) 0
  exact ⟨this.1, by have := this.2; omega⟩
theorem Hs (w : List Int) : ∀ (l : List Cmp) (i : Nat), ∀ c ∈ xN w i l, c ∈ l
 | [], i, c, h => by simp [xN] at h
 | a :: l, i, c, h => by
   simp only [xN] at h
   split at h
   ·rcases List.mem_cons.1 h with h | h
    ·rw [h]; simp
    ·exact List.mem_cons_of_mem _ (Hs w l (i + 1) c h)
   ·exact List.mem_cons_of_mem _ (Hs w l (i + 1) c h)
theorem Z5 {b : bH} (h : In b) (ss : List (Int × Int)) {looks : List (Int × Int)} (hl : looks.length ≤ 1000) : In (cutP b ss looks) := by
 obtain ⟨hs, hn⟩ := h
 have g1 := hs.gauges; have g2 := hs.uses; have g3 := hs.loans; have g4 := hs.compares
 unfold cutP
 refine ⟨⟨?_, ?_, ?_, ?_, hl, fun c hc => hs.piles c (Hs _ _ _ c hc)⟩, fun g hg => hn g (List.mem_filter.1 hg).1⟩
 ·exact Nat.le_trans (List.length_filter_le _ _) g1
 ·exact Nat.le_trans (List.length_filter_le _ _) g2
 ·exact Nat.le_trans (List.length_filter_le _ _) g3
 ·exact Nat.le_trans (Ht _ _ _) g4
theorem Vz {b : bH} (hI : In b) (n : Int × Int) (upper : Bool) : rn b n upper = some (mj b n upper) := by
 unfold rn xu mj
 rw [Vk]
 refine (qn hI (ns := [n]) (by simp) (fun e => some (XG, e)) (fun e he => by rw [dA (by simp [ine, he])]; rfl) (fun z he => by rw [dA (by simp [ine, he])]; rfl) (fun _ _ _ => rfl)).trans ?_
 split
 ·rfl
 ·rename_i e
  have hr := (jq hI (by simpa using e)).1
  dsimp only
  generalize (dg b [n]).1 = B at hr ⊢
  have hci := Vi hr.good n upper
  have hpi : In (sR B n upper) := Z5 (hr.good.inn hr.num) _ (by simp)
  rw [ur, show ((((bn B).length : Int) + 1, bC B) : Sys) = J8 B from rfl, S9 hr.good hr.num, aW, Ux hr.good hr.num (by omega) hci.1, aW,
   cut_ok hr.good.size (by unfold Fs; rw [List.length_map]; omega) (by simp) (Yx hr.good hci.1), aW, show cutP B (Fs B (DX B n upper)) [n] = sR B n upper from rfl, gF hpi.size hpi.num, aW]
  by_cases hc : bO (sR B n upper) = 0
  ·have hg := (bS _).1 hc
   rw [bu (by simp [ine, hc]), if_neg (show ¬ (bO (sR B n upper) ≠ 0) from fun h => h hc)]
   refine (Wo _).trans ?_
   rw [nr hpi, aW, ic hg, bu (by rfl)]
   dsimp only
   rw [show ((((bn (sR B n upper)).length : Int) + 1, bC (sR B n upper)) : Sys) = J8 (sR B n upper) from rfl, Fp (sR B n upper), A8 hg.sys, aW]
   cases ho : d9 (bC (sR B n upper)) ((bn (sR B n upper)).length + 1) with
   | false => rw [if_neg (by simp)]; rfl
   | true =>
     rw [if_pos rfl, ← Fp (sR B n upper), bu (by rfl), KT hr, aW, S9 hg hpi.num, aW]
     cases upper with
     | true => rw [ez, Az hr, aW]; rfl
     | false => rfl
  ·rw [bI (by simp [ine, hc]), if_pos hc, bI (by simp [ine, hc])]
   rfl
theorem Vf {L : List Lk} {N : Nat} (h : gP L N) (ho : d9 L N = true) : uA ((N : Int), L) = some ([], 5) := by
 have hN := h.n60
 unfold uA GC
 rw [jP h, aW, bu (by rfl), wT h.links h.n1 (by omega), aW, if_pos ho]
 rfl
theorem Rr {b : bH} (hg : cX b) (hn : ∀ g ∈ b.2.1, I64 g.2.2.2.2.1.1) (ho : d9 (bC b) ((bn b).length + 1) = true) : AH b = some (XG, 5) := by
 unfold AH Gj
 rw [nr (hg.inn hn), aW, ic hg, bu (by rfl), show ((((bn b).length : Int) + 1, bC b), fe b, (0 : Int)).1 = J8 b from rfl, Fp, Vf hg.sys ho, aW]
 rfl
end Go.Proofs.ZzM
end
noncomputable section
namespace Go.Proofs.ZzM
open Go Go.Am
section
variable {b : bH} {c d : Cmp} {s : Int × Int}
theorem aas (h : Pred b c s) : -10000000000000000 ≤ s.1 ∧ s.1 ≤ s.2 ∧ s.2 ≤ 10000000000000000 := by
 have q := h.good2.cmp (uY (c := bg c))
 obtain ⟨_, _, b1, b2, b3⟩ := C0 (b := b) h.good.film (c := bg c) ⟨q.nums, q.r1, q.r2⟩
 have e1 : Sk b c = Ia (dG b (bg c)).1 + (je b (bg c)).1 - (bg c).2.2.2.2.2.1 := rfl
 have e2 : xP b c = (dG b (bg c)).2.1 / (dG b (bg c)).2.2 + (je b (bg c)).2 + (bg c).2.2.2.2.2.1 := rfl
 have o := h.order
 have n := h.ends
 have bd := h.bd
 omega
end
end Go.Proofs.ZzM
end
noncomputable section
namespace Go.Proofs.ZzM
open Go Go.Am
def fL (e : End) : List Int := [e.1 - e.2.1, e.2.2 - e.1, Int.tdiv (e.2.2 - e.2.1) 2, Int.tdiv (e.2.2 - e.2.1) 2 - 1, Int.tdiv (e.2.2 - e.2.1) 2 + 1]
def pm (e : End) (n : Int) : List Int := [n - e.2.1, e.2.2 - n]
def atE (e : End) (d : Int) : Int := min e.1 (min (e.2.1 + d) (e.2.2 - d))
def Fu (w : CS) (d : Int) : Int × Int := (-(atE w.2.2 d), atE w.2.1 d)
def U3 (r : Int × Int) (n : Int) : List Int := [n - 2, n - 1, n, n + 1, n + 2].filter fun d => decide (r.1 < d) && decide (d < r.2)
def IL (r : Int × Int) (l : List Int) : List Int := [r.1, r.2] ++ l.flatMap (U3 r)
def S8 (w : CS) (l : List Int) : Int := l.foldl (fun m d => max m ((Fu w d).2 - (Fu w d).1)) (-1)
def VI (w : CS) : Int := S8 w (IL w.1 (fL w.2.1 ++ fL w.2.2))
def Sm (n : Int) : Prop := -100000000000000000 ≤ n ∧ n ≤ 100000000000000000
structure N6 (e : End) : Prop where
 s : Sm e.1
 u : Sm e.2.1
 d : Sm e.2.2
structure N3 (w : CS) : Prop where
 lo : Sm w.1.1
 hi : Sm w.1.2
 high : N6 w.2.1
 low : N6 w.2.2
theorem Ol (n : Int) : -1 ≤ n - 2 * Int.tdiv n 2 ∧ n - 2 * Int.tdiv n 2 ≤ 1 := by
 have h1 := Int.tmod_add_mul_tdiv n 2
 have h2 := Int.tmod_two_eq n
 omega
theorem EM {e : End} (h : N6 e) : gC e = some (fL e) := by
 obtain ⟨⟨a1, a2⟩, ⟨b1, b2⟩, c1, c2⟩ := h
 have h2 := Ol (e.2.2 - e.2.1)
 unfold gC qA
 rw [bz (by omega) (by omega), bz (by omega) (by omega), bz (by omega) (by omega), bz (by omega) (by omega), bz (by omega) (by omega), bz (by omega) (by omega)]
 rfl
theorem EV {e : End} (h : N6 e) {n : Int} (hn : -1000000000000000000 ≤ n ∧ n ≤ 1000000000000000000) : gD e n = some (pm e n) := by
 obtain ⟨⟨a1, a2⟩, ⟨b1, b2⟩, c1, c2⟩ := h
 unfold gD qB
 rw [bz (by omega) (by omega), bz (by omega) (by omega)]
 rfl
theorem aae {e : End} (h : N6 e) {d : Int} (hd : Sm d) : pY e d = some (atE e d) := by
 obtain ⟨⟨a1, a2⟩, ⟨b1, b2⟩, c1, c2⟩ := h
 obtain ⟨d1, d2⟩ := hd
 unfold pY BC
 rw [bz (by omega) (by omega), bz (by omega) (by omega), Hz, Hz]
 unfold atE
 congr 1
 omega
theorem X5 {e : End} (h : N6 e) {d : Int} (hd : Sm d) : -200000000000000000 ≤ atE e d ∧ atE e d ≤ 100000000000000000 := by
 obtain ⟨⟨a1, a2⟩, ⟨b1, b2⟩, c1, c2⟩ := h
 obtain ⟨d1, d2⟩ := hd
 unfold atE
 omega
theorem VW {w : CS} (h : N3 w) {d : Int} (hd : Sm d) : dO w d = some (Fu w d) := by
 unfold dO oA
 have b1 := X5 h.low hd
 rw [aae h.low hd, aW, bz (by omega) (by omega), aae h.high hd, aW]
 unfold Fu
 rw [Int.zero_sub]
theorem Zb (r : Int × Int) (n : Int) : (U3 r n).length ≤ 5 := List.length_filter_le _ _
theorem HI (r : Int × Int) : ∀ l : List Int, (l.flatMap (U3 r)).length ≤ l.length * 5
 | [] => by simp
 | n :: l => by
   have h1 := Zb r n
   have h2 := HI r l
   rw [List.flatMap_cons, List.length_append, List.length_cons]
   omega
theorem aaE {ρ : Type} (r : Int × Int) {n : Int} (hn : -4000000000000000000 ≤ n ∧ n ≤ 4000000000000000000) {out : List Int} (ho : out.length ≤ 1000) (K : List Int → Option ρ) :
 bt (fun (v9 : (Val (.pair tI (.slice tI)))) kk12 => fY n r.1 r.2 v9.1 v9.2 (fun u10 u11 => kk12 (u10, u11)) K) (n - 2, out) = K (out ++ U3 r n) := by
 let five : List Int := [n - 2, n - 1, n, n + 1, n + 2]
 have hg : ∀ (i : Nat), i < 5 → five[i]? = some (n - 2 + i) := by
  intro i hi
  have : i = 0 ∨ i = 1 ∨ i = 2 ∨ i = 3 ∨ i = 4 := by omega
  rcases this with rfl | rfl | rfl | rfl | rfl <;> simp only [five, List.getElem?_cons_zero, List.getElem?_cons_succ] <;> congr 1 <;> omega
 refine gW (fun v => ∃ i : Nat, i ≤ 5 ∧ v = (n - 2 + (i : Int), out ++ (five.take i).filter fun d => decide (r.1 < d) && decide (d < r.2))) (fun v => (n + 3 - v.1).toNat) ?_ ⟨0, by omega, by simp⟩
 rintro v ⟨i, hi, rfl⟩
 rcases Nat.lt_or_ge i 5 with h5 | h5
 ·refine .inr ⟨(n - 2 + ((i + 1 : Nat) : Int), out ++ (five.take (i + 1)).filter fun d => decide (r.1 < d) && decide (d < r.2)), ⟨i + 1, h5, rfl⟩, by dsimp only; omega, fun kn => ?_⟩
  have hl : ((five.take i).filter fun d => decide (r.1 < d) && decide (d < r.2)).length ≤ 5 := m9 _ five i
  dsimp only
  unfold fY
  rw [bz (by omega) (by omega), bI (decide_eq_true (by omega)), take_succ (hg i h5), List.filter_append]
  have e0 : n - 2 + (i : Int) + 1 = n - 2 + ((i + 1 : Nat) : Int) := by push_cast; omega
  by_cases h1 : r.1 < n - 2 + (i : Int)
  ·rw [bI (show igt (n - 2 + (i : Int)) r.1 = true from decide_eq_true h1)]
   by_cases h2 : n - 2 + (i : Int) < r.2
   ·rw [bI (show ilt (n - 2 + (i : Int)) r.2 = true from decide_eq_true h2), dA (bw (by rw [List.length_append]; simp only [List.length_singleton]; omega)), bz (by omega) (by omega), e0]
    simp [h1, h2]
   ·rw [bu (show ilt (n - 2 + (i : Int)) r.2 = false from decide_eq_false h2), bz (by omega) (by omega), e0]
    simp [h1, h2]
  ·rw [bu (show igt (n - 2 + (i : Int)) r.1 = false from decide_eq_false h1), bz (by omega) (by omega), e0]
   simp [h1]
 ·refine .inl fun kn => ?_
  obtain rfl : i = 5 := by omega
  dsimp only
  unfold fY
  rw [bz (by omega) (by omega), bu (decide_eq_false (by omega))]
  rfl
theorem Wx (w : CS) {l : List Int} (hl : l.length ≤ 100) (hn : ∀ n ∈ l, -2000000000000000000 ≤ n ∧ n ≤ 2000000000000000000) : iI w l = some (IL w.1 l) := by
 unfold iI oB
 refine cD l (fun i => [w.1.1, w.1.2] ++ (l.take i).flatMap (U3 w.1)) _ rfl (fun i n hi ha kn => ?_) (fun kn => ?_)
 ·try dsimp only
  unfold ik
  have hb := hn n (List.mem_of_getElem? ha)
  have h5 := HI w.1 (l.take i)
  have ht : (l.take i).length ≤ 100 := by rw [List.length_take]; omega
  rw [bv hi, bp ha, bz (by omega) (by omega)]
  refine (aaE w.1 (by omega) (by rw [List.length_append]; simp only [List.length_cons, List.length_nil]; omega) _).trans ?_
  rw [br hi (by omega), take_succ ha, List.flatMap_append, List.append_assoc]
  simp
 ·try dsimp only
  unfold ik
  rw [bU, List.take_length]
  rfl
theorem YT {r : Int × Int} {l : List Int} {d : Int} : d ∈ IL r l ↔ d = r.1 ∨ d = r.2 ∨ (r.1 < d ∧ d < r.2 ∧ ∃ n ∈ l, n - 2 ≤ d ∧ d ≤ n + 2) := by
 unfold IL U3
 simp only [List.mem_append, List.mem_cons, List.not_mem_nil, or_false, List.mem_flatMap, List.mem_filter, Bool.and_eq_true, decide_eq_true_eq]
 constructor
 ·rintro ((h | h) | ⟨n, hn, h, h1, h2⟩)
  ·exact .inl h
  ·exact .inr (.inl h)
  ·exact .inr (.inr ⟨h1, h2, n, hn, by omega, by omega⟩)
 ·rintro (h | h | ⟨h1, h2, n, hn, h3, h4⟩)
  ·exact .inl (.inl h)
  ·exact .inl (.inr h)
  ·exact .inr ⟨n, hn, by omega, h1, h2⟩
theorem TD (r : Int × Int) {l : List Int} (hl : l.length ≤ 100) : (IL r l).length ≤ 600 := by
 have := HI r l
 unfold IL
 rw [List.length_append]
 simp only [List.length_cons, List.length_nil]
 omega
theorem Ww {w : CS} (h : N3 w) {l : List Int} : ∀ d ∈ IL w.1 l, Sm d := by
 intro d hd
 obtain ⟨a1, a2⟩ := h.lo
 obtain ⟨b1, b2⟩ := h.hi
 rcases YT.1 hd with h | h | ⟨h1, h2, _⟩
 ·rw [h]; exact ⟨a1, a2⟩
 ·rw [h]; exact ⟨b1, b2⟩
 ·exact ⟨by omega, by omega⟩
theorem EN {e : End} (h : N6 e) : ∀ n ∈ fL e, -1000000000000000000 ≤ n ∧ n ≤ 1000000000000000000 := by
 obtain ⟨⟨a1, a2⟩, ⟨b1, b2⟩, c1, c2⟩ := h
 have h2 := Ol (e.2.2 - e.2.1)
 intro n hn
 unfold fL at hn
 simp only [List.mem_cons, List.not_mem_nil, or_false] at hn
 omega
theorem Yq {w : CS} (h : N3 w) : jG w = some (VI w) := by
 unfold jG mO
 have hl : ([fL w.2.1, fL w.2.2] : List (List Int)).flatten = fL w.2.1 ++ fL w.2.2 := by simp
 have hll : (fL w.2.1 ++ fL w.2.2).length = 10 := rfl
 rw [EM h.high, aW, EM h.low, aW, mC (by simp) (by rw [hl, hll]; omega), aW, hl, Wx w (by rw [hll]; omega) (fun n hn => by
  rcases List.mem_append.1 hn with hn | hn
  ·have := EN h.high n hn; omega
  ·have := EN h.low n hn; omega), aW]
 have hnl := TD w.1 (l := fL w.2.1 ++ fL w.2.2) (by rw [hll]; omega)
 have hsm := Ww h (l := fL w.2.1 ++ fL w.2.2)
 unfold VI
 generalize IL w.1 (fL w.2.1 ++ fL w.2.2) = l at hnl hsm ⊢
 refine gW (fun v => ∃ i : Nat, i ≤ l.length ∧ v = (S8 w (l.take i), (i : Int))) (fun v => l.length - v.2.toNat) ?_ ⟨0, by omega, rfl⟩
 rintro v ⟨i, hi, rfl⟩
 rcases Nat.lt_or_ge i l.length with h2 | h2
 ·have ha : l[i]? = some l[i] := List.getElem?_eq_getElem h2
  have hs := hsm l[i] (List.getElem_mem _)
  generalize l[i] = d at ha hs
  refine .inr ⟨(S8 w (l.take (i + 1)), ((i + 1 : Nat) : Int)), ⟨i + 1, h2, rfl⟩, by dsimp only; omega, fun kn => ?_⟩
  dsimp only
  unfold gU
  have b1 := X5 h.low hs
  have b2 := X5 h.high hs
  rw [bv h2, bp ha, show dO ((w.1.1, w.1.2), (w.2.1.1, w.2.1.2.1, w.2.1.2.2), w.2.2.1, w.2.2.2.1, w.2.2.2.2) d = dO w d from rfl, VW h hs, aW, bz (by unfold Fu; dsimp only; omega) (by unfold Fu; dsimp only; omega), br h2 (by omega), Ss, take_succ ha]
  unfold S8
  rw [List.foldl_append]
  rfl
 ·refine .inl fun kn => ?_
  obtain rfl : i = l.length := by omega
  dsimp only
  unfold gU
  rw [bU, List.take_length]
theorem S7 {b : bH} {n : Int × Int} {c : Cmp} (hp : (dm b c).2 = 0) : N3 (Oa b n c) := by
 obtain ⟨g1, g2⟩ := mi hp
 have ho := C2 hp
 have hb := aas (OK hp)
 have hx := wJ g2
 have hy := wI g2
 have b6 := V1 g1 g2 ho
 have key : ∀ {s t : Int}, 0 ≤ s ∧ s < ((bn (bK b (bg c))).length + 1 : Nat) → 0 ≤ t ∧ t < ((bn (bK b (bg c))).length + 1 : Nat) → N6 (endP b (bg c) s t) := by
  intro s t hs ht
  have b1 := oS g1 g2 ho hs ht
  have b2 := oS g1 g2 ho hs hy
  have b3 := oS g1 g2 ho hx ht
  have b4 := oS g1 g2 ho hs hx
  have b5 := oS g1 g2 ho hy ht
  unfold endP
  exact ⟨⟨by dsimp only; omega, by dsimp only; omega⟩, ⟨by dsimp only; omega, by dsimp only; omega⟩, by dsimp only; omega, by dsimp only; omega⟩
 exact ⟨⟨by show _ ≤ (dm b c).1.1; omega, by show (dm b c).1.1 ≤ _; omega⟩, ⟨by show _ ≤ (dm b c).1.2; omega, by show (dm b c).1.2 ≤ _; omega⟩, key (dW _) (dn _ n), key (dn _ n) (dW _)⟩
def Ul (b : bH) (n : Int × Int) (c : Cmp) : Int × Int :=
 if (dg b [n]).2 ≠ 0 then (0, (dg b [n]).2) else if (dm (dg b [n]).1 c).2 ≠ 0 then (0, (dm (dg b [n]).1 c).2) else (VI (Oa (dg b [n]).1 n c), 0)
theorem Yr {ρ : Type} : @tr ρ = @cr ρ := rfl
theorem ZM {b : bH} (hI : In b) (n : Int × Int) {c : Cmp} (hA : c.2.2.1.length ≤ 1000) (hB : c.2.2.2.1.length ≤ 1000) : uw b n c = some (Ul b n c) := by
 unfold uw Gd Ul
 rw [Yr]
 refine (qn hI (ns := [n]) (by simp) (fun e => some ((0 : Int), e)) (fun e he => by rw [dA (by simp [ine, he])]) (fun z he => by rw [dA (by simp [ine, he])]) (fun _ _ _ => rfl)).trans ?_
 split
 ·rfl
 ·rename_i e
  have hr := (jq hI (by simpa using e)).1
  dsimp only
  rw [ur, show ((((bn (dg b [n]).1).length : Int) + 1, bC (dg b [n]).1) : Sys) = J8 (dg b [n]).1 from rfl, Qm hr n hA hB, aW]
  unfold NB
  by_cases hp : (dm (dg b [n]).1 c).2 = 0
  ·rw [if_neg (by simp [hp]), if_neg (by simp [hp]), bu (by rfl), Yq (S7 hp), aW]
  ·rw [if_pos hp, if_pos hp, bI (bne_iff_ne.2 hp)]
def VB (x : Int) : Int := max (-288230376151711744) (min x 288230376151711744)
def wU (w : CS) (l : Int × Int) : List Int := (fL w.2.1 ++ fL w.2.2) ++ (pm w.2.1 l.1 ++ pm w.2.2 (-l.1)) ++ (pm w.2.1 l.2 ++ pm w.2.2 (-l.2))
def Tk (w : CS) (l : Int × Int) : Bool := (IL w.1 (wU w l)).all fun d => nw (Fu w d) l != 3
def Fg (b : bH) (n l : Int × Int) (c : Cmp) : Bool × Int :=
 if (dg b [n]).2 ≠ 0 then (false, (dg b [n]).2) else if l.2 < l.1 then (false, 1) else if (dm (dg b [n]).1 c).2 ≠ 0 then (false, (dm (dg b [n]).1 c).2) else (Tk (Oa (dg b [n]).1 n c) (VB l.1, VB l.2), 0)
theorem Uy {ρ : Type} : @oF ρ = @cr ρ := rfl
theorem Z4 (x : Int) : jH x = some (VB x) := by
 unfold jH qE VB
 rw [Hz, Ss]
theorem EW {e : End} (h : N6 e) {n : Int} (hn : -300000000000000000 ≤ n ∧ n ≤ 300000000000000000) : ∀ m ∈ pm e n, -1000000000000000000 ≤ m ∧ m ≤ 1000000000000000000 := by
 obtain ⟨⟨a1, a2⟩, ⟨b1, b2⟩, c1, c2⟩ := h
 intro m hm
 unfold pm at hm
 simp only [List.mem_cons, List.not_mem_nil, or_false] at hm
 omega
theorem Vt {b : bH} (hI : In b) (n l : Int × Int) {c : Cmp} (hA : c.2.2.1.length ≤ 1000) (hB : c.2.2.2.1.length ≤ 1000) : nh b n l c = some (Fg b n l c) := by
 unfold nh xr Fg
 rw [Uy]
 refine (qn hI (ns := [n]) (by simp) (fun e => some (false, e)) (fun e he => by rw [bI (by simp [ine, he])]) (fun z he => by rw [bI (by simp [ine, he])]) (fun _ _ _ => rfl)).trans ?_
 split
 ·rfl
 ·rename_i e
  have hr := (jq hI (by simpa using e)).1
  dsimp only
  by_cases hl : l.2 < l.1
  ·rw [bI (by simp [igt, hl]), if_pos hl]
  ·rw [bu (by simp [igt]; omega), if_neg hl, ur, show ((((bn (dg b [n]).1).length : Int) + 1, bC (dg b [n]).1) : Sys) = J8 (dg b [n]).1 from rfl, Qm hr n hA hB, aW]
   unfold NB
   by_cases hp : (dm (dg b [n]).1 c).2 = 0
   ·rw [if_neg (by simp [hp]), if_neg (by simp [hp]), bu (by rfl)]
    have hw := S7 (n := n) hp
    dsimp only
    generalize Oa (dg b [n]).1 n c = w at hw ⊢
    have f1 : -300000000000000000 ≤ VB l.1 ∧ VB l.1 ≤ 300000000000000000 := by unfold VB; omega
    have f2 : -300000000000000000 ≤ VB l.2 ∧ VB l.2 ≤ 300000000000000000 := by unfold VB; omega
    have q1 : ([fL w.2.1, fL w.2.2] : List (List Int)).flatten = fL w.2.1 ++ fL w.2.2 := by simp
    have q2 : ∀ x y z : List Int, ([x, y, z] : List (List Int)).flatten = x ++ (y ++ z) := by intro x y z; simp
    rw [EM hw.high, aW, EM hw.low, aW, mC (by simp) (by rw [q1]; simp [fL]), aW, q1, Z4, aW, Z4, aW]
    generalize VB l.1 = l1 at f1 ⊢
    generalize VB l.2 = l2 at f2 ⊢
    rw [EV hw.high (by omega), aW, bz (by omega) (by omega), Int.zero_sub, EV hw.low (by omega), aW, mC (by simp) (by rw [q2]; simp [fL, pm]), aW, q2,
     EV hw.high (by omega), aW, bz (by omega) (by omega), Int.zero_sub, EV hw.low (by omega), aW, mC (by simp) (by rw [q2]; simp [fL, pm]), aW, q2]
    have hll : (wU w (l1, l2)).length = 18 := rfl
    have qs : fL w.2.1 ++ fL w.2.2 ++ (pm w.2.1 l1 ++ pm w.2.2 (-l1)) ++ (pm w.2.1 l2 ++ pm w.2.2 (-l2)) = wU w (l1, l2) := rfl
    rw [qs, Wx w (by rw [hll]; omega) (fun m hm => by
     unfold wU at hm
     simp only [List.mem_append] at hm
     rcases hm with ((hm | hm) | (hm | hm)) | (hm | hm)
     ·have := EN hw.high m hm; omega
     ·have := EN hw.low m hm; omega
     ·have := EW hw.high f1 m hm; omega
     ·have := EW hw.low (n := -l1) (by omega) m hm; omega
     ·have := EW hw.high f2 m hm; omega
     ·have := EW hw.low (n := -l2) (by omega) m hm; omega), aW]
    have hnl := TD w.1 (l := wU w (l1, l2)) (by rw [hll]; omega)
    have hsm := Ww hw (l := wU w (l1, l2))
    unfold Tk
    generalize IL w.1 (wU w (l1, l2)) = ds at hnl hsm ⊢
    refine (ip ds (fun d => nw (Fu w d) (l1, l2) == 3) (fun z30 => some ((!(ige z30 (0 : Int))), (0 : Int))) (some (false, 0)) (some (true, 0)) (fun j => by rw [show ige (j : Int) 0 = true from decide_eq_true (by omega)]; rfl) (fun i d hi hd kn => ?_) (fun kn => ?_)).trans ?_
    ·try dsimp only
     unfold kJ
     rw [bv hi, bp hd, show dO ((w.1.1, w.1.2), (w.2.1.1, w.2.1.2.1, w.2.1.2.2), w.2.2.1, w.2.2.2.1, w.2.2.2.2) d = dO w d from rfl, VW hw (hsm d (List.mem_of_getElem? hd)), aW, J5, aW, br hi (by omega), dp]
    ·try dsimp only
     unfold kJ
     rw [bU]
    ·rw [show (fun d => nw (Fu w d) (l1, l2) != 3) = (fun d => !(nw (Fu w d) (l1, l2) == 3)) from rfl, ← List.not_any_eq_all_not]
     cases ds.any fun d => nw (Fu w d) (l1, l2) == 3 <;> rfl
   ·rw [if_pos hp, if_pos hp, bI (bne_iff_ne.2 hp)]
end Go.Proofs.ZzM
end
noncomputable section
namespace Go.Proofs.ZzM
open Go Go.Am
theorem Vj {b : bH} (h : In b) (n : Int × Int) (upper : Bool) : In (mj b n upper).1.1 := by
 have h0 : In o8 := ⟨⟨by simp [o8], by simp [o8], by simp [o8], by simp [o8], by simp [o8], by simp [o8]⟩, by simp [o8]⟩
 unfold mj
 by_cases e : (dg b [n]).2 = 0
 ·rw [if_neg (by simp [e])]
  have hr := (jq h e).1
  split
  ·exact h0
  ·split
   ·exact Z5 (hr.good.inn hr.num) _ (by simp)
   ·exact h0
 ·rw [if_pos e]; exact h0
theorem y1 : jN exB (2, 10) = ((984, 1011), 0) := by decide +kernel
theorem y2 : jN exB (1, 30) = ((964, 1005), 0) := by decide +kernel
theorem y3 : rI exB (1, 10) (2, 10) = ((-6, 11), 0) := by decide +kernel
theorem y4 : aa8 exB 10 [1, 2] = ((1979, 2018), 0) := by decide +kernel
theorem y5 : Yg exB (2, 0) (990, 1010) = (3, 0) := by decide +kernel
theorem y6 : (mj exB (2, 10) true).2 = 0 ∧ (mj exB (2, 10) true).1.2.2.2.1 = 1011 := by decide +kernel
theorem y7 : Ul exB (2, 10) exC = (10, 0) := by decide +kernel
theorem y8 : Fg exB (2, 10) (900, 1100) exC = (true, 0) := by decide +kernel
theorem y9 : SW exB (mj exB (2, 10) true).1 = (true, 0) := by decide +kernel
theorem y10 : bO exB = 0 ∧ d9 (bC exB) ((bn exB).length + 1) = true := by decide +kernel
theorem y11 : mD (mj exB (2, 10) true).1 = 0 := by decide +kernel
theorem UA : gB = some true := by
 unfold gB xe ut s7
 have hc := Vj uE (2, 10) true
 have hv : I64 (mj exB (2, 10) true).1.2.2.2.1 := by rw [y6.2]; unfold I64; omega
 rw [aW]
 rw [show ((((0 : Int), (2 : Int)), [((1 : Int), (0 : Int), (1000 : Int), ((-5 : Int), (5 : Int)), ((1 : Int), (10 : Int)), (1 : Int)), ((2 : Int), (0 : Int), (1000 : Int), ((-50 : Int), (50 : Int)), ((1 : Int), (4 : Int)), (0 : Int))], [((1 : Int), (10 : Int))], [((1 : Int), ((20 : Int), (29 : Int)), (3 : Int))], [((7 : Int), (10 : Int), [(1 : Int)], [(2 : Int)], (-20 : Int), (1 : Int), (100 : Int), (200 : Int))], ([] : List (Int × Int))) : bH) = exB from rfl]
 rw [rG uE, aW, rG uE, aW, Lr uE, aW, aa7 uE _ (by decide), aW, ZP uE, aW, Vz uE, aW, y1, y2, y3, y4, y5, y6.1, y6.2]
 rw [show uw exB ((2 : Int), (10 : Int)) ((8 : Int), (10 : Int), [(1 : Int)], [(2 : Int)], (0 : Int), (0 : Int), (0 : Int), (0 : Int)) = some (Ul exB (2, 10) exC) from ZM uE _ (c := exC) (by decide) (by decide),
  show nh exB ((2 : Int), (10 : Int)) ((900 : Int), (1100 : Int)) ((8 : Int), (10 : Int), [(1 : Int)], [(2 : Int)], (0 : Int), (0 : Int), (0 : Int), (0 : Int)) = some (Fg exB (2, 10) (900, 1100) exC) from Vt uE _ _ (c := exC) (by decide) (by decide),
  Ya uE hc hv, Rr ((bS _).1 y10.1) uE.num y10.2, D1 hc hv, y7, y8, y9, y11]
 rfl
end Go.Proofs.ZzM
end
noncomputable section
namespace Go.Proofs.ZzM
open Go Go.Am
def sn (b : bH) (n : Int × Int) : Prop := ∃ g ∈ b.2.1, g.1 = n.1 ∧ n.2 ∈ bG b g
theorem Y8 {b : bH} (h : cX b) {n : Int × Int} : sG b n.1 n.2 ≠ 0 ↔ sn b n := by
 unfold sG
 constructor
 ·intro hne
  cases hx : iz (bn b) n.1 n.2 with
  | none => rw [hx] at hne; simp at hne
  | some j =>
    have hm := List.mem_of_getElem? (i8 hx).2
    unfold bn at hm
    obtain ⟨g, hg, hd⟩ := List.mem_flatMap.1 hm
    obtain ⟨d, hd, e⟩ := List.mem_map.1 hd
    simp only [Prod.mk.injEq] at e
    obtain ⟨e1, rfl⟩ := e
    exact ⟨g, hg, e1, hd⟩
 ·rintro ⟨g, hg, e, hd⟩
  obtain ⟨i, hi, rfl⟩ := List.mem_iff_getElem.1 hg
  obtain ⟨k, hk, e2⟩ := List.mem_iff_getElem.1 hd
  rw [← e, LV h (List.getElem?_eq_getElem hi) (by rw [List.getElem?_eq_getElem hk, e2])]
  dsimp only
  omega
theorem Qu (b : bH) (x d : Int) : sG b x d = eS b x d := rfl
theorem Xv (b : bH) (n : Int × Int) (g : b9) {d : Int} (hd : d ∈ bG b g) : d ∈ bG (lL b n) g := by
 unfold bG at hd ⊢
 rw [uW] at hd ⊢
 unfold NK lL at *
 simp only [List.mem_append, List.mem_map, List.mem_filter] at hd ⊢
 rcases hd with (h | h) | ⟨m, ⟨h1, h2⟩, h3⟩
 ·exact .inl (.inl h)
 ·exact .inl (.inr h)
 ·exact .inr ⟨m, ⟨.inl h1, h2⟩, h3⟩
theorem WN {b : bH} (n : Int × Int) (h' : cX (lL b n)) : sn (lL b n) n := by
 have hu := h'.looks n (by simp [lL])
 unfold Yu at hu
 split at hu
 ·omega
 obtain ⟨g, hg, _⟩ := Br h' hu
 obtain ⟨hm, e⟩ := jd hg
 refine ⟨g, hm, e, ?_⟩
 unfold bG
 rw [uW]
 unfold NK lL
 simp only [List.mem_append, List.mem_map, List.mem_filter]
 exact .inr ⟨n, ⟨.inr (by simp), by simp [e]⟩, rfl⟩
theorem Fq {b : bH} {n : Int × Int} (e : (mE b n).2 = 0) : (mE b n = (b, 0) ∧ sG b n.1 n.2 ≠ 0) ∨ (mE b n = (lL b n, 0) ∧ cX (lL b n) ∧ sG b n.1 n.2 = 0) := by
 unfold mE at e ⊢
 split
 ·rename_i h; exact .inl ⟨rfl, h⟩
 ·rename_i h1
  rw [if_neg h1] at e
  split
  ·rename_i h2; rw [if_pos h2] at e; exact absurd e h2
  ·rename_i h2; exact .inr ⟨rfl, (bS _).1 (by simpa using h2), by simpa using h1⟩
theorem OC : ∀ {ns : List (Int × Int)} {b : bH}, (gq b ns).2 = 0 → ∀ n, sn b n → sn (gq b ns).1 n
 | [], b, _, n, hn => hn
 | m :: t, b, e, n, hn => by
   unfold gq at e ⊢
   split
   ·rename_i h1; rw [if_pos h1] at e; exact absurd e h1
   ·rename_i h1
    rw [if_neg h1] at e
    refine OC e n ?_
    rcases Fq (by simpa using h1) with ⟨h, _⟩ | ⟨h, _, _⟩
    ·rw [h]; exact hn
    ·rw [h]
     obtain ⟨g, hg, e1, hd⟩ := hn
     exact ⟨g, hg, e1, Xv b m g hd⟩
theorem OB : ∀ {ns : List (Int × Int)} {b : bH}, cX b → (gq b ns).2 = 0 → ∀ n ∈ ns, sn (gq b ns).1 n
 | [], b, _, _, n, hn => by simp at hn
 | m :: t, b, hg, e, n, hn => by
   unfold gq at e ⊢
   split
   ·rename_i h1; rw [if_pos h1] at e; exact absurd e h1
   ·rename_i h1
    rw [if_neg h1] at e
    have h1' : (mE b m).2 = 0 := by simpa using h1
    rcases List.mem_cons.1 hn with rfl | hn
    ·refine OC e n ?_
     rcases Fq h1' with ⟨h, h2⟩ | ⟨h, h2, _⟩
     ·rw [h]; exact (Y8 hg).1 h2
     ·rw [h]; exact WN n h2
    ·exact OB (On hg h1') e n hn
theorem WO {b : bH} {n : Int × Int} {f : Int → Int → Int} {z : Int} : Iz (lL b n) f z ↔ Iz b f z :=
 ⟨fun h => ⟨fun g hg => by have := h.gauge g hg; exact ⟨this.hi, this.lo, this.down, this.loss⟩, h.cmp⟩, fun h => ⟨fun g hg => by have := h.gauge g hg; exact ⟨this.hi, this.lo, this.down, this.loss⟩, h.cmp⟩⟩
theorem OD : ∀ {ns : List (Int × Int)} {b : bH}, (gq b ns).2 = 0 → ∀ {f : Int → Int → Int} {z : Int}, Iz (gq b ns).1 f z ↔ Iz b f z
 | [], b, _, f, z => Iff.rfl
 | m :: t, b, e, f, z => by
   unfold gq at e ⊢
   split
   ·rename_i h1; rw [if_pos h1] at e; exact absurd e h1
   ·rename_i h1
    rw [if_neg h1] at e
    rw [OD e]
    rcases Fq (by simpa using h1) with ⟨h, _⟩ | ⟨h, _, _⟩
    ·rw [h]
    ·rw [h]; exact WO
section
variable {B : bH} (h : Room B)
include h
theorem LU {p : Int → Int} {f : Int → Int → Int} (hm : ∀ g ∈ B.2.1, ∀ d ∈ bG B g, f g.1 d = p (eS B g.1 d)) {n : Int × Int} (hn : sn B n) : p (sG B n.1 n.2) = f n.1 n.2 := by
 obtain ⟨g, hg, e, hd⟩ := hn
 rw [Qu, ← e, hm g hg n.2 hd]
theorem YI (f : Int → Int → Int) (z : Int) {n : Int × Int} (hn : sn B n) : IJ B f z (sG B n.1 n.2) = f n.1 n.2 := by
 obtain ⟨g, hg, e, hd⟩ := hn
 rw [Qu, ← e, sP h.good f z hg hd]
theorem iv_in {n : Int × Int} (hn : sn B n) {f : Int → Int → Int} {z : Int} (hh : Iz B f z) : (ivR B n).1 ≤ f n.1 n.2 - z ∧ f n.1 n.2 - z ≤ (ivR B n).2 := by
 have hp := TO h.good hh
 have a1 := CD h.good.sys h.good.tied h.op (dn B n) (dW B) hp
 have a2 := CD h.good.sys h.good.tied h.op (dW B) (dn B n) hp
 rw [YI h f z hn, kR] at a1 a2
 unfold ivR Yn
 dsimp only
 omega
theorem Y3 {n : Int × Int} (hn : sn B n) {t : Int} (h1 : (ivR B n).1 ≤ t) (h2 : t ≤ (ivR B n).2) : ∃ f z, Iz B f z ∧ f n.1 n.2 - z = t := by
 obtain ⟨p, hp, e⟩ := SA h.good.sys h.good.tied h.op (dn B n) (dW B) (t := t) h1 h2
 obtain ⟨f, hf, hm⟩ := LH h.good hp
 exact ⟨f, p 0, hf, by rw [← LU h hm hn]; exact e⟩
theorem TM (n : Int × Int) : (ivR B n).1 ≤ (ivR B n).2 := AQ h.good.sys h.good.tied h.op (dn B n) (dW B)
theorem bt_at {m n : Int × Int} (hm' : sn B m) (hn : sn B n) {t : Int} (h1 : (btR B m n).1 ≤ t) (h2 : t ≤ (btR B m n).2) : ∃ f z, Iz B f z ∧ f m.1 m.2 - f n.1 n.2 = t := by
 obtain ⟨p, hp, e⟩ := SA h.good.sys h.good.tied h.op (dn B m) (dn B n) (t := t) h1 h2
 obtain ⟨f, hf, hm⟩ := LH h.good hp
 exact ⟨f, p 0, hf, by rw [← LU h hm hn, ← LU h hm hm']; exact e⟩
theorem ZG (m n : Int × Int) : (btR B m n).1 ≤ (btR B m n).2 := AQ h.good.sys h.good.tied h.op (dn B m) (dn B n)
theorem iv_bd (n : Int × Int) : -9007199254740992 ≤ (ivR B n).1 ∧ (ivR B n).2 ≤ 9007199254740992 := by
 have a1 := uF h (dn B n) (dW B)
 have a2 := uF h (dW B) (dn B n)
 unfold ivR
 dsimp only
 omega
end
structure abf (b : bH) (ns : List (Int × Int)) (B : bH) : Prop where
 room : Room B
 nodes : ∀ n ∈ ns, sn B n
 hist : ∀ {f : Int → Int → Int} {z : Int}, Iz B f z ↔ Iz b f z
 good : cX b
 gauges : B.2.1 = b.2.1
theorem Ko {b : bH} (hI : In b) {ns : List (Int × Int)} (e : (dg b ns).2 = 0) : abf b ns (dg b ns).1 := by
 obtain ⟨h1, h2, h3, h4⟩ := jq hI e
 exact ⟨h1, by rw [h2]; exact OB h4 h3, by rw [h2]; exact OD h3, h4, by rw [h2]; exact qk h3⟩
def Li (c : Cmp) : Bool := decide (c.2.2.1.length ≤ 10) && decide (c.2.2.2.1.length ≤ 10)
theorem XW (c : Cmp) : vo c = some (Li c) := by
 unfold vo Bt Li
 rw [b8, b8, dp]
 by_cases h : c.2.2.1.length ≤ 10
 ·rw [if_pos (by simp [ile]; omega)]
  simp [ile, h]
  omega
 ·rw [if_neg (by simp [ile]; omega)]
  simp [h]
def fewP (b : bH) : Bool :=
 !((b.2.2.2.2.1.take 50).any fun c => !Li c) && (decide (b.2.1.length ≤ 14) && (decide (b.2.2.1.length ≤ 45) && (decide (b.2.2.2.1.length ≤ 14) && (decide (b.2.2.2.2.1.length ≤ 42) && decide (b.2.2.2.2.2.length ≤ 12)))))
theorem few_ok (b : bH) : E8 b = some (fewP b) := by
 unfold E8 L3
 have last : (ifb (ile (bE b.2.1) (14 : Int)) (ifb (ile (bE b.2.2.1) (45 : Int)) (ifb (ile (bE b.2.2.2.1) (14 : Int)) (ifb (ile (bE b.2.2.2.2.1) (42 : Int)) (some (ile (bE b.2.2.2.2.2) (12 : Int))) (some false)) (some false)) (some false)) (some false)) =
  some (decide (b.2.1.length ≤ 14) && (decide (b.2.2.1.length ≤ 45) && (decide (b.2.2.2.1.length ≤ 14) && (decide (b.2.2.2.2.1.length ≤ 42) && decide (b.2.2.2.2.2.length ≤ 12))))) := by
  have e : ∀ (n m : Nat), ile (n : Int) (m : Int) = decide (n ≤ m) := fun n m => by simp [ile]
  rw [b8, b8, b8, b8, b8, show (14 : Int) = ((14 : Nat) : Int) from rfl, show (45 : Int) = ((45 : Nat) : Int) from rfl, show (42 : Int) = ((42 : Nat) : Int) from rfl, show (12 : Int) = ((12 : Nat) : Int) from rfl, e, e, e, e, e]
  generalize decide (b.2.1.length ≤ 14) = x1
  generalize decide (b.2.2.1.length ≤ 45) = x2
  generalize decide (b.2.2.2.1.length ≤ 14) = x3
  generalize decide (b.2.2.2.2.1.length ≤ 42) = x4
  cases x1 <;> cases x2 <;> cases x3 <;> cases x4 <;> rfl
 rw [last]
 refine Eq.trans (ip (b.2.2.2.2.1.take 50) (fun c => !Li c) (fun _ => some false) (some false) (some (decide (b.2.1.length ≤ 14) && (decide (b.2.2.1.length ≤ 45) && (decide (b.2.2.2.1.length ≤ 14) && (decide (b.2.2.2.2.1.length ≤ 42) && decide (b.2.2.2.2.2.length ≤ 12)))))) (fun _ => rfl) (fun i c hi hc kn => ?_) (fun kn => ?_)) ?_
 ·try dsimp only
  unfold qr
  rw [List.length_take] at hi
  have hc' : b.2.2.2.2.1[i]? = some c := by rw [List.getElem?_take] at hc; split at hc <;> simp_all
  rw [bv (show i < b.2.2.2.2.1.length by omega), bI (decide_eq_true (by omega)), bp hc', XW, aW, bz (by omega) (by omega), dp]
 ·try dsimp only
  unfold qr
  rw [List.length_take, dp]
  split
  ·rename_i h
   have h' : 50 < b.2.2.2.2.1.length := by rw [b8] at h; simp [ilt] at h; omega
   rw [bu (decide_eq_false (by omega))]
  ·rfl
 ·unfold fewP
  cases List.any (List.take 50 b.2.2.2.2.1) (fun c => !Li c) <;> rfl
theorem Zf {b : bH} (h : fewP b = true) : jM b := by
 simp only [fewP, Bool.and_eq_true, Bool.not_eq_true', decide_eq_true_eq] at h
 obtain ⟨h0, h1, h2, h3, h4, h5⟩ := h
 refine ⟨by omega, by omega, by omega, by omega, by omega, fun c hc => ?_⟩
 rw [List.take_of_length_le (by omega)] at h0
 have := List.any_eq_false.1 h0 c hc
 simp [Li] at this
 omega
end Go.Proofs.ZzM
end
noncomputable section
namespace Go.Proofs.ZzM
open Go Go.Am
theorem wO {b : bH} (hI : In b) {n : Int × Int} (e : (jN b n).2 = 0) : ∃ B, abf b [n] B ∧ jN b n = (ivR B n, 0) := by
 unfold jN at e ⊢
 by_cases h : (dg b [n]).2 = 0
 ·rw [if_neg (by simp [h])]
  exact ⟨_, Ko hI h, rfl⟩
 ·rw [if_pos h] at e; exact absurd e h
theorem N9 {b : bH} (hI : In b) {m n : Int × Int} (e : (rI b m n).2 = 0) : ∃ B, abf b [m, n] B ∧ rI b m n = (btR B m n, 0) := by
 unfold rI at e ⊢
 by_cases h : (dg b [m, n]).2 = 0
 ·rw [if_neg (by simp [h])]
  exact ⟨_, Ko hI h, rfl⟩
 ·rw [if_pos h] at e; exact absurd e h
theorem Vv {b : bH} {g f t : Int} (e : (Vw b g f t).2 = 0) : ∃ x ∈ b.2.1, x.1 = g ∧ 0 ≤ f ∧ f ≤ t ∧ x.2.1 ≤ f ∧ Vw b g f t = (gy b x f t, 0) ∧ cX b := by
 unfold Vw at e ⊢
 by_cases ha : A5 b g [f, t] = 0
 ·obtain ⟨hg, hd, x, hx, hm⟩ := Im ha
  have d1 := hd f (by simp)
  rw [if_neg (by simp [ha]), hm] at e ⊢
  dsimp only at e ⊢
  split at e
  ·simp at e
  ·rename_i h1
   split at e
   ·simp at e
   ·rename_i h2
    rw [if_neg h1, if_neg h2]
    obtain ⟨h3, h4⟩ := jd hx
    exact ⟨x, h3, h4, by omega, by omega, by omega, rfl, hg⟩
 ·rw [if_pos ha] at e; exact absurd e ha
theorem Xa {b : bH} {f : Int → Int → Int} {z : Int} (h : Iz b f z) {g : b9} (hg : g ∈ b.2.1) {d e : Int} (h0 : g.2.1 ≤ d) (h1 : d ≤ e) : f g.1 e ≤ f g.1 d ∧ f g.1 d ≤ f g.1 e + gy b g d e :=
 ⟨(h.gauge g hg).down d e h0 h1, (h.gauge g hg).loss d e h0 h1⟩
theorem WZ {b : bH} (hn : ∀ g ∈ b.2.1, I64 g.2.2.2.2.1.1) (g day bK : Int) : nc b g day bK = some true := by
 unfold nc mM
 rw [few_ok, aW, UA]
 by_cases hf : fewP b = true
 case neg => rw [Bool.eq_false_iff.2 hf]; rfl
 have hI : In b := ⟨Zf hf, hn⟩
 rw [hf, bu (by rfl)]
 show aZ (gk b (g, day)) _ = _
 generalize hL : ZT (day + Int.tmod (IntKind.wrap .i64 bK) 400) = L
 rw [rG hI, aW, rG hI, aW, aa9 hI, aW]
 by_cases e1 : (jN b (g, day)).2 = 0
 case neg => rw [bI (bne_iff_ne.2 e1), aW]
 rw [bu (by rw [e1]; rfl)]
 by_cases e2 : (jN b (g, L)).2 = 0
 case neg => rw [bI (bne_iff_ne.2 e2), aW]
 rw [bu (by rw [e2]; rfl)]
 by_cases e3 : (Vw b g day L).2 = 0
 case neg => rw [bI (bne_iff_ne.2 e3), aW]
 rw [bu (by rw [e3]; rfl), Lr hI, aW]
 obtain ⟨B1, A1, q1⟩ := wO hI e1
 obtain ⟨B2, A2, q2⟩ := wO hI e2
 obtain ⟨x, hx, rfl, hd0, hdt, hmade, q3, hg⟩ := Vv e3
 have n1 := A1.nodes (x.1, day) (by simp)
 have n2 := A2.nodes (x.1, L) (by simp)
 -- what histories say of both days
 have key : ∀ {f : Int → Int → Int} {z : Int}, Iz b f z → f x.1 L ≤ f x.1 day ∧ f x.1 day ≤ f x.1 L + gy b x day L := fun hh => Xa hh hx hmade hdt
 have i1 : ∀ {f : Int → Int → Int} {z : Int}, Iz b f z → (ivR B1 (x.1, day)).1 ≤ f x.1 day - z ∧ f x.1 day - z ≤ (ivR B1 (x.1, day)).2 := fun hh => iv_in A1.room n1 (A1.hist.2 hh)
 have i2 : ∀ {f : Int → Int → Int} {z : Int}, Iz b f z → (ivR B2 (x.1, L)).1 ≤ f x.1 L - z ∧ f x.1 L - z ≤ (ivR B2 (x.1, L)).2 := fun hh => iv_in A2.room n2 (A2.hist.2 hh)
 have o1 := TM A1.room (x.1, day)
 have o2 := TM A2.room (x.1, L)
 have b1 := iv_bd A1.room (x.1, day)
 have hb := (m5 hg hx (f := day) (t := L) hd0)
 obtain ⟨f1, z1, h1, v1⟩ := Y3 A1.room n1 (t := (ivR B1 (x.1, day)).1) (by omega) (by omega)
 obtain ⟨f2, z2, h2, v2⟩ := Y3 A1.room n1 (t := (ivR B1 (x.1, day)).2) (by omega) (by omega)
 obtain ⟨f3, z3, h3, v3⟩ := Y3 A2.room n2 (t := (ivR B2 (x.1, L)).1) (by omega) (by omega)
 obtain ⟨f4, z4, h4, v4⟩ := Y3 A2.room n2 (t := (ivR B2 (x.1, L)).2) (by omega) (by omega)
 have k1 := key (A1.hist.1 h1); have k2 := key (A1.hist.1 h2); have k3 := key (A2.hist.1 h3); have k4 := key (A2.hist.1 h4)
 have j1 := i2 (A1.hist.1 h1); have j2 := i2 (A1.hist.1 h2); have j3 := i1 (A2.hist.1 h3); have j4 := i1 (A2.hist.1 h4)
 dsimp only at v1 v2 v3 v4
 rw [q1, q2, q3]
 dsimp only
 have w1 : (ivR B2 (x.1, L)).1 ≤ (ivR B1 (x.1, day)).1 := by omega
 have w2 : (ivR B2 (x.1, L)).2 ≤ (ivR B1 (x.1, day)).2 := by omega
 have w3 : (ivR B1 (x.1, day)).1 - gy b x day L ≤ (ivR B2 (x.1, L)).1 := by omega
 have w4 : (ivR B1 (x.1, day)).2 - gy b x day L ≤ (ivR B2 (x.1, L)).2 := by omega
 have fin : (aZ (some true) fun r11 => ifb r11 (ifb (ile (ivR B2 (x.1, L)).1 (ivR B1 (x.1, day)).1) (ifb (ile (ivR B2 (x.1, L)).2 (ivR B1 (x.1, day)).2) (ck ((ivR B1 (x.1, day)).1 - gy b x day L) fun n12 => ifb (ige (ivR B2 (x.1, L)).1 n12) (ck ((ivR B1 (x.1, day)).2 - gy b x day L) fun n13 => some (ige (ivR B2 (x.1, L)).2 n13)) (some false)) (some false)) (some false)) (some false)) = some true := by
  rw [aW, ez, bI (decide_eq_true w1), bI (decide_eq_true w2), bz (by omega) (by omega), bI (decide_eq_true w3), bz (by omega) (by omega)]
  exact congrArg some (decide_eq_true w4)
 by_cases e4 : (rI b (x.1, day) (x.1, L)).2 = 0
 ·obtain ⟨B3, A3, q4⟩ := N9 hI e4
  have m1 := A3.nodes (x.1, day) (by simp)
  have m2 := A3.nodes (x.1, L) (by simp)
  have o3 := ZG A3.room (x.1, day) (x.1, L)
  obtain ⟨f5, z5, h5, v5⟩ := bt_at A3.room m1 m2 (t := (btR B3 (x.1, day) (x.1, L)).1) (by omega) (by omega)
  obtain ⟨f6, z6, h6, v6⟩ := bt_at A3.room m1 m2 (t := (btR B3 (x.1, day) (x.1, L)).2) (by omega) (by omega)
  have k5 := key (A3.hist.1 h5); have k6 := key (A3.hist.1 h6)
  dsimp only at v5 v6
  rw [q4, bI (by rfl), bu (decide_eq_false (by dsimp only; omega)), bu (decide_eq_false (by dsimp only; omega))]
  exact fin
 ·rw [bu (beq_eq_false_iff_ne.2 e4)]
  exact fin
end Go.Proofs.ZzM
end