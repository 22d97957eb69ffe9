/- lemmas -/
import Derived.Test.YthhhehllmdfhiaaGreatPlA
import Derived.Test.YthhhehllmdfhiaaGreatMdTA
set_option linter.all false
set_option linter.unusedSectionVars false
set_option linter.unusedVariables false
set_option linter.unusedSimpArgs false
noncomputable section
namespace Go.Proofs.ZzM
open Go Go.Am
section
variable {b : bJ} {c : Cmp}
theorem Ud : b8 (bR b c) = (bR b c).2.1.flatMap (de (bR b c)) ++ b.2.2.2.2.1.flatMap (cw (bR b c)) := by
 unfold b8
 have e : bC (bR b c) = ((bR b c).2.1.flatMap (de (bR b c)) ++ b.2.2.2.2.1.flatMap (cw (bR b c))) ++ cw (bR b c) c := by
  unfold bC
  rw [show (bR b c).2.2.2.2.1 = b.2.2.2.2.1 ++ [c] from rfl, List.flatMap_append, List.append_assoc]
  simp
 rw [e, List.length_append, show (cw (bR b c) c).length = 2 from rfl, Nat.add_sub_cancel, List.take_left]
theorem F8 (h' : cZ (bR b c)) {p : Int → Int} : Pot (b8 (bR b c)) p ↔ (∀ g ∈ b.2.1, nO (bR b c) p g) ∧ ∀ d ∈ b.2.2.2.2.1, p (cx (bR b c) d) ≤ p (cy (bR b c) d) + (f8 b d).2 ∧ p (cy (bR b c) d) + (f8 b d).1 ≤ p (cx (bR b c) d) := by
 rw [Ud]
 constructor
 ·intro hp
  refine ⟨fun g hg => ?_, fun d hd => ?_⟩
  ·obtain ⟨i, hi, rfl⟩ := List.mem_iff_getElem.1 hg
   exact (mw h' (i := i) (List.getElem?_eq_getElem hi)).1 fun l hl => hp l.1 l.2.1 l.2.2 (List.mem_append.2 (.inl (List.mem_flatMap.2 ⟨_, List.getElem_mem hi, hl⟩)))
  ·have a1 := hp (cy (bR b c) d) (cx (bR b c) d) (f8 (bR b c) d).2 (List.mem_append.2 (.inr (List.mem_flatMap.2 ⟨d, hd, by simp [cw]⟩)))
   have a2 := hp (cx (bR b c) d) (cy (bR b c) d) (-(f8 (bR b c) d).1) (List.mem_append.2 (.inr (List.mem_flatMap.2 ⟨d, hd, by simp [cw]⟩)))
   have e : f8 (bR b c) d = f8 b d := rfl
   rw [e] at a1 a2
   omega
 ·rintro ⟨hg, hc⟩ u v m hl
  rcases List.mem_append.1 hl with hl | hl
  ·obtain ⟨g, hgm, hl⟩ := List.mem_flatMap.1 hl
   obtain ⟨i, hi, rfl⟩ := List.mem_iff_getElem.1 hgm
   exact (mw h' (i := i) (List.getElem?_eq_getElem hi)).2 (hg _ hgm) (u, v, m) hl
  ·obtain ⟨d, hd, hl⟩ := List.mem_flatMap.1 hl
   obtain ⟨a1, a2⟩ := hc d hd
   have e : f8 (bR b c) d = f8 b d := rfl
   simp only [cw, List.mem_cons, List.not_mem_nil, or_false, e] at hl
   rcases hl with hl | hl
   ·obtain ⟨rfl, rfl, rfl⟩ : u = cy (bR b c) d ∧ v = cx (bR b c) d ∧ m = (f8 b d).2 := by simpa using hl
    exact a1
   ·obtain ⟨rfl, rfl, rfl⟩ : u = cx (bR b c) d ∧ v = cy (bR b c) d ∧ m = -(f8 b d).1 := by simpa using hl
    omega
theorem qE {g : cf} {d : Int} (hd : d ∈ bO b g) : d ∈ bO (bR b c) g := by
 rcases lR.1 hd with e | ⟨x, hx, h1, h2⟩ | hn
 ·exact lR.2 (.inl e)
 ·exact lR.2 (.inr (.inl ⟨x, List.mem_append.2 (.inl hx), h1, h2⟩))
 ·exact lR.2 (.inr (.inr hn))
theorem Yo (g : cf) (f t : Int) : jl (bR b c) g f t = jl b g f t := rfl
theorem DH {b' : bJ} (h' : cZ b') {l : List Int} {day : Int} (f : Int → Int → Int) (z : Int) (hl : ∀ x ∈ l, ∃ g ∈ b'.2.1, g.1 = x ∧ day ∈ bO b' g) : LD b' f z (FL b' l day) = match l with | [] => z | x :: _ => f x day := by
 unfold FL
 cases l with
 | nil => exact m5 f z
 | cons x t =>
   obtain ⟨g, hg, rfl, hd⟩ := hl x (by simp)
   exact ze h' f z hg hd
theorem X2 (h : cZ b) (h' : cZ (bR b c)) : (∃ p, Pot (bC b) p) ↔ ∃ p, Pot (b8 (bR b c)) p := by
 constructor
 ·rintro ⟨p, hp⟩
  obtain ⟨hg, hc⟩ := (MY h).1 hp
  let f : Int → Int → Int := fun id d => match jX b id with | some g => fill b p g d | none => 0
  have hfv : ∀ g ∈ b.2.1, ∀ d, f g.1 d = fill b p g d := fun g hgm d => by
   show (match jX b g.1 with | some g => fill b p g d | none => 0) = _
   rw [yJ h.ids hgm]
  have hq : ∀ g ∈ b.2.1, ∀ d ∈ bO (bR b c) g, LD (bR b c) f (p 0) (fw (bR b c) g.1 d) = fill b p g d := fun g hgm d hd => by
   rw [ze h' f (p 0) hgm hd, hfv g hgm d]
  refine ⟨LD (bR b c) f (p 0), (F8 h').2 ⟨fun g hgm => ?_, fun d hd => ?_⟩⟩
  ·have gf := hg g hgm
   have hmade : g.2.1 ∈ bO b g := lh g
   have e0 := hq g hgm g.2.1 (lh g)
   rw [Ga h hgm gf hmade] at e0
   refine ⟨?_, ?_, fun x y hx hy hxy => ?_, fun x y hx hy hxy => ?_⟩
   ·rw [e0, m5]; exact gf.hi
   ·rw [e0, m5]; exact gf.lo
   ·rw [hq g hgm x hx, hq g hgm y hy]
    exact (Bw h hgm gf (h'.day hgm hx).1 hxy).1
   ·rw [hq g hgm x hx, hq g hgm y hy, Yo]
    exact (Bw h hgm gf (h'.day hgm hx).1 hxy).2
  ·have key : ∀ l : List Int, (∀ x ∈ l, ∃ g ∈ b.2.1, g.1 = x ∧ d.2.1 ∈ bO b g) → LD (bR b c) f (p 0) (FL (bR b c) l d.2.1) = p (FL b l d.2.1) := by
    intro l hl
    rw [DH h' f (p 0) (fun x hx => by obtain ⟨g, q1, q2, q3⟩ := hl x hx; exact ⟨g, q1, q2, qE q3⟩)]
    cases l with
    | nil => rfl
    | cons x t =>
      obtain ⟨g, q1, rfl, q3⟩ := hl x (by simp)
      show f g.1 d.2.1 = p (fw b g.1 d.2.1)
      rw [hfv g q1, Ga h q1 (hg g q1) q3]
   rw [Dy, Dx, key _ (fun x hx => mu h hd (.inl hx)), key _ (fun x hx => mu h hd (.inr hx)), ← Dy, ← Dx]
   exact hc d hd
 ·rintro ⟨p, hp⟩
  obtain ⟨hg, hc⟩ := (F8 h').1 hp
  let f : Int → Int → Int := fun id d => p (fw (bR b c) id d)
  have hq : ∀ g ∈ b.2.1, ∀ d ∈ bO b g, LD b f (p 0) (fw b g.1 d) = p (fw (bR b c) g.1 d) := fun g hgm d hd => ze h f (p 0) hgm hd
  refine ⟨LD b f (p 0), (MY h).2 ⟨fun g hgm => ?_, fun d hd => ?_⟩⟩
  ·have gf := hg g hgm
   have e0 := hq g hgm g.2.1 (lh g)
   refine ⟨?_, ?_, fun x y hx hy hxy => ?_, fun x y hx hy hxy => ?_⟩
   ·rw [e0, m5]; exact gf.hi
   ·rw [e0, m5]; exact gf.lo
   ·rw [hq g hgm x hx, hq g hgm y hy]
    exact gf.down x y (qE hx) (qE hy) hxy
   ·rw [hq g hgm x hx, hq g hgm y hy]
    exact gf.loss x y (qE hx) (qE hy) hxy
  ·have key : ∀ l : List Int, (∀ x ∈ l, ∃ g ∈ b.2.1, g.1 = x ∧ d.2.1 ∈ bO b g) → LD b f (p 0) (FL b l d.2.1) = p (FL (bR b c) l d.2.1) := by
    intro l hl
    rw [DH h f (p 0) hl]
    cases l <;> rfl
   rw [Dy, Dx, key _ (fun x hx => mu h hd (.inl hx)), key _ (fun x hx => mu h hd (.inr hx)), ← Dy, ← Dx]
   exact hc d hd
end
end Go.Proofs.ZzM
end
noncomputable section
namespace Go.Proofs.ZzM
open Go Go.Am
section
variable {L : List Lk} {N : Nat}
theorem Wl.app {u v : Int} {vs : List Int} {d : Int} (h1 : Wl L (fun x => x = u) vs v d) {ws : List Int} {w e : Int} (h2 : Wl L (fun x => x = v) ws w e) : ∃ xs, Wl L (fun x => x = u) xs w (d + e) := by
 induction h2 with
 | nil h => subst h; exact ⟨vs, by rw [Int.add_zero]; exact h1⟩
 | step hw hx ih =>
   obtain ⟨xs, hi⟩ := ih
   have := Wl.step hi hx
   rw [Int.add_assoc] at this
   exact ⟨_, this⟩
def dst (L : List Lk) (N : Nat) (s t : Int) : Int := gv (fj L N s) t
theorem Y5 (h : fB L N) (ht : vA L N) (ho : dw L N = true) {s t : Int} (hs : 0 ≤ s ∧ s < N) (hv : 0 ≤ t ∧ t < N) : dst L N s t ≤ 9007199254740992 := by
 have h2 := h.n60
 obtain ⟨p, hp⟩ := (dY h.links (by omega)).1 ho
 obtain ⟨vs, d, hw, hd⟩ := ht.from' s hs.1 hs.2
 obtain ⟨ws, e, hx, he⟩ := ht.to t hv.1 hv.2
 obtain ⟨xs, hy⟩ := Wl.app hw hx
 have := (eG h.links (by omega) hp hs).low t xs _ (GR.2 hy)
 unfold dst
 omega
theorem Y4 (h : fB L N) (ht : vA L N) (ho : dw L N = true) {s t : Int} (hs : 0 ≤ s ∧ s < N) (hv : 0 ≤ t ∧ t < N) : dst L N s t ≠ fN := by
 have := Y5 h ht ho hs hv
 unfold fN
 omega
theorem Y3 (h : fB L N) (ht : vA L N) (ho : dw L N = true) {s : Int} (hs : 0 ≤ s ∧ s < N) : Pot L (dst L N s) := by
 have h2 := h.n60
 obtain ⟨p, hp⟩ := (dY h.links (by omega)).1 ho
 intro u v m hl
 have hr := h.inr _ hl
 exact (eG h.links (by omega) hp hs).pot h.inr hl (Y4 h ht ho hs hr.1)
theorem VD (h : fB L N) (ho : dw L N = true) {s : Int} (hs : 0 ≤ s ∧ s < N) : dst L N s s = 0 := yT h ho hs.1 hs.2
theorem Pa (h : fB L N) (ht : vA L N) (ho : dw L N = true) {s t : Int} (hs : 0 ≤ s ∧ s < N) (hv : 0 ≤ t ∧ t < N) {p : Int → Int} (hp : Pot L p) : p t - p s ≤ dst L N s t := by
 have h2 := h.n60
 obtain ⟨vs, hw⟩ := (eG h.links (by omega) hp hs).att t hv.1 hv.2 (Y4 h ht ho hs hv)
 obtain ⟨u, hu, hx⟩ := (GR.1 hw).pot hp
 subst hu
 exact hx
theorem acI (h : fB L N) (ht : vA L N) (ho : dw L N = true) {x y : Int} (hx : 0 ≤ x ∧ x < N) (hy : 0 ≤ y ∧ y < N) {t : Int} (h1 : -(dst L N x y) ≤ t) (h2 : t ≤ dst L N y x) : ∃ p, Pot L p ∧ p x - p y = t := by
 refine ⟨fun v => min (dst L N y v) (dst L N x v + t), fun u v m hl => ?_, ?_⟩
 ·have a1 := Y3 h ht ho hy u v m hl
  have a2 := Y3 h ht ho hx u v m hl
  show min _ _ ≤ min _ _ + m
  omega
 ·have e1 := VD h ho hx
  have e2 := VD h ho hy
  show min (dst L N y x) (dst L N x x + t) - min (dst L N y y) (dst L N x y + t) = t
  omega
theorem Se (h : fB L N) (ht : vA L N) (ho : dw L N = true) {x y : Int} (hx : 0 ≤ x ∧ x < N) (hy : 0 ≤ y ∧ y < N) : -(dst L N x y) ≤ dst L N y x := by
 have h2 := h.n60
 obtain ⟨p, hp⟩ := (dY h.links (by omega)).1 ho
 have a1 := Pa h ht ho hx hy hp
 have a2 := Pa h ht ho hy hx hp
 omega
theorem VE (h : fB L N) (ht : vA L N) (ho : dw L N = true) {s t : Int} (hs : 0 ≤ s ∧ s < N) (hv : 0 ≤ t ∧ t < N) : -9007199254740992 ≤ dst L N s t ∧ dst L N s t ≤ 9007199254740992 := by
 have a1 := Y5 h ht ho hs hv
 have a2 := Y5 h ht ho hv hs
 have a3 := Se h ht ho hv hs
 omega
theorem wp (h : fB L N) (ht : vA L N) {s t : Int} (hs : 0 ≤ s ∧ s < N) (hv : 0 ≤ t ∧ t < N) : gx L N s t = if dw L N then (dst L N s t, 0) else (0, 9) := by
 unfold gx
 by_cases ho : dw L N = true
 ·have hne := Y4 h ht ho hs hv
  unfold dst at hne ⊢
  rw [if_neg (by simp [ho]), if_neg hne, if_pos ho]
 ·rw [if_pos (by simpa using ho), if_neg ho]
end
section
variable {b : bJ} {c : Cmp}
theorem acx (h' : cZ (bR b c)) : GL (bR b c) (b8 (bR b c)) := by
 intro i g hg l hl
 rw [Ud]
 exact List.mem_append.2 (.inl (List.mem_flatMap.2 ⟨g, List.mem_of_getElem? hg, hl⟩))
theorem iY (h' : cZ (bR b c)) : vA (b8 (bR b c)) ((bp (bR b c)).length + 1) := h'.tiedL (acx h')
theorem iG (h' : cZ (bR b c)) : fB (b8 (bR b c)) ((bp (bR b c)).length + 1) :=
 h'.sys.sub (fun l hl => List.mem_of_mem_take hl) (by unfold b8; rw [List.length_take]; omega)
theorem nw (h : cZ b) (h' : cZ (bR b c)) : dw (b8 (bR b c)) ((bp (bR b c)).length + 1) = dw (bC b) ((bp b).length + 1) := by
 have n1 := h.sys.n60
 have n2 := (iG h').n60
 rw [Bool.eq_iff_iff, dY (iG h').links (by omega), dY h.sys.links (by omega)]
 exact (X2 h h').symm
theorem vJ : c ∈ (bR b c).2.2.2.2.1 := by simp [bR]
theorem xB (h' : cZ (bR b c)) : 0 ≤ cx (bR b c) c ∧ cx (bR b c) c < ((bp (bR b c)).length + 1 : Nat) := (Pd h' vJ).rng
theorem xA (h' : cZ (bR b c)) : 0 ≤ cy (bR b c) c ∧ cy (bR b c) c < ((bp (bR b c)).length + 1 : Nat) := (Je h' vJ).rng
def dLo (b : bJ) (c : Cmp) : Int := -(dst (b8 (bR b c)) ((bp (bR b c)).length + 1) (cx (bR b c) c) (cy (bR b c) c))
def dHi (b : bJ) (c : Cmp) : Int := dst (b8 (bR b c)) ((bp (bR b c)).length + 1) (cy (bR b c) c) (cx (bR b c) c)
theorem JG (h : cZ b) (h' : cZ (bR b (bj c))) : du b c = if dw (bC b) ((bp b).length + 1) then Gu b (bj c) (dLo b (bj c), dHi b (bj c)) else ((0, 0), 9) := by
 have e : vz b (bj c) = (bR b (bj c), 0) := by
  unfold vz
  rw [if_neg (by simp [(bH b).2 h]), if_neg (by simp [(bH _).2 h'])]
 unfold du
 rw [e, wp (iG h') (iY h') (xA h') (xB h'), wp (iG h') (iY h') (xB h') (xA h'), nw h h']
 by_cases ho : dw (bC b) ((bp b).length + 1) = true
 ·rw [if_pos ho, if_pos ho, if_pos ho]
  rfl
 ·rw [if_neg ho, if_neg ho, if_neg ho]
  rfl
theorem mG (hp : (du b c).2 = 0) : cZ b ∧ cZ (bR b (bj c)) := by
 have hw : (vz b (bj c)).2 = 0 := by
  unfold du at hp
  by_cases hw : (vz b (bj c)).2 = 0
  ·exact hw
  ·rw [if_pos hw] at hp; exact hp
 unfold vz at hw
 by_cases hb : bM b = 0
 ·rw [if_neg (by simp [hb])] at hw
  by_cases hm : bM (bR b (bj c)) = 0
  ·exact ⟨(bH b).1 hb, (bH _).1 hm⟩
  ·rw [if_pos hm] at hw; exact absurd hw hm
 ·rw [if_pos hb] at hw; exact absurd hw hb
theorem S7 {s : Int × Int} (h : (Gu b c s).2 = 0) : T6 b c ≤ yI b c ∧ Gu b c s = ((s.1 + T6 b c, s.2 + yI b c), 0) := by
 unfold Gu at h ⊢
 split at h
 ·simp at h
 ·rename_i hl
  rw [if_neg hl]
  exact ⟨by omega, rfl⟩
end
end Go.Proofs.ZzM
end
noncomputable section
namespace Go.Proofs.ZzM
open Go Go.Am
structure acY (B : bJ) : Prop where
 good : cZ B
 op : dw (bC B) ((bp B).length + 1) = true
 num : ∀ g ∈ B.2.1, I64 g.2.2.2.2.1.1
theorem iU {b : bJ} (hI : In b) {ns : List (Int × Int)} (e : (dr b ns).2 = 0) : acY (dr b ns).1 ∧ (dr b ns).1 = (eM b ns).1 ∧ (eM b ns).2 = 0 ∧ cZ b := by
 unfold dr at e ⊢
 by_cases hc : bM b = 0
 ·rw [if_neg (by simp [hc])] at e ⊢
  by_cases hr : (eM b ns).2 = 0
  ·rw [if_neg (by simp [hr])] at e ⊢
   cases ho : dw (bC (eM b ns).1) ((bp (eM b ns).1).length + 1) with
   | true =>
     rw [if_pos rfl]
     exact ⟨⟨Gz ((bH b).1 hc) hr, ho, by rw [qL hr]; exact hI.num⟩, rfl, hr, (bH b).1 hc⟩
   | false => rw [ho] at e; simp at e
  ·rw [if_pos hr] at e; exact absurd e hr
 ·rw [if_pos hc] at e; exact absurd e hc
theorem fg (B : bJ) (n : Int × Int) : 0 ≤ nQ B n.1 n.2 ∧ nQ B n.1 n.2 < ((bp B).length + 1 : Nat) := by
 unfold nQ
 cases h : iO (bp B) n.1 n.2 with
 | none => dsimp only; omega
 | some j => have := (jp h).1; dsimp only; omega
theorem JA {B : bJ} (h : cZ B) (hn : ∀ g ∈ B.2.1, I64 g.2.2.2.2.1.1) (s : Sys) (n : Int × Int) : fV (B, s) n = some (nQ B n.1 n.2) := by
 unfold fV yf
 rw [show dg (B, s).1 n = dg B n from rfl, qJ (h.inn hn), aZ, nN h]
 split
 ·rename_i e; rw [e]
 ·rfl
theorem SA {B : bJ} {L : List Lk} {N : Nat} (h : fB L N) {to from' : Int} (h1 : 0 ≤ to ∧ to < N) (h2 : 0 ≤ from' ∧ from' < N) : cq (B, (N : Int), L) to from' = some (gx L N from' to).1 := by
 unfold cq oZ
 rw [show (B, (N : Int), L).2 = ((N : Int), L) from rfl, Gj h h2 h1, aZ]
def JN (B : bJ) : Sys := (((bp B).length : Int) + 1, bC B)
def aa3 (B : bJ) (s t : Int) : Int := dst (bC B) ((bp B).length + 1) s t
def ivR (B : bJ) (n : Int × Int) : Int × Int := (-(aa3 B (nQ B n.1 n.2) 0), aa3 B 0 (nQ B n.1 n.2))
theorem B3 (B : bJ) : JN B = ((((bp B).length + 1 : Nat) : Int), bC B) := by unfold JN; push_cast; rfl
theorem g9 (B : bJ) : 0 ≤ (0 : Int) ∧ (0 : Int) < ((bp B).length + 1 : Nat) := by omega
section
variable {B : bJ} (h : acY B)
include h
theorem Dw {s t : Int} (hs : 0 ≤ s ∧ s < ((bp B).length + 1 : Nat)) (ht : 0 ≤ t ∧ t < ((bp B).length + 1 : Nat)) : -9007199254740992 ≤ aa3 B s t ∧ aa3 B s t ≤ 9007199254740992 :=
 VE h.good.sys h.good.tied h.op hs ht
theorem wm {to from' : Int} (h1 : 0 ≤ to ∧ to < ((bp B).length + 1 : Nat)) (h2 : 0 ≤ from' ∧ from' < ((bp B).length + 1 : Nat)) : cq (B, JN B) to from' = some (aa3 B from' to) := by
 rw [B3, SA h.good.sys h1 h2, wp h.good.sys h.good.tied h2 h1, if_pos h.op]
 rfl
theorem Me (n : Int × Int) : fU (B, JN B) n = some (-(aa3 B (nQ B n.1 n.2) 0)) := by
 unfold fU oY
 have hb := Dw h (fg B n) (g9 B)
 rw [JA h.good h.num, aZ, wm h (g9 B) (fg B n), aZ, bE (by omega) (by omega)]
 congr 1
 omega
theorem Bu (n : Int × Int) : gw (B, JN B) n = some (aa3 B 0 (nQ B n.1 n.2)) := by
 unfold gw kB
 rw [JA h.good h.num, aZ, wm h (fg B n) (g9 B), aZ]
theorem rZ (n : Int × Int) : eT (B, JN B) n = some (ivR B n) := by
 unfold eT kz
 rw [Me h, aZ, Bu h, aZ]
 rfl
end
def BV (b : bJ) (n : Int × Int) : (Int × Int) × Int := if (dr b [n]).2 ≠ 0 then ((0, 0), (dr b [n]).2) else (ivR (dr b [n]).1 n, 0)
theorem JI {b : bJ} (hI : In b) (n : Int × Int) : lP b n = some (BV b n) := by
 unfold lP uq BV
 refine (qO hI (ns := [n]) (by simp) (fun e => some (((0, 0) : Int × Int), e)) (fun e he => by rw [di (by simp [ine, he])]) (fun z he => by rw [di (by simp [ine, he])]) (fun _ _ _ => rfl)).trans ?_
 split
 ·rfl
 ·rename_i e
  have hr := (iU hI (by simpa using e)).1
  dsimp only
  rw [vh, show ((((bp (dr b [n]).1).length : Int) + 1, bC (dr b [n]).1) : Sys) = JN (dr b [n]).1 from rfl, rZ hr, aZ]
theorem Xc {ρ : Type} : @pj ρ = @cB ρ := rfl
theorem aaL {ρ : Type} : @un ρ = @cB ρ := rfl
def btR (B : bJ) (m n : Int × Int) : Int × Int := (-(aa3 B (nQ B m.1 m.2) (nQ B n.1 n.2)), aa3 B (nQ B n.1 n.2) (nQ B m.1 m.2))
def PC (b : bJ) (m n : Int × Int) : (Int × Int) × Int := if (dr b [m, n]).2 ≠ 0 then ((0, 0), (dr b [m, n]).2) else (btR (dr b [m, n]).1 m n, 0)
theorem Xi {b : bJ} (hI : In b) (m n : Int × Int) : se b m n = some (PC b m n) := by
 unfold se yn PC
 rw [Xc]
 refine (qO hI (ns := [m, n]) (by simp) (fun e => some (((0, 0) : Int × Int), e)) (fun e he => by rw [di (by simp [ine, he])]) (fun z he => by rw [di (by simp [ine, he])]) (fun _ _ _ => rfl)).trans ?_
 split
 ·rfl
 ·rename_i e
  have hr := (iU hI (by simpa using e)).1
  dsimp only
  generalize (dr b [m, n]).1 = B at hr ⊢
  have hb := Dw hr (fg B m) (fg B n)
  rw [vh, show ((((bp B).length : Int) + 1, bC B) : Sys) = JN B from rfl, JA hr.good hr.num, aZ, JA hr.good hr.num, aZ, wm hr (fg B n) (fg B m), aZ,
   bE (by omega) (by omega), wm hr (fg B m) (fg B n), aZ]
  unfold btR
  rw [Int.zero_sub]
def nT (s l : Int × Int) : Int := if l.1 ≤ s.1 ∧ s.2 ≤ l.2 then 1 else if s.2 < l.1 ∨ l.2 < s.1 then 2 else 3
theorem Lq (s l : Int × Int) : nz s l = some (nT s l) := by
 unfold nz yd nT
 simp only [dG, ile, ilt, decide_eq_true_eq]
 by_cases h1 : l.1 ≤ s.1 <;> by_cases h2 : s.2 ≤ l.2 <;> by_cases h3 : s.2 < l.1 <;> by_cases h4 : l.2 < s.1 <;> simp [h1, h2, h3, h4]
def ZT (b : bJ) (n l : Int × Int) : Int × Int := if (dr b [n]).2 ≠ 0 then (0, (dr b [n]).2) else if l.2 < l.1 then (0, 1) else (nT (ivR (dr b [n]).1 n) l, 0)
theorem abB {b : bJ} (hI : In b) (n l : Int × Int) : BC b n l = some (ZT b n l) := by
 unfold BC Hn ZT
 rw [aaL]
 refine (qO hI (ns := [n]) (by simp) (fun e => some ((0 : Int), e)) (fun e he => by rw [bN (by simp [ine, he])]) (fun z he => by rw [bN (by simp [ine, he])]) (fun _ _ _ => rfl)).trans ?_
 split
 ·rfl
 ·rename_i e
  have hr := (iU hI (by simpa using e)).1
  dsimp only
  by_cases hl : l.2 < l.1
  ·rw [bN (by simp [igt, hl]), if_pos hl]
  ·rw [bz (by simp [igt]; omega), if_neg hl, vh, show ((((bp (dr b [n]).1).length : Int) + 1, bC (dr b [n]).1) : Sys) = JN (dr b [n]).1 from rfl, rZ hr, aZ, Lq, aZ]
end Go.Proofs.ZzM
end
noncomputable section
namespace Go.Proofs.ZzM
open Go Go.Am
def JL (x y : List Int) : List Int × List Int × Int := if !lW x then ([], [], 1) else if !lW y then ([], [], 1) else (cE x y, cE y x, 0)
theorem SL {x y : List Int} (hx : x.length ≤ 100000) (hy : y.length ≤ 100000) : qD x y = some (JL x y) := by
 unfold qD Dc JL
 rw [Bp (by omega), aZ]
 cases lW x with
 | false => rfl
 | true =>
   rw [Bp (by omega), aZ]
   cases lW y with
   | false => rfl
   | true =>
     rw [pr (by omega) (by omega), aZ, pr (by omega) (by omega), aZ]
     rfl
end Go.Proofs.ZzM
end
noncomputable section
namespace Go.Proofs.ZzM
open Go Go.Am
theorem R5 (ls : List (List Int)) (i : Nat) : (ls.take i).flatten.length ≤ ls.flatten.length := by
 conv => rhs; rw [← List.take_append_drop i ls, List.flatten_append, List.length_append]
 omega
theorem mV {ls : List (List Int)} (hl : ls.length ≤ 1000000) (hf : ls.flatten.length ≤ 1000000) : bS ls = some ls.flatten := by
 have hk : ∀ n : Nat, n ≤ 4000000 → ∀ (f : Int → Option (List Int)), ck (n : Int) f = f n := fun n h f => bE (by omega) (by omega) f
 have second : bw (fun (v9 : (Val (.pair tI (.slice tI)))) kk12 => bW ls (bG ls) v9.1 v9.2 (fun u10 u11 => kk12 (u10, u11)) (fun z8 => some z8)) ((0 : Int), ([] : List Int)) = some ls.flatten := by
  refine cp ls (fun i => (ls.take i).flatten) (some ls.flatten) (f := fun (v9 : (Val (.pair tI (.slice tI)))) kk12 => bW ls (bG ls) v9.1 v9.2 (fun u10 u11 => kk12 (u10, u11)) (fun z8 => some z8)) rfl (fun i x hi hx kn => ?_) (fun kn => ?_)
  ·try dsimp only
   unfold bW
   have h1 := R5 ls (i + 1)
   rw [take_succ hx, List.flatten_append, List.length_append] at h1
   simp only [List.flatten_cons, List.flatten_nil, List.append_nil] at h1
   rw [bB hi, bt hx, bu hi (by omega), take_succ hx, List.flatten_append]
   have : bZ ((List.take i ls).flatten.length + x.length) = true := bD (by omega)
   rw [di this]
   simp
  ·try dsimp only
   unfold bW
   rw [bV]
   simp
 unfold bS ic
 refine gh (fun x : Int × Int => ∃ i : Nat, i ≤ ls.length ∧ x = (((ls.take i).flatten.length : Int), (i : Int))) (fun x => ls.length - x.2.toNat) ?_ ⟨0, by omega, rfl⟩
 rintro x ⟨i, hi, rfl⟩
 rcases Nat.lt_or_ge i ls.length with h2 | h2
 ·refine .inr ⟨(((ls.take (i + 1)).flatten.length : Int), (i : Int) + 1), ⟨i + 1, h2, by simp⟩, by simp; omega, fun kn => ?_⟩
  obtain ⟨x, hx⟩ : ∃ x, ls[i]? = some x := ⟨_, List.getElem?_eq_getElem h2⟩
  have h1 := R5 ls (i + 1)
  rw [take_succ hx, List.flatten_append, List.length_append] at h1
  simp only [List.flatten_cons, List.flatten_nil, List.append_nil] at h1
  try dsimp only
  unfold dn
  rw [bB h2, bt hx, bP]
  have e1 : (((List.take i ls).flatten.length : Int) + (x.length : Int)) = ((List.take i ls).flatten.length + x.length : Nat) := by omega
  rw [e1, hk _ (by omega)]
  have : ilt ((((List.take i ls).flatten.length + x.length : Nat)) : Int) 0 = false := by simp [ilt]; omega
  rw [bz this, bu h2 (by omega), take_succ hx]
  simp
 ·refine .inl fun kn => ?_
  obtain rfl : i = ls.length := by omega
  try dsimp only
  unfold dn
  rw [bV, List.take_length]
  have e2 : ilt ((ls.flatten.length : Nat) : Int) 0 = false := decide_eq_false (by omega)
  dsimp only
  rw [bz e2, Int.sub_zero, hk _ (by omega)]
  rcases Nat.eq_zero_or_pos ls.flatten.length with h0 | h0
  ·have : igt (ls.flatten.length : Int) 0 = false := decide_eq_false (by omega)
   rw [bz this]
   exact second
  ·have : igt (ls.flatten.length : Int) 0 = true := decide_eq_true (by omega)
   rw [bN this]
   have : ((ilt (0 : Int) (ls.flatten.length : Int)) && (bZ (Int.toNat (ls.flatten.length : Int)))) = true := by
    rw [Int.toNat_natCast, bD (by omega), Bool.and_true]
    exact decide_eq_true (by omega)
   rw [di this]
   have : ile 0 (dj (List.replicate (Int.toNat (ls.flatten.length : Int)) (0 : Int))) = true := decide_eq_true (Int.natCast_nonneg _)
   rw [di this]
   exact second
def onP (day : Int) (ids : List Int) : List (Int × Int) := ids.map fun id => (id, day)
theorem XH {day : Int} {ls : List (List Int)} (hl : ls.length ≤ 1000000) (hf : ls.flatten.length ≤ 1000000) : Bz day ls = some (onP day ls.flatten) := by
 unfold Bz G8
 rw [mV hl hf, aZ]
 refine cp ls.flatten (fun i => onP day (ls.flatten.take i)) _ rfl (fun i x hi hx kn => ?_) (fun kn => ?_)
 ·try dsimp only
  unfold oe
  rw [bB hi, bt hx, bu hi (by omega), take_succ hx]
  have : bZ (List.length (onP day (ls.flatten.take i)) + List.length ([(x, day)])) = true := bD (by simp [onP]; omega)
  rw [di this]
  simp [onP]
 ·try dsimp only
  unfold oe
  rw [bV, List.take_length]
theorem aaf {l : List Int} (hl : l.length ≤ 100000) (m : Int) : Gc l m = some (lW l && decide ((l.length : Int) ≤ m)) := by
 unfold Gc Nr
 rw [SL hl (by simp), aZ]
 have e0 : lW [] = true := by decide
 unfold JL
 rw [e0, bP]
 cases lW l <;> rfl
theorem ab7 (n : Int) : BA n = some (SS n) := by
 unfold BA He SS inP
 rw [dG]
 by_cases h : 0 ≤ n
 ·rw [if_pos (by simpa [ige] using h)]; simp [h]
 ·rw [if_neg (by simpa [ige] using h)]; simp [h]
theorem aaP {ρ α : Type} (l : List α) (i : Int) (f : α → Option ρ) : b9 ((ile (0 : Int) i) && (ilt i (dj l))) (gk l (Int.toNat i) f) = dm l i f := by
 unfold dm
 by_cases h0 : 0 ≤ i
 ·by_cases h1 : i < l.length
  ·have e : ((ile (0 : Int) i) && (ilt i (dj l))) = true := by simp [ile, ilt, h0, h1]
   rw [di e]
   simp only [h0, decide_true]
   unfold gk
   rfl
  ·have e : ((ile (0 : Int) i) && (ilt i (dj l))) = false := by simp [ile, ilt, h1]
   rw [e]
   simp only [h0, decide_true]
   rw [List.getElem?_eq_none (by omega)]
   rfl
 ·have e : ((ile (0 : Int) i) && (ilt i (dj l))) = false := by simp [ile, ilt, h0]
  rw [e]
  simp only [h0, decide_false]
  rfl
theorem ach {ρ : Type} (ns : List (Int × Int)) (n : Int) : @rj ρ ns n = @cB ρ n ns := by
 funext v0 v1 v2 v3 v4 v5 v6 v7 kn k0 k1
 unfold rj cB
 rw [aaP]
def PD (B : bJ) (ns : List (Int × Int)) (s : Int × Int) : Int × Int := ns.foldl (fun s n => (s.1 + (ivR B n).1, s.2 + (ivR B n).2)) s
def aci (B : bJ) (f : Int × Int) (ns : List (Int × Int)) : Int × Int := PD B ns (((ns.length : Int) - 1) * f.1, ((ns.length : Int) - 1) * f.2)
def ZN (b : bJ) (day : Int) (ids : List Int) : (Int × Int) × Int :=
 if bM b ≠ 0 then ((0, 0), bM b) else if ids.length = 0 ∨ lW ids = false ∨ SS day = false then ((0, 0), 1) else
 if (dr b (onP day ids)).2 ≠ 0 then ((0, 0), (dr b (onP day ids)).2) else (aci (dr b (onP day ids)).1 b.1 (onP day ids), 0)
theorem SZ (B : bJ) (x y : List (Int × Int)) (s : Int × Int) : PD B (x ++ y) s = PD B y (PD B x s) := by unfold PD; rw [List.foldl_append]
theorem XD {B : bJ} (h : acY B) : ∀ (ns : List (Int × Int)) (s : Int × Int) (m : Int), -m ≤ s.1 ∧ s.1 ≤ m → -m ≤ s.2 ∧ s.2 ≤ m →
 (-(m + ns.length * 9007199254740992) ≤ (PD B ns s).1 ∧ (PD B ns s).1 ≤ m + ns.length * 9007199254740992) ∧ (-(m + ns.length * 9007199254740992) ≤ (PD B ns s).2 ∧ (PD B ns s).2 ≤ m + ns.length * 9007199254740992)
 | [], s, m, h1, h2 => by unfold PD; simp; omega
 | n :: t, s, m, h1, h2 => by
   have b1 := Dw h (fg B n) (g9 B)
   have b2 := Dw h (g9 B) (fg B n)
   have := XD h t (s.1 + (ivR B n).1, s.2 + (ivR B n).2) (m + 9007199254740992) (by unfold ivR; dsimp only; omega) (by unfold ivR; dsimp only; omega)
   show (-(m + ((n :: t).length : Nat) * 9007199254740992) ≤ (PD B t _).1 ∧ _) ∧ _
   unfold PD at this ⊢
   simp only [List.foldl_cons, List.length_cons]
   push_cast
   omega
theorem ZM {b : bJ} (hI : In b) (day : Int) {ids : List Int} (hl : ids.length ≤ 1000) : BB b day ids = some (ZN b day ids) := by
 unfold BB NS ZN
 rw [gQ hI.size hI.num, aZ, aaf (by omega), aZ, ab7, aZ, bP]
 by_cases hc : bM b = 0
 ·rw [bz (by simp [ine, hc]), if_neg (show ¬ (bM b ≠ 0) from fun h => h hc)]
  by_cases h0 : ids.length = 0
  ·rw [bN (by simp [ieq, h0]), if_pos (.inl h0)]
  ·rw [bz (beq_eq_false_iff_ne.2 (by omega))]
   by_cases h1 : lW ids = true
   ·have hp := (Qe ids).1 h1
    have e1 : (lW ids && decide ((ids.length : Int) ≤ 6)) = true := by rw [h1]; simp; omega
    rw [e1, bz (by rfl)]
    by_cases h2 : SS day = true
    ·have hg := (bH b).1 hc
     rw [bz (by rw [h2]; rfl), if_neg (by simp [h0, h1, h2]), XH (by simp) (by simp; omega), aZ]
     have hlen : (onP day ids).length = ids.length := by simp [onP]
     rw [show ([ids] : List (List Int)).flatten = ids by simp, ach, ← gQ hI.size hI.num]
     refine (qO hI (ns := onP day ids) (by omega) (fun e => some (((0, 0) : Int × Int), e)) (fun e he => by rw [bN (by simp [ine, he])]) (fun z he => by rw [bN (by simp [ine, he])]) (fun _ _ _ => rfl)).trans ?_
     split
     ·rfl
     ·rename_i e
      have hr := (iU hI (by simpa using e)).1
      have hf := hg.film
      dsimp only
      generalize (dr b (onP day ids)).1 = B at hr ⊢
      have hm : ∀ x : Int, 0 ≤ x → x ≤ 1000000 → 0 ≤ ((ids.length : Int) - 1) * x ∧ ((ids.length : Int) - 1) * x ≤ 10000000 := by
       intro x h0 h1
       have : ((ids.length : Int) - 1) * x ≤ 5 * 1000000 := Int.mul_le_mul (by omega) h1 h0 (by omega)
       exact ⟨Int.mul_nonneg (by omega) h0, by omega⟩
      have m1 := hm b.1.1 (by omega) (by omega)
      have m2 := hm b.1.2 (by omega) (by omega)
      rw [bE (by omega) (by omega), bE (by omega) (by omega), bE (by omega) (by omega), vh, show ((((bp B).length : Int) + 1, bC B) : Sys) = JN B from rfl]
      unfold aci
      rw [hlen]
      refine cp (onP day ids) (fun i => PD B ((onP day ids).take i) (((ids.length : Int) - 1) * b.1.1, ((ids.length : Int) - 1) * b.1.2)) _ rfl (fun i n hi hn kn => ?_) (fun kn => ?_)
      ·try dsimp only
       unfold ri
       have b1 := Dw hr (fg B n) (g9 B)
       have b2 := Dw hr (g9 B) (fg B n)
       have bs := XD hr ((onP day ids).take i) (((ids.length : Int) - 1) * b.1.1, ((ids.length : Int) - 1) * b.1.2) 10000000 (by dsimp only; omega) (by dsimp only; omega)
       have bl : (((onP day ids).take i).length : Int) ≤ 6 := by rw [List.length_take]; omega
       rw [bB hi, bt hn, rZ hr, aZ, take_succ hn, SZ]
       generalize PD B ((onP day ids).take i) (((ids.length : Int) - 1) * b.1.1, ((ids.length : Int) - 1) * b.1.2) = s at bs ⊢
       unfold ivR
       dsimp only
       rw [bE (by omega) (by omega), bE (by omega) (by omega), bu hi (by omega)]
       rfl
      ·try dsimp only
       unfold ri
       rw [bV, List.take_length]
    ·have h2' : SS day = false := by simpa using h2
     rw [h2', bN (by rfl), if_pos (.inr (.inr rfl))]
   ·have h1' : lW ids = false := by simpa using h1
    rw [h1', bN (by rfl), if_pos (.inr (.inl rfl))]
 ·rw [bN (by simp [ine, hc]), if_pos hc]
theorem nx {α : Type} (p : α → Bool) (l : List α) (i : Nat) : ((l.take i).filter p).length ≤ l.length := by
 have h1 := List.length_filter_le p (l.take i)
 rw [List.length_take] at h1
 omega
end Go.Proofs.ZzM
end
noncomputable section
namespace Go.Proofs.ZzM
open Go Go.Am
theorem LR (x y : Int) (g : Bool) : ∀ m : List (Int × Bool), pL (k := tI) (v := .bool) x (F0 (k := tI) (v := .bool) y g m) = if x = y then some g else pL (k := tI) (v := .bool) x m
 | [] => by
   unfold F0 pL jm pL
   by_cases h : x = y <;> simp [h]
 | e :: m => by
   unfold F0
   by_cases h : y = e.1
   ·have : jm tI y e.1 = true := by simp [jm, h]
    rw [this]
    try dsimp only
    unfold pL jm
    by_cases h2 : x = y
    ·simp [h2]
    ·have : ¬ x = e.1 := fun h3 => h2 (h3.trans h.symm)
     simp [h2, this]
   ·have : jm tI y e.1 = false := by simp [jm, h]
    rw [this]
    try dsimp only
    have ih := LR x y g m
    unfold pL
    by_cases h2 : x = e.1
    ·have : jm tI x e.1 = true := by simp [jm, h2]
     rw [this]
     have : ¬ x = y := fun h3 => h (h3.symm.trans h2)
     simp [this]
    ·have : jm tI x e.1 = false := by simp [jm, h2]
     rw [this]
     exact ih
def JO (l : List Int) : List (Int × Bool) := l.foldl (fun m x => F0 (k := tI) (v := .bool) x true m) []
theorem tC (l : List Int) (x : Int) : JO (l ++ [x]) = F0 (k := tI) (v := .bool) x true (JO l) := by unfold JO; rw [List.foldl_append]; rfl
theorem QE (x : Int) : ∀ (l : List Int) (m : List (Int × Bool)), pL (k := tI) (v := .bool) x (l.foldl (fun m x => F0 (k := tI) (v := .bool) x true m) m) = if l.contains x then some true else pL (k := tI) (v := .bool) x m
 | [], m => by simp
 | y :: l, m => by
   rw [List.foldl_cons, QE x l, LR]
   by_cases h : x = y
   ·subst h; simp
   ·simp [h]
theorem QC (l : List Int) (x : Int) : pL (k := tI) (v := .bool) x (JO l) = if l.contains x then some true else none := QE x l []
def y0 (b : bJ) (s : Int × Int) : List Int := if s.1 = 3 then (match b.2.2.2.2.1[s.2.toNat]? with | some c => c.2.2.1 ++ c.2.2.2.1 | none => []) else (match b.2.1[s.2.toNat]? with | some g => [g.1] | none => [])
def Jf (b : bJ) (ss looks : List (Int × Int)) : List Int := ss.flatMap (y0 b) ++ looks.map fun n => n.1
def BL (ss : List (Int × Int)) : List Int := (ss.filter fun s => s.1 == 3).map fun s => s.2
def yG (w : List Int) : Nat → List Cmp → List Cmp
 | _, [] => []
 | i, c :: t => if w.contains (i : Int) then c :: yG w (i + 1) t else yG w (i + 1) t
def cutP (b : bJ) (ss looks : List (Int × Int)) : bJ :=
 (b.1, b.2.1.filter fun g => (Jf b ss looks).contains g.1, b.2.2.1.filter fun u => (Jf b ss looks).contains u.1, b.2.2.2.1.filter fun l => (Jf b ss looks).contains l.1, yG (BL ss) 0 b.2.2.2.2.1, looks)
def acW (b : bJ) (s : Int × Int) : Prop := ((s.1 = 1 ∨ s.1 = 2) ∧ 0 ≤ s.2 ∧ s.2 < b.2.1.length) ∨ (s.1 = 3 ∧ 0 ≤ s.2 ∧ s.2 < b.2.2.2.2.1.length)
theorem Mg (w : List Int) (c : Cmp) : ∀ (l : List Cmp) (i : Nat), yG w i (l ++ [c]) = yG w i l ++ if w.contains ((i + l.length : Nat) : Int) then [c] else []
 | [], i => by simp only [List.nil_append, yG, List.length_nil, Nat.add_zero]
 | a :: l, i => by
   have e : ((i + 1 + l.length : Nat) : Int) = ((i + (l.length + 1) : Nat) : Int) := by congr 1; omega
   simp only [List.cons_append, yG, Mg w c l (i + 1), List.length_cons, e]
   split <;> rfl
theorem IG (w : List Int) : ∀ (l : List Cmp) (i : Nat), (yG w i l).length ≤ l.length
 | [], i => by simp [yG]
 | a :: l, i => by
   have := IG w l (i + 1)
   simp only [yG]
   split <;> simp only [List.length_cons] <;> omega
theorem uZ {ρ : Type} (x : Int) (l : List Int) (f : Bool → Option ρ) (g : Option ρ) : PE (k := tI) (v := .bool) x (JO l) f g = if l.contains x then f true else g := by
 unfold PE
 rw [QC]
 by_cases h : l.contains x = true
 ·rw [if_pos h, if_pos h]
 ·rw [if_neg h, if_neg h]
section
variable {ρ : Type}
theorem cut_L3 (l : List (Int × Int)) (hl : l.length ≤ 1000) (ids : List Int) (K : List (Int × Int) → Option ρ) : bw (fun (v47 : (Val (.pair tI (.slice bc)))) kk50 => pW l (bG l) (JO ids) v47.1 v47.2 (fun u48 u49 => kk50 (u48, u49)) K) ((0 : Int), []) = K (l.filter fun u => ids.contains u.1) := by
 refine cp l (fun i => (l.take i).filter fun u => ids.contains u.1) _ rfl (fun i a hi ha kn => ?_) (fun kn => ?_)
 ·try dsimp only
  unfold pW
  have h1 := nx (fun u : Int × Int => ids.contains u.1) l i
  rw [bB hi, bt ha, uZ, take_succ ha, List.filter_append]
  by_cases h : ids.contains a.1 = true
  ·rw [if_pos h, eu, di (bD (by simp only [List.length_singleton]; omega)), bu hi (by omega)]
   simp only [List.filter_cons, List.filter_nil, h, if_pos]
  ·rw [if_neg h, bu hi (by omega)]
   simp only [List.filter_cons, List.filter_nil, h, if_neg, Bool.false_eq_true, not_false_eq_true, List.append_nil]
 ·try dsimp only
  unfold pW
  rw [bV, List.take_length]
theorem cut_L4 (l : List Gh) (hl : l.length ≤ 1000) (ids : List Int) (K : List Gh → Option ρ) : bw (fun (v47 : (Val (.pair tI (.slice dC)))) kk50 => pV l (bG l) (JO ids) v47.1 v47.2 (fun u48 u49 => kk50 (u48, u49)) K) ((0 : Int), []) = K (l.filter fun u => ids.contains u.1) := by
 refine cp l (fun i => (l.take i).filter fun u => ids.contains u.1) _ rfl (fun i a hi ha kn => ?_) (fun kn => ?_)
 ·try dsimp only
  unfold pV
  have h1 := nx (fun u : Gh => ids.contains u.1) l i
  rw [bB hi, bt ha, uZ, take_succ ha, List.filter_append]
  by_cases h : ids.contains a.1 = true
  ·rw [if_pos h, eu, di (bD (by simp only [List.length_singleton]; omega)), bu hi (by omega)]
   simp only [List.filter_cons, List.filter_nil, h, if_pos]
  ·rw [if_neg h, bu hi (by omega)]
   simp only [List.filter_cons, List.filter_nil, h, if_neg, Bool.false_eq_true, not_false_eq_true, List.append_nil]
 ·try dsimp only
  unfold pV
  rw [bV, List.take_length]
theorem cut_L5 (l : List Cmp) (hl : l.length ≤ 1000) (hp : ∀ c ∈ l, c.2.2.1.length ≤ 1000 ∧ c.2.2.2.1.length ≤ 1000) (w : List Int) (K : List Cmp → Option ρ) : bw (fun (v47 : (Val (.pair tI (.slice bq)))) kk50 => pU l (bG l) (JO w) v47.1 v47.2 (fun u48 u49 => kk50 (u48, u49)) K) ((0 : Int), []) = K (yG w 0 l) := by
 refine cp l (fun i => yG w 0 (l.take i)) _ rfl (fun i a hi ha kn => ?_) (fun kn => ?_)
 ·try dsimp only
  unfold pU
  have h1 := IG w (l.take i) 0
  have h2 := hp a (List.mem_of_getElem? ha)
  have e : (l.take i).length = i := by rw [List.length_take]; omega
  rw [bB hi, bt ha, uZ, take_succ ha, Mg, e, Nat.zero_add]
  by_cases h : w.contains (i : Int) = true
  ·rw [if_pos h, if_pos h, eu, di (bD (by omega)), di (bD (by omega)), di (bD (by simp only [List.length_singleton]; omega)), bu hi (by omega)]
  ·rw [if_neg h, if_neg h, bu hi (by omega)]
   simp only [List.append_nil]
 ·try dsimp only
  unfold pU
  rw [bV, List.take_length]
theorem cut_L2 (looks : List (Int × Int)) (hl : looks.length ≤ 1000) (ids : List Int) (K : List (Int × Bool) → Option ρ) : bw (fun (v51 : (Val (.pair tI (.map tI .bool)))) kk54 => pX looks (bG looks) v51.1 v51.2 (fun u52 u53 => kk54 (u52, u53)) K) ((0 : Int), JO ids) = K (JO (ids ++ looks.map fun n => n.1)) := by
 refine cp looks (fun i => JO (ids ++ (looks.take i).map fun n => n.1)) _ (by simp) (fun i a hi ha kn => ?_) (fun kn => ?_)
 ·try dsimp only
  unfold pX
  rw [bB hi, bt ha, bu hi (by omega), take_succ ha, List.map_append, ← List.append_assoc, List.map_singleton, tC]
 ·try dsimp only
  unfold pX
  rw [bV, List.take_length]
theorem cut_L1 (xs : List Int) (hl : xs.length ≤ 10000) (ids : List Int) (K : List (Int × Bool) → Option ρ) : bw (fun (v13 : (Val (.pair tI (.map tI .bool)))) kk16 => pY xs (bG xs) v13.1 v13.2 (fun u14 u15 => kk16 (u14, u15)) K) ((0 : Int), JO ids) = K (JO (ids ++ xs)) := by
 refine cp xs (fun i => JO (ids ++ xs.take i)) _ (by simp) (fun i a hi ha kn => ?_) (fun kn => ?_)
 ·try dsimp only
  unfold pY
  rw [bB hi, bt ha, bu hi (by omega), take_succ ha, ← List.append_assoc, tC]
 ·try dsimp only
  unfold pY
  rw [bV, List.take_length]
end
theorem kM {ρ α : Type} {l : List α} {i : Int} (h0 : 0 ≤ i) {a : α} (h : l[i.toNat]? = some a) (f : α → Option ρ) : dm l i f = f a := by
 obtain ⟨n, rfl⟩ := Int.eq_ofNat_of_zero_le h0
 exact bt (by simpa using h) f
theorem cut_ok {b : bJ} (hs : jA b) {ss looks : List (Int × Int)} (h1 : ss.length ≤ 1000) (h2 : looks.length ≤ 1000) (hv : ∀ s ∈ ss, acW b s) : I4 b ss looks = some (cutP b ss looks) := by
 have g1 := hs.gauges; have g2 := hs.uses; have g3 := hs.loans; have g4 := hs.compares; have g5 := hs.looks
 unfold I4 Yl Ac
 refine cp ss (fun i => (JO ((ss.take i).flatMap (y0 b)), JO (BL (ss.take i)))) _ rfl (fun i s hi ha kn => ?_) (fun kn => ?_)
 ·try dsimp only
  unfold vM
  have hok := hv s (List.mem_of_getElem? ha)
  rw [bB hi, bt ha, take_succ ha, List.flatMap_append]
  have e3 : BL (ss.take i ++ [s]) = BL (ss.take i) ++ if s.1 = 3 then [s.2] else [] := by
   unfold BL
   rw [List.filter_append, List.map_append]
   congr 1
   by_cases h : s.1 = 3 <;> simp [h]
  rw [e3]
  rcases hok with ⟨hk, h0, h3⟩ | ⟨hk, h0, h3⟩
  ·have hg : b.2.1[s.2.toNat]? = some b.2.1[s.2.toNat] := List.getElem?_eq_getElem (by omega)
   generalize b.2.1[s.2.toNat] = g at hg
   have e1 : y0 b s = [g.1] := by
    unfold y0
    rw [if_neg (by omega), hg]
   have e2 : List.flatMap (y0 b) [s] = [g.1] := by simp [e1]
   rw [bz (decide_eq_false (by omega)), if_neg (by omega), List.append_nil, e2, tC]
   rcases hk with hk | hk
   ·rw [bN (decide_eq_true hk), kM h0 hg, bu hi (by omega)]
   ·rw [bz (decide_eq_false (by omega)), bN (decide_eq_true hk), kM h0 hg, bu hi (by omega)]
  ·have hc : b.2.2.2.2.1[s.2.toNat]? = some b.2.2.2.2.1[s.2.toNat] := List.getElem?_eq_getElem (by omega)
   have hp := hs.piles b.2.2.2.2.1[s.2.toNat] (List.getElem_mem _)
   generalize b.2.2.2.2.1[s.2.toNat] = c at hc hp
   have e1 : y0 b s = c.2.2.1 ++ c.2.2.2.1 := by
    unfold y0
    rw [if_pos hk, hc]
   have e2 : List.flatMap (y0 b) [s] = c.2.2.1 ++ c.2.2.2.1 := by simp [e1]
   rw [bz (decide_eq_false (by omega)), bz (decide_eq_false (by omega)), bz (decide_eq_false (by omega)), di (decide_eq_true hk), if_pos hk, e2, kM h0 hc, kM h0 hc, mV (by simp) (by simp; omega), aZ]
   rw [show ([c.2.2.1, c.2.2.2.1] : List (List Int)).flatten = c.2.2.1 ++ c.2.2.2.1 by simp]
   refine (cut_L1 (c.2.2.1 ++ c.2.2.2.1) (by simp; omega) _ _).trans ?_
   rw [tC, bu hi (by omega)]
 ·try dsimp only
  unfold vM
  rw [bV]
  dsimp only
  rw [List.take_length]
  refine (cut_L2 looks h2 _ _).trans ?_
  rw [show (ss.flatMap (y0 b) ++ looks.map fun n => n.1) = Jf b ss looks from rfl]
  unfold vW
  try dsimp only
  rw [di (bD (by omega)), aZ]
  have ek : (List.filter (fun g => (pL (k := tI) (v := .bool) g.1 (JO (Jf b ss looks))).getD false) b.2.1) = b.2.1.filter fun g => (Jf b ss looks).contains g.1 := by
   refine List.filter_congr fun g _ => ?_
   rw [QC]
   cases (Jf b ss looks).contains g.1 <;> rfl
  rw [ek]
  unfold lC
  dsimp only
  refine (cut_L3 b.2.2.1 g2 _ _).trans ?_
  refine (cut_L4 b.2.2.2.1 g3 _ _).trans ?_
  refine (cut_L5 b.2.2.2.2.1 g4 hs.piles _ _).trans ?_
  rfl
end Go.Proofs.ZzM
end
noncomputable section
namespace Go.Proofs.ZzM
open Go Go.Am
theorem XN {α : Type} [DecidableEq α] {l m : List α} (hl : l.length = m.length) (h : fu (fun i a => if m[i]? = some a then none else some false) 0 l = none) : l = m := by
 have := kP.1 h
 refine List.ext_getElem hl fun i h1 h2 => ?_
 have h3 := this i l[i] (List.getElem?_eq_getElem h1)
 rw [Nat.zero_add] at h3
 split at h3
 ·rename_i h4
  rw [List.getElem?_eq_getElem h2] at h4
  exact (Option.some.inj h4).symm
 ·cases h3
theorem XM {α : Type} [DecidableEq α] {l m : List α} {b : Bool} (h : fu (fun i a => if m[i]? = some a then none else some false) 0 l = some b) : b = false ∧ l ≠ m := by
 constructor
 ·have : ∀ (k : Nat) (x : List α) (b : Bool), fu (fun i a => if m[i]? = some a then none else some false) k x = some b → b = false := by
   intro k x
   induction x generalizing k with
   | nil => intro b h; cases h
   | cons a t ih =>
     intro b h
     unfold fu at h
     split at h
     ·rename_i c hc
      split at hc
      ·cases hc
      ·cases hc; cases h; rfl
     ·exact ih _ _ h
  exact this _ _ _ h
 ·intro e
  subst e
  rw [kP.2 fun j a ha => by rw [Nat.zero_add, if_pos ha]] at h
  cases h
end Go.Proofs.ZzM
end
noncomputable section
namespace Go.Proofs.ZzM
open Go Go.Am
instance dec1 : DecidableEq ((Int × Int) × Int) := fun a b => instDecidableEqProd a b
instance dec2 : DecidableEq ((Int × Int) × ((Int × Int) × Int)) := fun a b => instDecidableEqProd a b
instance dec3 : DecidableEq (Int × (Int × Int) × ((Int × Int) × Int)) := fun a b => instDecidableEqProd a b
instance dec4 : DecidableEq (Int × Int × (Int × Int) × ((Int × Int) × Int)) := fun a b => instDecidableEqProd a b
instance decG : DecidableEq cf := fun a b => instDecidableEqProd a b
instance decL : DecidableEq Gh := fun a b => instDecidableEqProd a b
instance decI4 : DecidableEq (Int × (Int × (Int × Int))) := fun a b => instDecidableEqProd a b
instance decI5 : DecidableEq (List Int × Int × (Int × (Int × Int))) := fun a b => instDecidableEqProd a b
instance decI6 : DecidableEq (List Int × List Int × Int × (Int × (Int × Int))) := fun a b => instDecidableEqProd a b
instance decI7 : DecidableEq (Int × List Int × List Int × Int × (Int × (Int × Int))) := fun a b => instDecidableEqProd a b
instance decC : DecidableEq Cmp := fun a b => instDecidableEqProd a b
def Ni {α : Type} [DecidableEq α] (x : α) (l : List α) : Bool := l.any fun a => decide (x = a)
theorem Vj {α : Type} [DecidableEq α] {x : α} {l : List α} : Ni x l = true ↔ x ∈ l := by
 unfold Ni
 rw [List.any_eq_true]
 exact ⟨fun ⟨a, h1, h2⟩ => by rw [of_decide_eq_true h2]; exact h1, fun h => ⟨x, h, decide_eq_true rfl⟩⟩
theorem Tu {α : Type} [DecidableEq α] (l : List α) (x : α) : ige (match l.findIdx? (fun a => decide (x = a)) with | some j => (j : Int) | none => -1) 0 = Ni x l := by
 cases h : l.findIdx? (fun a => decide (x = a)) with
 | none =>
   have : Ni x l = false := by
    cases hm : Ni x l with
    | false => rfl
    | true => have := List.findIdx?_eq_none_iff.1 h x (Vj.1 hm); simp at this
   rw [this]
   rfl
 | some j =>
   obtain ⟨hj, hp, _⟩ := List.findIdx?_eq_some_iff_getElem.1 h
   have : x ∈ l := by rw [of_decide_eq_true hp]; exact List.getElem_mem _
   rw [Vj.2 this]
   exact decide_eq_true (by dsimp only; omega)
theorem Yg {ρ : Type} (o : Option Nat) (f : Int → Option ρ) : (match o with | some j => f (j : Int) | none => f (-1)) = f (match o with | some j => (j : Int) | none => -1) := by cases o <;> rfl
theorem SI {l : List (Int × Int)} (hl : l.length ≤ 1000000) (x : Int × Int) : cN l x = some (Ni x l) := by
 unfold cN eN fT fP
 have e : bw (fun (v5 : Int) kk7 => cI l (bG l) x.1 x.2 v5 (fun u6 => kk7 u6) (fun z3 => some z3) (fun _ => some (-1 : Int))) (0 : Int) = some (match l.findIdx? (fun a => decide (x = a)) with | some j => (j : Int) | none => -1) := by
  refine (ir l (fun a => decide (x = a)) (fun z => some z) (some (-1)) (fun i a hi ha kn => ?_) (fun kn => ?_)).trans (Yg _ some)
  ·try dsimp only
   unfold cI
   have e : ((fm x.1 a.1) && ((fm x.2 a.2) && true)) = decide (x = a) := by
    rw [Bool.eq_iff_iff]; simp [fm, Prod.ext_iff]
   rw [bB hi, bt ha, bu hi (by omega), dG, e]
  ·try dsimp only
   unfold cI
   rw [bV]
 rw [e, aZ]
 exact congrArg some (Tu l x)
theorem PA {l : List Gh} (hl : l.length ≤ 1000000) (x : Gh) : cu l x = some (Ni x l) := by
 unfold cu dZ fh fe
 have e : bw (fun (v5 : Int) kk7 => cr l (bG l) x.1 x.2.1.1 x.2.1.2 x.2.2 v5 (fun u6 => kk7 u6) (fun z3 => some z3) (fun _ => some (-1 : Int))) (0 : Int) = some (match l.findIdx? (fun a => decide (x = a)) with | some j => (j : Int) | none => -1) := by
  refine (ir l (fun a => decide (x = a)) (fun z => some z) (some (-1)) (fun i a hi ha kn => ?_) (fun kn => ?_)).trans (Yg _ some)
  ·try dsimp only
   unfold cr
   have e : ((fm x.1 a.1) && ((fm x.2.1.1 a.2.1.1) && ((fm x.2.1.2 a.2.1.2) && ((fm x.2.2 a.2.2) && true)))) = decide (x = a) := by
    rw [Bool.eq_iff_iff]; simp [fm, Prod.ext_iff, and_assoc]
   rw [bB hi, bt ha, bu hi (by omega), dG, e]
  ·try dsimp only
   unfold cr
   rw [bV]
 rw [e, aZ]
 exact congrArg some (Tu l x)
theorem SJ {l : List cf} (hl : l.length ≤ 1000000) (x : cf) : cW l x = some (Ni x l) := by
 unfold cW dM eF eE
 have e : bw (fun (v5 : Int) kk7 => cj l (bG l) x.1 x.2.1 x.2.2.1 x.2.2.2.1.1 x.2.2.2.1.2 x.2.2.2.2.1.1 x.2.2.2.2.1.2 x.2.2.2.2.2 v5 (fun u6 => kk7 u6) (fun z3 => some z3) (fun _ => some (-1 : Int))) (0 : Int) = some (match l.findIdx? (fun a => decide (x = a)) with | some j => (j : Int) | none => -1) := by
  refine (ir l (fun a => decide (x = a)) (fun z => some z) (some (-1)) (fun i a hi ha kn => ?_) (fun kn => ?_)).trans (Yg _ some)
  ·try dsimp only
   unfold cj
   have e : ((fm x.1 a.1) && ((fm x.2.1 a.2.1) && ((fm x.2.2.1 a.2.2.1) && ((fm x.2.2.2.1.1 a.2.2.2.1.1) && ((fm x.2.2.2.1.2 a.2.2.2.1.2) && ((fm x.2.2.2.2.1.1 a.2.2.2.2.1.1) && ((fm x.2.2.2.2.1.2 a.2.2.2.2.1.2) && ((fm x.2.2.2.2.2 a.2.2.2.2.2) && true)))))))) = decide (x = a) := by
    rw [Bool.eq_iff_iff]; simp [fm, Prod.ext_iff, and_assoc]
   rw [bB hi, bt ha, bu hi (by omega), dG, e]
  ·try dsimp only
   unfold cj
   rw [bV]
 rw [e, aZ]
 exact congrArg some (Tu l x)
def YK (b : bJ) : List Int := b.2.1.map fun g => g.1
def ki {α : Type} [DecidableEq α] (x y : List α) (w : α → Bool) : Bool := x.all fun a => !w a || Ni a y
def aau (s b : bJ) : Bool :=
 ki s.2.2.2.2.1 b.2.2.2.2.1 (fun _ => true) && (decide (s.1 = b.1) && (ki s.2.1 b.2.1 (fun _ => true) && (ki s.2.2.1 b.2.2.1 (fun u => (YK s).contains u.1) && (ki b.2.2.1 s.2.2.1 (fun u => (YK s).contains u.1) &&
  (ki s.2.2.2.1 b.2.2.2.1 (fun u => (YK s).contains u.1) && ki b.2.2.2.1 s.2.2.2.1 (fun u => (YK s).contains u.1))))))
section
variable {ρ : Type}
theorem DK {α : Type} [DecidableEq α] (x y : List α) (w : α → Bool) (X Y KF : Option ρ) {f : Int → (Int → Option ρ) → Option ρ}
 (h : ∀ (i : Nat) (a : α), i < x.length → x[i]? = some a → ∀ kn, f i kn = if !(!w a || Ni a y) then (ifb (!(ige (i : Int) 0)) X KF) else kn ((i : Int) + 1))
 (hn : ∀ kn, f x.length kn = Y) : bw f 0 = if ki x y w then Y else KF := by
 refine (gM x (fun a => !(!w a || Ni a y)) (fun z => ifb (!(ige z 0)) X KF) KF Y (fun j => by rw [show ige (j : Int) 0 = true from decide_eq_true (by omega)]; rfl) h hn).trans ?_
 unfold ki
 rw [List.all_eq_not_any_not]
 cases x.any fun a => !(!w a || Ni a y) <;> rfl
theorem acl : @qZ ρ = @kE ρ := rfl
theorem Mb {x y : List Int} (hl : x.length = y.length) (hx : x.length ≤ 1000000) (k0 : Bool → Option ρ) (K : Option ρ) :
 bw (fun (v30 : Int) kk32 => kE x y (bG x) v30 (fun u31 => kk32 u31) k0 (fun _ => K)) (0 : Int) = if x = y then K else k0 false := by
 refine (qo x (fun i a => if y[i]? = some a then none else some false) k0 K (fun i a hi ha kn => ?_) (fun kn => ?_)).trans ?_
 ·try dsimp only
  unfold kE
  have hm : y[i]? = some y[i] := List.getElem?_eq_getElem (by omega)
  rw [bB hi, bt ha, bt hm, bu hi (by omega), hm, dG]
  by_cases h : a = y[i]
  ·simp [ine, h]
  ·have h' : ¬ y[i] = a := fun e => h e.symm
   simp [ine, h, h']
 ·try dsimp only
  unfold kE
  rw [bV]
 ·cases h : fu (fun i a => if y[i]? = some a then none else some false) 0 x with
  | none => rw [if_pos (XN hl h)]
  | some b =>
    obtain ⟨h1, h2⟩ := XM h
    rw [if_neg h2, h1]
theorem XO {l : List Cmp} (hl : l.length ≤ 1000) (c : Cmp) (hA : c.2.2.1.length ≤ 1000) (hB : c.2.2.2.1.length ≤ 1000) (k0 : Int → Option ρ) (K1 KF : Option ρ) (hk : ∀ j : Nat, k0 (j : Int) = K1) :
 bw (fun (v41 : Int) kk43 => nj l (bG l) c.1 c.2.1 c.2.2.1 c.2.2.2.1 c.2.2.2.2.1 c.2.2.2.2.2.1 c.2.2.2.2.2.2.1 c.2.2.2.2.2.2.2 v41 (fun u42 => kk43 u42) k0 (fun _ => KF)) (0 : Int) = if Ni c l then K1 else KF := by
 refine (gM l (fun d => decide (c = d)) k0 K1 KF hk (fun i d hi hd kn => ?_) (fun kn => ?_)).trans rfl
 ·try dsimp only
  unfold nj
  have hsplit : (c = d) ↔ (c.1 = d.1 ∧ c.2.1 = d.2.1 ∧ c.2.2.2.2.1 = d.2.2.2.2.1 ∧ c.2.2.2.2.2.1 = d.2.2.2.2.2.1 ∧ (c.2.2.2.2.2.2.1 = d.2.2.2.2.2.2.1 ∧ c.2.2.2.2.2.2.2 = d.2.2.2.2.2.2.2) ∧ c.2.2.1 = d.2.2.1 ∧ c.2.2.2.1 = d.2.2.2.1) := by
   simp only [Prod.ext_iff]
   constructor
   ·rintro ⟨a1, a2, a3, a4, a5, a6, a7, a8⟩; exact ⟨a1, a2, a5, a6, ⟨a7, a8⟩, a3, a4⟩
   ·rintro ⟨a1, a2, a5, a6, ⟨a7, a8⟩, a3, a4⟩; exact ⟨a1, a2, a3, a4, a5, a6, a7, a8⟩
  have hno : ∀ {P : Prop}, ¬ P → (c = d → P) → (if decide (c = d) = true then k0 (i : Int) else kn ((i : Int) + 1)) = kn ((i : Int) + 1) := fun h1 h2 => by
   rw [if_neg]
   intro h
   exact h1 (h2 (of_decide_eq_true h))
  rw [bB hi, bt hd, bu hi (by omega)]
  by_cases a1 : c.1 = d.1
  case neg => rw [hno a1 (fun e => (hsplit.1 e).1), bz (beq_eq_false_iff_ne.2 a1)]
  rw [bN (beq_iff_eq.2 a1)]
  by_cases a2 : c.2.1 = d.2.1
  case neg => rw [hno a2 (fun e => (hsplit.1 e).2.1), bz (beq_eq_false_iff_ne.2 a2)]
  rw [bN (beq_iff_eq.2 a2)]
  by_cases a3 : c.2.2.2.2.1 = d.2.2.2.2.1
  case neg => rw [hno a3 (fun e => (hsplit.1 e).2.2.1), bz (beq_eq_false_iff_ne.2 a3)]
  rw [bN (beq_iff_eq.2 a3)]
  by_cases a4 : c.2.2.2.2.2.1 = d.2.2.2.2.2.1
  case neg => rw [hno a4 (fun e => (hsplit.1 e).2.2.2.1), bz (beq_eq_false_iff_ne.2 a4)]
  rw [bN (beq_iff_eq.2 a4)]
  by_cases a5 : c.2.2.2.2.2.2.1 = d.2.2.2.2.2.2.1 ∧ c.2.2.2.2.2.2.2 = d.2.2.2.2.2.2.2
  case neg => rw [hno a5 (fun e => (hsplit.1 e).2.2.2.2.1), bz (by simp only [fm, Bool.and_true, Bool.and_eq_false_iff, decide_eq_false_iff_not]; exact Decidable.not_and_iff_or_not.1 a5)]
  rw [bN (by simp [fm, a5.1, a5.2]), bP, bP, bP, bP]
  have rest : ∀ X Y : Option ρ, (c.2.2.1 = d.2.2.1) → (if decide (c = d) = true then k0 (i : Int) else kn ((i : Int) + 1)) = (if c.2.2.2.1 = d.2.2.2.1 then k0 (i : Int) else kn ((i : Int) + 1)) := by
   intro _ _ h
   by_cases g : c.2.2.2.1 = d.2.2.2.1
   ·rw [if_pos (decide_eq_true (hsplit.2 ⟨a1, a2, a3, a4, a5, h, g⟩)), if_pos g]
   ·rw [if_neg g]; exact hno g (fun e => (hsplit.1 e).2.2.2.2.2.2)
  by_cases l1 : c.2.2.1.length = d.2.2.1.length
  case neg =>
   rw [hno l1 (fun e => by rw [e]), bN (bne_iff_ne.2 (by omega))]
  rw [bz (by rw [l1]; exact bne_self_eq_false' _)]
  have e3 := Mb (ρ := ρ) l1 (by omega)
  rw [bP] at e3
  rw [e3]
  by_cases g1 : c.2.2.1 = d.2.2.1
  case neg => rw [if_neg g1, b7, hno g1 (fun e => (hsplit.1 e).2.2.2.2.2.1)]
  rw [if_pos g1, rest none none g1]
  by_cases l2 : c.2.2.2.1.length = d.2.2.2.1.length
  case neg =>
   rw [bN (bne_iff_ne.2 (by omega)), if_neg (fun e => l2 (by rw [e]))]
  rw [bz (by rw [l2]; exact bne_self_eq_false' _), acl]
  have e4 := Mb (ρ := ρ) l2 (by omega)
  rw [bP] at e4
  rw [e4, b7]
 ·try dsimp only
  unfold nj
  rw [bV]
theorem ack : @kD ρ = @jh ρ := rfl
theorem acj : @cG ρ = @dF ρ := rfl
theorem ac0 {x y : List cf} (hx : x.length ≤ 1000) (hy : y.length ≤ 1000) (X Y KF : Option ρ) : bw (fun (v225 : Int) kk227 => ni x (bG x) y v225 (fun u226 => kk227 u226) (fun z => ifb (!(ige z 0)) X KF) (fun _ => Y)) (0 : Int) = if ki x y (fun _ => true) then Y else KF := by
 refine DK x y (fun _ => true) X Y KF (fun i a hi ha kn => ?_) (fun kn => ?_)
 ·try dsimp only
  unfold ni
  rw [bB hi, bt ha, SJ (by omega), aZ, bu hi (by omega), dG]
  simp
 ·try dsimp only
  unfold ni
  rw [bV]
theorem ZS {x y : List (Int × Int)} (hx : x.length ≤ 1000) (hy : y.length ≤ 1000) (ids : List Int) (X Y KF : Option ρ) : bw (fun (v225 : Int) kk227 => jh x (bG x) (JO ids) y v225 (fun u226 => kk227 u226) (fun z => ifb (!(ige z 0)) X KF) (fun _ => Y)) (0 : Int) = if ki x y (fun u => ids.contains u.1) then Y else KF := by
 refine DK x y (fun u => ids.contains u.1) X Y KF (fun i a hi ha kn => ?_) (fun kn => ?_)
 ·try dsimp only
  unfold jh
  rw [bB hi, bt ha, uZ, SI (by omega), aZ]
  by_cases h : ids.contains a.1 = true
  ·rw [if_pos h, eu, bu hi (by omega), dG, h]
   simp
  ·rw [if_neg h, bu hi (by omega)]
   have h' := Bool.not_eq_true _ ▸ h
   rw [h']
   simp
 ·try dsimp only
  unfold jh
  rw [bV]
theorem ZR {x y : List Gh} (hx : x.length ≤ 1000) (hy : y.length ≤ 1000) (ids : List Int) (X Y KF : Option ρ) : bw (fun (v225 : Int) kk227 => dF x (bG x) (JO ids) y v225 (fun u226 => kk227 u226) (fun z => ifb (!(ige z 0)) X KF) (fun _ => Y)) (0 : Int) = if ki x y (fun u => ids.contains u.1) then Y else KF := by
 refine DK x y (fun u => ids.contains u.1) X Y KF (fun i a hi ha kn => ?_) (fun kn => ?_)
 ·try dsimp only
  unfold dF
  rw [bB hi, bt ha, uZ, PA (by omega), aZ]
  by_cases h : ids.contains a.1 = true
  ·rw [if_pos h, eu, bu hi (by omega), dG, h]
   simp
  ·rw [if_neg h, bu hi (by omega)]
   have h' := Bool.not_eq_true _ ▸ h
   rw [h']
   simp
 ·try dsimp only
  unfold dF
  rw [bV]
theorem acZ {x y : List Gh} (hx : x.length ≤ 1000) (hy : y.length ≤ 1000) (ids : List Int) (k : Bool → Option ρ) : bw (fun (v225 : Int) kk227 => dF x (bG x) (JO ids) y v225 (fun u226 => kk227 u226) (fun z => k (!(ige z 0))) (fun _ => k true)) (0 : Int) = k (ki x y (fun u => ids.contains u.1)) := by
 have h := ZR (ρ := ρ) hx hy ids (k true) (k true) (k false)
 have e : (fun z : Int => ifb (!(ige z 0)) (k true) (k false)) = fun z => k (!(ige z 0)) := by
  funext z
  cases (!(ige z 0)) <;> rfl
 rw [e] at h
 rw [h]
 cases ki x y (fun u => ids.contains u.1) <;> rfl
theorem ac1 {x y : List Cmp} (hx : x.length ≤ 1000) (hp : ∀ c ∈ x, c.2.2.1.length ≤ 1000 ∧ c.2.2.2.1.length ≤ 1000) (hy : y.length ≤ 1000) (K : Option Bool) : bw (fun (v228 : Int) kk230 => nk x (bG x) y v228 (fun u229 => kk230 u229) (fun z44 => some z44) (fun _ => K)) (0 : Int) = if (x.all fun c => Ni c y) = true then K else some false := by
 refine (gM x (fun c => !Ni c y) (fun _ => some false) (some false) K (fun _ => rfl) (fun i c hi hc kn => ?_) (fun kn => ?_)).trans ?_
 rotate_left
 ·try dsimp only
  unfold nk
  rw [bV]
 ·rw [List.all_eq_not_any_not]
  cases x.any fun c => !Ni c y <;> rfl
 ·try dsimp only
  unfold nk
  have h := hp c (List.mem_of_getElem? hc)
  rw [bB hi, bt hc]
  refine (XO hy c h.1 h.2 _ (kn ((i : Int) + 1)) (some false) (fun j => by rw [show ige (j : Int) 0 = true from decide_eq_true (by omega), bu hi (by omega)]; rfl)).trans ?_
  cases Ni c y <;> rfl
end
theorem part_ok {s b : bJ} (hs : jA s) (hb : jA b) : By s b = some (aau s b) := by
 have g1 := hs.gauges; have g2 := hs.uses; have g3 := hs.loans; have g4 := hs.compares
 have b1 := hb.gauges; have b2 := hb.uses; have b3 := hb.loans; have b4 := hb.compares
 unfold By NC aau
 rw [ack, acj]
 refine (cp s.2.1 (fun i => JO (YK (s.1, s.2.1.take i, s.2.2))) (some _) rfl (fun i g hi hg kn => ?_) (fun kn => ?_))
 ·try dsimp only
  unfold rc
  rw [bB hi, bt hg, bu hi (by omega)]
  unfold YK
  dsimp only
  rw [take_succ hg, List.map_append, List.map_singleton, tC]
 ·try dsimp only
  unfold rc
  rw [bV, List.take_length]
  try dsimp only
  rw [show YK (s.1, s.2.1, s.2.2) = YK s from rfl]
  refine (ac1 g4 hs.piles b4 _).trans ?_
  rw [show (ki s.2.2.2.2.1 b.2.2.2.2.1 fun _ => true) = s.2.2.2.2.1.all fun c => Ni c b.2.2.2.2.1 from rfl]
  by_cases hc : (s.2.2.2.2.1.all fun c => Ni c b.2.2.2.2.1) = true
  case neg => rw [if_neg hc, Bool.eq_false_iff.2 hc]; rfl
  rw [if_pos hc, hc, Bool.true_and]
  by_cases hf : s.1 = b.1
  case neg =>
   have ef : (fm s.1.1 b.1.1 && (fm s.1.2 b.1.2 && true)) = false := by
    rw [Prod.ext_iff] at hf
    simp [fm]
    omega
   rw [ef, b7, decide_eq_false hf]
   rfl
  have ef : (fm s.1.1 b.1.1 && (fm s.1.2 b.1.2 && true)) = true := by simp [fm, hf]
  rw [ef, eu, decide_eq_true hf, Bool.true_and]
  refine (ac0 g1 b1 _ _ _).trans ?_
  cases ki s.2.1 b.2.1 fun _ => true
  case false => rfl
  rw [if_pos rfl, Bool.true_and]
  refine (ZS g2 b2 _ _ _ _).trans ?_
  cases ki s.2.2.1 b.2.2.1 fun u => (YK s).contains u.1
  case false => rfl
  rw [if_pos rfl, Bool.true_and]
  refine (ZS b2 g2 _ _ _ _).trans ?_
  cases ki b.2.2.1 s.2.2.1 fun u => (YK s).contains u.1
  case false => rfl
  rw [if_pos rfl, Bool.true_and]
  refine (ZR g3 b3 _ _ _ _).trans ?_
  cases ki s.2.2.2.1 b.2.2.2.1 fun u => (YK s).contains u.1
  case false => rfl
  rw [if_pos rfl, Bool.true_and]
  exact acZ b3 g3 _ some
end Go.Proofs.ZzM
end
noncomputable section
namespace Go.Proofs.ZzM
open Go Go.Am
def tf (x : List Int) (y : List Int) (l : Lk) : List Int := if gv x l.2.1 = fN then y else y.set l.1.toNat (min (gv y l.1) (l.2.2 + gv x l.2.1))
def Sd (L : List Lk) (N : Nat) (x : List Int) : List Int := L.foldl (tf x) (List.replicate N fN)
def exL (L : List Lk) (N : Nat) (to : Int) : Nat → List Int
 | 0 => (List.replicate N fN).set to.toNat 0
 | k + 1 => Sd L N (exL L N to k)
def mh (L : List Lk) (N : Nat) (to : Int) (most : Nat) : List (List Int) := (List.range (most + 1)).map (exL L N to)
section
variable {L : List Lk} {N : Nat}
theorem Mw (x y : List Int) (l : Lk) : (tf x y l).length = y.length := by unfold tf; split <;> simp
theorem Dt (x : List Int) : ∀ (M : List Lk) (y : List Int), (M.foldl (tf x) y).length = y.length
 | [], y => rfl
 | l :: M, y => by rw [List.foldl_cons, Dt x M, Mw]
theorem WN (x : List Int) : (Sd L N x).length = N := by unfold Sd; rw [Dt]; simp
theorem Ug (to : Int) (k : Nat) : (exL L N to k).length = N := by
 cases k with
 | zero => simp [exL]
 | succ k => exact WN _
def Lim (B : Int) (x : List Int) : Prop := ∀ v : Int, gv x v ≠ fN → -B ≤ gv x v ∧ gv x v ≤ B
theorem gv_out {x : List Int} {v : Int} (h : ¬ v.toNat < x.length) : gv x v = 0 := by
 unfold gv
 rw [List.getElem?_eq_none (by omega)]
 rfl
theorem YD {B : Int} (hB : 0 ≤ B) : Lim B (List.replicate N fN) := by
 intro v hv
 by_cases h : v.toNat < N
 ·exfalso; apply hv
  unfold gv
  rw [List.getElem?_replicate, if_pos h]
  rfl
 ·rw [gv_out (by simpa using h)]; omega
theorem YC {B : Int} {y : List Int} (hy : Lim B y) {u : Int} (hu : 0 ≤ u) (hl : u.toNat < y.length) {a : Int} (ha : a ≠ fN → -B ≤ a ∧ a ≤ B) : Lim B (y.set u.toNat a) := by
 intro v hv
 by_cases h : v.toNat = u.toNat
 ·have : gv (y.set u.toNat a) v = a := by
   unfold gv
   rw [h, List.getElem?_set_self hl]
   rfl
  rw [this] at hv ⊢
  exact ha hv
 ·have : gv (y.set u.toNat a) v = gv y v := by
   unfold gv
   rw [List.getElem?_set_ne (fun e => h e.symm)]
  rw [this] at hv ⊢
  exact hy v hv
theorem aaI (hS : fB L N) {B : Int} (hB : 0 ≤ B) (hB2 : B ≤ 1000000000000000000) {x y : List Int} (hx : Lim B x) (hy : Lim (B + 4503599627370496) y) (hl : y.length = N) {l : Lk} (hm : l ∈ L) : Lim (B + 4503599627370496) (tf x y l) := by
 unfold tf
 split
 ·exact hy
 ·rename_i hf
  have h1 := hS.inr l hm
  have h2 := hS.most l hm
  have h3 := hx _ hf
  refine YC hy h1.1.1 (by omega) fun ha => ?_
  by_cases h4 : gv y l.1 = fN
  ·rw [h4] at ha ⊢
   have : min fN (l.2.2 + gv x l.2.1) = l.2.2 + gv x l.2.1 := by unfold fN; omega
   rw [this]; omega
  ·have := hy _ h4
   omega
theorem Vn (hS : fB L N) {B : Int} (hB : 0 ≤ B) (hB2 : B ≤ 1000000000000000000) {x : List Int} (hx : Lim B x) : ∀ (M : List Lk), (∀ l ∈ M, l ∈ L) → ∀ y : List Int, y.length = N → Lim (B + 4503599627370496) y → Lim (B + 4503599627370496) (M.foldl (tf x) y)
 | [], _, y, _, hy => hy
 | l :: M, hM, y, hl, hy => by
   rw [List.foldl_cons]
   exact Vn hS hB hB2 hx M (fun m hm => hM m (by simp [hm])) _ (by rw [Mw, hl]) (aaI hS hB hB2 hx hy hl (hM l (by simp)))
theorem T8 (hS : fB L N) {to : Int} (ht : 0 ≤ to ∧ to < N) : ∀ k : Nat, k ≤ 200 → Lim (k * 4503599627370496) (exL L N to k)
 | 0, _ => by
   unfold exL
   exact YC (YD (by omega)) ht.1 (by simp; omega) (fun _ => by omega)
 | k + 1, hk => by
   have := Vn hS (B := k * 4503599627370496) (by omega) (by omega) (T8 hS ht k (by omega)) L (fun _ h => h) (List.replicate N fN) (by simp) (YD (by omega))
   unfold exL Sd
   have e : (((k + 1 : Nat) : Int) * 4503599627370496) = (k : Int) * 4503599627370496 + 4503599627370496 := by push_cast; omega
   rw [e]
   exact this
theorem R8 {ρ : Type} (hN : N ≤ 1000) (K : List Int → Option ρ) {f : Int × List Int → (Int × List Int → Option ρ) → Option ρ}
 (hf : ∀ (v : Int × List Int) kk, f v kk = vO (N : Int) v.1 v.2 (fun u34 u35 => kk (u34, u35)) K) : bw f ((0 : Int), List.replicate N (0 : Int)) = K (List.replicate N fN) := by
 refine cp (List.replicate N (0 : Int)) (fun i => List.replicate i fN ++ List.replicate (N - i) (0 : Int)) _ (by simp) (fun i a hi ha kn => ?_) (fun kn => ?_)
 ·rw [hf]
  dsimp only
  unfold vO
  rw [List.length_replicate] at hi
  have hlen : (List.replicate i fN ++ List.replicate (N - i) (0 : Int)).length = N := by simp; omega
  have e1 : ilt (i : Int) (N : Int) = true := decide_eq_true (by omega)
  rw [bN e1, show dj (List.replicate i fN ++ List.replicate (N - i) (0 : Int)) = (N : Int) by unfold dj; rw [hlen], iu (by omega) (by omega), jc (by rw [hlen]; omega), bE (by omega) (by omega)]
  congr 2
  rw [Int.toNat_natCast]
  rw [List.set_append_right _ _ (by simp), List.length_replicate, Nat.sub_self]
  rw [show N - i = (N - (i + 1)) + 1 by omega, List.replicate_succ, List.set_cons_zero, List.replicate_succ']
  simp
 ·rw [hf]
  dsimp only
  unfold vO
  rw [List.length_replicate]
  have e1 : ilt (N : Int) (N : Int) = false := decide_eq_false (by omega)
  rw [bz e1]
  simp
theorem okN (hN : N ≤ 1000) {ρ : Type} (x : Option ρ) : b9 ((ile (0 : Int) (N : Int)) && (bZ (Int.toNat (N : Int)))) x = x := by
 rw [di]
 rw [Int.toNat_natCast, bD (by omega), Bool.and_true]
 exact decide_eq_true (by omega)
theorem YB {ρ : Type} (hS : fB L N) {B : Int} (hB : 0 ≤ B) (hB2 : B ≤ 1000000000000000000) {x : List Int} (hx : Lim B x) (hxl : x.length = N) (K : List Int → Option ρ) :
 bw (fun (v20 : (Val (.pair tI (.slice tI)))) kk23 => Ax x L (bG L) v20.1 v20.2 (fun u21 u22 => kk23 (u21, u22)) K) ((0 : Int), List.replicate N fN) = K (Sd L N x) := by
 have hl3 := hS.len
 refine cp L (fun i => (L.take i).foldl (tf x) (List.replicate N fN)) _ rfl (fun i l hi hl kn => ?_) (fun kn => ?_)
 ·try dsimp only
  unfold Ax
  have hm := List.mem_of_getElem? hl
  have h1 := hS.inr l hm
  have h2 := hS.most l hm
  rw [bB hi, bt hl, kO h1.2.1 (by omega), take_succ hl, List.foldl_append, bu hi (by omega)]
  have hlen : ((L.take i).foldl (tf x) (List.replicate N fN)).length = N := by rw [Dt]; simp
  generalize (L.take i).foldl (tf x) (List.replicate N fN) = y at hlen ⊢
  by_cases hf : gv x l.2.1 = fN
  ·rw [bz (by rw [hf]; rfl)]
   simp only [List.foldl_cons, List.foldl_nil]
   unfold tf
   rw [if_pos hf]
  ·have h3 := hx _ hf
   rw [bN (bne_iff_ne.2 hf), show dj y = (N : Int) by unfold dj; rw [hlen], iu h1.1.1 h1.1.2, jc (by omega), kO h1.2.1 (by omega), bE (by omega) (by omega), iu h1.1.1 h1.1.2, jc (by omega), bu hi (by omega)]
   simp only [List.foldl_cons, List.foldl_nil]
   unfold tf
   rw [if_neg hf, IM]
 ·try dsimp only
  unfold Ax
  rw [bV, List.take_length]
  rfl
theorem aa1 {ρ : Type} : @NY ρ = @vO ρ := rfl
theorem jy (to : Int) (m : Nat) : (mh L N to m).length = m + 1 := by simp [mh]
theorem Ds {to : Int} {m k : Nat} (hk : k ≤ m) : (mh L N to m)[k]? = some (exL L N to k) := by
 unfold mh
 rw [List.getElem?_map, List.getElem?_range (by omega)]
 rfl
theorem aa0 (hS : fB L N) {to : Int} (ht : 0 ≤ to ∧ to < N) {most : Nat} (hm : most ≤ 100) : vk ((N : Int), L) to (most : Int) = some (mh L N to most) := by
 have hN := hS.n60
 unfold vk Hv
 dsimp only
 rw [okN (by omega), Int.toNat_natCast]
 refine (R8 (by omega) _ (fun v kk => by rw [bP, List.length_replicate])).trans ?_
 rw [show dj (List.replicate N fN) = (N : Int) by simp [dj], iu ht.1 ht.2, jc (by simp; omega)]
 refine cp (List.replicate most ()) (fun i => mh L N to i) _ (by simp [mh, exL]) (fun i a hi ha kn => ?_) (fun kn => ?_)
 ·try dsimp only
  unfold F3
  rw [List.length_replicate] at hi
  have e1 : ilt (i : Int) (most : Int) = true := decide_eq_true (by omega)
  rw [bN e1, bP, jy]
  have e2 : (((i + 1 : Nat) : Int) - 1) = (i : Int) := by omega
  rw [e2, bE (by omega) (by omega), show dj (mh L N to i) = ((i + 1 : Nat) : Int) by unfold dj; rw [jy], iu (by omega) (by omega), Int.toNat_natCast, qP (Ds (Nat.le_refl i)), okN (by omega), Int.toNat_natCast]
  rw [aa1]
  refine (R8 (by omega) _ (fun v kk => by rw [bP, List.length_replicate])).trans ?_
  refine (YB hS (B := i * 4503599627370496) (by omega) (by omega) (T8 hS ht i (by omega)) (Ug _ _) _).trans ?_
  rw [di (bD (by simp only [jy, List.length_singleton]; omega)), bE (by omega) (by omega)]
  congr 2
  unfold mh
  rw [List.range_succ (n := i + 1), List.map_append]
  rfl
 ·try dsimp only
  unfold F3
  rw [List.length_replicate]
  have e1 : ilt (most : Int) (most : Int) = false := decide_eq_false (by omega)
  rw [bz e1]
def JU (L : List Lk) (x : List Int) (good : Int → Bool) (u sum : Int) : Option Nat := L.findIdx? fun l => l.1 == u && (decide (gv x l.2.1 ≠ fN) && good (sum + l.2.2 + gv x l.2.1))
def pv (L : List Lk) (rest : Nat → List Int) (good : Int → Bool) : Nat → Int → Int → List Int → List Int
 | 0, _, _, out => out
 | k + 1, u, sum, out => match JU L (rest k) good u sum with
   | some i => pv L rest good k (L[i]?.getD (0, 0, 0)).2.1 (sum + (L[i]?.getD (0, 0, 0)).2.2) (out ++ [(i : Int)])
   | none => pv L rest good k u sum out
def folL {ρ : Type} (good : Int → Bool) (c0 : Int) (c1 : List (List Int)) (c2 : List Lk) (c3 : Int) (v0 : Int) (v1 : Int) (v2 : Int) (v3 : List Int) (kn : Int → Int → Int → List Int → Option ρ) (k0 : Int × Int × List Int → Option ρ) : Option ρ :=
 ifb (ilt v2 c3) (dm c2 v2 fun e7 => ifb (ieq e7.1 v0) (ck (c0 - (1 : Int)) fun n8 => dm c1 n8 fun e9 => dm e9 e7.2.1 fun e10 => ifb (ine e10 (1152921504606846976 : Int)) (ck (v1 + e7.2.2) fun n11 => ck (c0 - (1 : Int)) fun n12 => dm c1 n12 fun e13 => dm e13 e7.2.1 fun e14 => ck (n11 + e14) fun n15 => ifb (good n15) (b9 (bZ ((List.length v3) + (List.length ([v2])))) (ck (v1 + e7.2.2) fun n16 => k0 (e7.2.1, n16, (v3 ++ ([v2]))))) (ck (v2 + (1 : Int)) fun n17 => kn v0 v1 n17 v3)) (ck (v2 + (1 : Int)) fun n18 => kn v0 v1 n18 v3)) (ck (v2 + (1 : Int)) fun n19 => kn v0 v1 n19 v3)) (k0 (v0, v1, v3))
theorem acD {ρ : Type} (hS : fB L N) (good : Int → Bool) {rest : List (List Int)} {k : Nat} {x : List Int} (hr : rest[k]? = some x) (hk : k ≤ 100) (hx : Lim 1000000000000000000 x) (hxl : x.length = N) {u sum : Int} (hs : -1000000000000000000 ≤ sum ∧ sum ≤ 1000000000000000000) {out : List Int} (ho : out.length ≤ 1000)
 (K : Int × Int × List Int → Option ρ) : bw (fun (v : Int × Int × Int × List Int) kk => folL good ((k + 1 : Nat) : Int) rest L (bG L) v.1 v.2.1 v.2.2.1 v.2.2.2 (fun a b c d => kk (a, b, c, d)) K) (u, sum, (0 : Int), out) =
  match JU L x good u sum with | some i => K ((L[i]?.getD (0, 0, 0)).2.1, sum + (L[i]?.getD (0, 0, 0)).2.2, out ++ [(i : Int)]) | none => K (u, sum, out) := by
 have hl3 := hS.len
 refine gh (fun v => ∃ i : Nat, i ≤ L.length ∧ v = (u, sum, (i : Int), out) ∧ ∀ j l, j < i → L[j]? = some l → (l.1 == u && (decide (gv x l.2.1 ≠ fN) && good (sum + l.2.2 + gv x l.2.1))) = false) (fun v => L.length - v.2.2.1.toNat) ?_ ⟨0, by omega, rfl, fun j l h => by omega⟩
 rintro v ⟨i, hi, rfl, hp⟩
 have e0 : (((k + 1 : Nat) : Int) - 1) = (k : Int) := by omega
 rcases Nat.lt_or_ge i L.length with h2 | h2
 ·have hl : L[i]? = some L[i] := List.getElem?_eq_getElem h2
  generalize L[i] = l at hl
  have hm := List.mem_of_getElem? hl
  have h1 := hS.inr l hm
  have h4 := hS.most l hm
  have hstep : (l.1 == u && (decide (gv x l.2.1 ≠ fN) && good (sum + l.2.2 + gv x l.2.1))) = false → ∃ y, (∃ i : Nat, i ≤ L.length ∧ y = (u, sum, (i : Int), out) ∧ ∀ j l, j < i → L[j]? = some l → (l.1 == u && (decide (gv x l.2.1 ≠ fN) && good (sum + l.2.2 + gv x l.2.1))) = false) ∧ (L.length - y.2.2.1.toNat < L.length - ((u, sum, (i : Int), out) : Int × Int × Int × List Int).2.2.1.toNat) ∧ y = (u, sum, (i : Int) + 1, out) := fun hf =>
   ⟨_, ⟨i + 1, h2, by rw [show ((i + 1 : Nat) : Int) = (i : Int) + 1 by push_cast; rfl], fun j m hj hm => by
    rcases Nat.lt_succ_iff_lt_or_eq.1 hj with h | rfl
    ·exact hp j m h hm
    ·rw [hl] at hm; cases hm; exact hf⟩, by simp; omega, rfl⟩
  by_cases hf : (l.1 == u && (decide (gv x l.2.1 ≠ fN) && good (sum + l.2.2 + gv x l.2.1))) = true
  ·refine .inl fun kn => ?_
   have hfi : JU L x good u sum = some i := by
    unfold JU
    rw [List.findIdx?_eq_some_iff_getElem]
    obtain ⟨hh, rfl⟩ := List.getElem?_eq_some_iff.1 hl
    exact ⟨h2, hf, fun j hj => by have := hp j _ hj (List.getElem?_eq_getElem (by omega)); rw [this]; simp⟩
   rw [hfi]
   simp only [Bool.and_eq_true, beq_iff_eq, decide_eq_true_eq] at hf
   have h5 := hx _ hf.2.1
   dsimp only
   unfold folL
   rw [bB h2, bt hl, bN (by simp [hf.1]), e0, bE (by omega) (by omega), bt hr, kO h1.2.1 (by omega), bN (bne_iff_ne.2 hf.2.1), bE (by omega) (by omega), bE (by omega) (by omega), bt hr, kO h1.2.1 (by omega), bE (by omega) (by omega), bN hf.2.2,
    di (bD (by simp; omega)), bE (by omega) (by omega), hl]
   rfl
  ·have hf' := Bool.not_eq_true _ ▸ hf
   obtain ⟨y, hy1, hy2, rfl⟩ := hstep hf'
   refine .inr ⟨_, hy1, hy2, fun kn => ?_⟩
   dsimp only
   unfold folL
   rw [bB h2, bt hl, bu h2 (by omega)]
   by_cases g1 : l.1 = u
   ·rw [bN (by simp [g1]), e0, bE (by omega) (by omega), bt hr, kO h1.2.1 (by omega)]
    by_cases g2 : gv x l.2.1 = fN
    ·rw [bz (by rw [g2]; rfl)]
    ·have h5 := hx _ g2
     have g3 : good (sum + l.2.2 + gv x l.2.1) = false := by simpa [g1, g2] using hf'
     rw [bN (bne_iff_ne.2 g2), bE (by omega) (by omega), bE (by omega) (by omega), bt hr, kO h1.2.1 (by omega), bE (by omega) (by omega), bz g3]
   ·rw [bz (by simpa using g1)]
 ·refine .inl fun kn => ?_
  obtain rfl : i = L.length := by omega
  have hfi : JU L x good u sum = none := by
   unfold JU
   rw [List.findIdx?_eq_none_iff]
   intro l hl
   obtain ⟨j, hj, rfl⟩ := List.mem_iff_getElem.1 hl
   exact hp j _ hj (List.getElem?_eq_getElem hj)
  rw [hfi]
  dsimp only
  unfold folL
  rw [bV]
def acC {ρ : Type} (good : Int → Bool) (c0 : List (List Int)) (c6 : List Lk) (v0 : Int) (v1 : Int) (v2 : Int) (v3 : List Int) (kn : Int → Int → Int → List Int → Option ρ) (k0 : List Int → Option ρ) : Option ρ :=
 ifb (igt v1 (0 : Int)) (bw (fun (v22 : Int × Int × Int × List Int) kk27 => folL good v1 c0 c6 (bG c6) v22.1 v22.2.1 v22.2.2.1 v22.2.2.2 (fun u23 u24 u25 u26 => kk27 (u23, u24, u25, u26)) (fun z20 => ck (v1 - (1 : Int)) fun n21 => kn z20.1 n21 z20.2.1 z20.2.2)) (v0, v2, (0 : Int), v3)) (k0 v3)
theorem abh {ρ : Type} (c0 : List (List Int)) (c4 : Int) (c6 : List Lk) : @oz ρ c0 c4 c6 = acC (fun n => ieq n c4) c0 c6 := rfl
theorem acB {ρ : Type} (hS : fB L N) (good : Int → Bool) {rest : List (List Int)} {R : Nat → List Int} {k0 : Nat} (hk : k0 ≤ 100) (hr : ∀ k, k < k0 → rest[k]? = some (R k)) (hx : ∀ k, k < k0 → Lim 900000000000000000 (R k) ∧ (R k).length = N) (u : Int) (K : List Int → Option ρ) :
 bw (fun (v : Int × Int × Int × List Int) kk => acC good rest L v.1 v.2.1 v.2.2.1 v.2.2.2 (fun a b c d => kk (a, b, c, d)) K) (u, (k0 : Int), (0 : Int), []) = K (pv L R good k0 u 0 []) := by
 have key := qp (f := fun (v : Int × Int × Int × List Int) kk => acC good rest L v.1 v.2.1 v.2.2.1 v.2.2.2 (fun a b c d => kk (a, b, c, d)) K) (F := fun v => K (pv L R good v.2.1.toNat v.1 v.2.2.1 v.2.2.2))
  (fun v => ∃ k : Nat, v.2.1 = k ∧ k ≤ k0 ∧ (-(((k0 - k : Nat) : Int) * 4503599627370496) ≤ v.2.2.1 ∧ v.2.2.1 ≤ ((k0 - k : Nat) : Int) * 4503599627370496) ∧ v.2.2.2.length ≤ k0 - k) (fun v => v.2.1.toNat) (fun v hv kn hk => ?_) (x := (u, (k0 : Int), 0, [])) ⟨k0, rfl, Nat.le_refl _, by simp, by simp⟩
 ·rw [key]; simp
 ·obtain ⟨u, k', sum, out⟩ := v
  obtain ⟨k, e, h1, h2, h3⟩ := hv
  dsimp only at e h2 h3 hk ⊢
  subst e
  rw [Int.toNat_natCast] at hk ⊢
  unfold acC
  cases k with
  | zero =>
    rw [bz (by rfl)]
    rfl
  | succ k =>
    rw [bN (decide_eq_true (by omega))]
    have hh := hx k (by omega)
    have hlim : Lim 1000000000000000000 (R k) := fun v hv => by have := hh.1 v hv; omega
    refine (acD hS good (hr k (by omega)) (by omega) hlim hh.2 (by omega) (by omega) _).trans ?_
    unfold pv
    have e0 : (((k + 1 : Nat) : Int) - 1) = (k : Int) := by omega
    cases hn : JU L (R k) good u sum with
    | none =>
      dsimp only
      rw [e0, bE (by omega) (by omega), hk _ ⟨k, rfl, by omega, by dsimp only; omega, by dsimp only; omega⟩ (by simp)]
      simp
    | some i =>
      have hi : i < L.length := by
       unfold JU at hn
       exact (List.findIdx?_eq_some_iff_getElem.1 hn).1
      have hl : L[i]? = some L[i] := List.getElem?_eq_getElem hi
      have h4 := hS.most L[i] (List.getElem_mem _)
      dsimp only
      rw [hl]
      simp only [Option.getD_some]
      rw [e0, bE (by omega) (by omega), hk _ ⟨k, rfl, by omega, by dsimp only; omega, by simp; omega⟩ (by simp)]
      simp
def JK (L : List Lk) (N : Nat) (u v : Int) : List Int × Int :=
 if (gx L N u v).2 ≠ 0 then ([], (gx L N u v).2) else
 match (mh L N v N).findIdx? (fun x => gv x u == (gx L N u v).1) with
 | some k => (pv L (exL L N v) (fun n => ieq n (gx L N u v).1) k u 0 [], 0)
 | none => ([], 0)
theorem V1 (hS : fB L N) {u v : Int} (hu : 0 ≤ u ∧ u < N) (hv : 0 ≤ v ∧ v < N) : vm ((N : Int), L) u v = some (JK L N u v) := by
 have hN := hS.n60
 unfold vm HT JK
 rw [Gj hS hu hv, aZ]
 by_cases h : (gx L N u v).2 = 0
 ·rw [bz (by rw [h]; rfl), if_neg (by simp [h]), aa0 hS hv (by omega), aZ]
  rw [abh]
  let k0 : Int → Option (List Int × Int) := fun j => bw (fun (v29 : Int × Int × Int × List Int) kk34 => acC (fun n => ieq n (gx L N u v).1) (mh L N v N) L v29.1 v29.2.1 v29.2.2.1 v29.2.2.2 (fun u30 u31 u32 u33 => kk34 (u30, u31, u32, u33)) (fun z28 => some ((z28, (0 : Int)) : List Int × Int))) (u, j, (0 : Int), [])
  refine (ir (mh L N v N) (fun x => gv x u == (gx L N u v).1) k0 (k0 (-1)) (fun i x hi hx kn => ?_) (fun kn => ?_)).trans ?_
  rotate_left
  ·try dsimp only
   unfold oA
   rw [bV]
  ·have hex : ∀ k, k < N + 1 → (mh L N v N)[k]? = some (exL L N v k) := fun k hk => Ds (by omega)
   have hlim : ∀ k, k < N + 1 → Lim 900000000000000000 (exL L N v k) ∧ (exL L N v k).length = N := fun k hk => ⟨fun w hw => by
    have := T8 hS hv k (by omega) w hw; omega, Ug _ _⟩
   cases hf : (mh L N v N).findIdx? (fun x => gv x u == (gx L N u v).1) with
   | none =>
     have := qp (f := fun (v29 : Int × Int × Int × List Int) kk34 => acC (fun n => ieq n (gx L N u v).1) (mh L N v N) L v29.1 v29.2.1 v29.2.2.1 v29.2.2.2 (fun u30 u31 u32 u33 => kk34 (u30, u31, u32, u33)) (fun z28 => some ((z28, (0 : Int)) : List Int × Int))) (F := fun _ => some (([], 0) : List Int × Int)) (fun v => v.2.1 = -1 ∧ v.2.2.2 = []) (fun _ => 0) (fun x hx kn hk => by
      unfold acC
      rw [hx.1, hx.2]
      rfl) (x := (u, (-1 : Int), (0 : Int), [])) ⟨rfl, rfl⟩
     exact this
   | some k =>
     have hk := (List.findIdx?_eq_some_iff_getElem.1 hf).1
     rw [jy] at hk
     exact acB hS _ (R := exL L N v) (by omega) (fun j hj => hex j (by omega)) (fun j hj => hlim j (by omega)) u (fun z => some ((z, (0 : Int)) : List Int × Int))
  ·try dsimp only
   unfold oA
   have hxl : x.length = N := by
    have hi' := hi
    rw [jy] at hi'
    rw [Ds (by omega)] at hx
    cases hx
    exact Ug _ _
   rw [jy] at hi
   rw [bP, jy, bN (decide_eq_true (by omega)), bt hx, kO hu.1 (by omega), bE (by omega) (by omega), dG]
 ·rw [bN (bne_iff_ne.2 h), if_pos h]
end
end Go.Proofs.ZzM
end
noncomputable section
namespace Go.Proofs.ZzM
open Go Go.Am
def XI (f : Int → Int → Int) (z : Int) (l : List Int) (d : Int) : Int := match l with | [] => z | x :: _ => f x d
def BK (f : Int → Int → Int) (z : Int) (c : Cmp) : Int := XI f z (cE c.2.2.1 c.2.2.2.1) c.2.1 - XI f z (cE c.2.2.2.1 c.2.2.1) c.2.1
structure ac2 (b : bJ) (f : Int → Int → Int) (z : Int) (g : cf) : Prop where
 hi : f g.1 g.2.1 ≤ z + (g.2.2.1 + g.2.2.2.1.2)
 lo : z + (g.2.2.1 + g.2.2.2.1.1) ≤ f g.1 g.2.1
 down : ∀ d e, g.2.1 ≤ d → d ≤ e → f g.1 e ≤ f g.1 d
 loss : ∀ d e, g.2.1 ≤ d → d ≤ e → f g.1 d ≤ f g.1 e + jl b g d e
structure ST (b : bJ) (f : Int → Int → Int) (z : Int) : Prop where
 gauge : ∀ g ∈ b.2.1, ac2 b f z g
 cmp : ∀ c ∈ b.2.2.2.2.1, (f8 b c).1 ≤ BK f z c ∧ BK f z c ≤ (f8 b c).2
theorem R9 {b : bJ} (h : cZ b) {p : Int → Int} (hg : ∀ g ∈ b.2.1, nO b p g) : ∃ f : Int → Int → Int, (∀ g ∈ b.2.1, ac2 b f (p 0) g) ∧ ∀ g ∈ b.2.1, ∀ d ∈ bO b g, f g.1 d = p (fw b g.1 d) := by
 let f : Int → Int → Int := fun id d => match jX b id with | some g => fill b p g d | none => 0
 have hfv : ∀ g ∈ b.2.1, ∀ d, f g.1 d = fill b p g d := fun g hgm d => by
  show (match jX b g.1 with | some g => fill b p g d | none => 0) = _
  rw [yJ h.ids hgm]
 refine ⟨f, fun g hgm => ?_, fun g hgm d hd => by rw [hfv g hgm]; exact Ga h hgm (hg g hgm) hd⟩
 have gf := hg g hgm
 have e0 : f g.1 g.2.1 = p (fw b g.1 g.2.1) := by rw [hfv g hgm]; exact Ga h hgm gf (lh g)
 refine ⟨by rw [e0]; exact gf.hi, by rw [e0]; exact gf.lo, fun d e h0 hde => ?_, fun d e h0 hde => ?_⟩
 ·rw [hfv g hgm, hfv g hgm]
  exact (Bw h hgm gf h0 hde).1
 ·rw [hfv g hgm, hfv g hgm]
  exact (Bw h hgm gf h0 hde).2
theorem PW {b : bJ} {f : Int → Int → Int} {p : Int → Int} (hm : ∀ g ∈ b.2.1, ∀ d ∈ bO b g, f g.1 d = p (fw b g.1 d)) {l : List Int} {day : Int} (hl : ∀ x ∈ l, ∃ g ∈ b.2.1, g.1 = x ∧ day ∈ bO b g) : p (FL b l day) = XI f (p 0) l day := by
 cases l with
 | nil => rfl
 | cons x t =>
   obtain ⟨g, q1, rfl, q3⟩ := hl x (by simp)
   exact (hm g q1 day q3).symm
theorem Jc {b : bJ} {f : Int → Int → Int} {p : Int → Int} (hm : ∀ g ∈ b.2.1, ∀ d ∈ bO b g, f g.1 d = p (fw b g.1 d)) {c : Cmp}
 (hl : ∀ x, x ∈ cE c.2.2.1 c.2.2.2.1 ∨ x ∈ cE c.2.2.2.1 c.2.2.1 → ∃ g ∈ b.2.1, g.1 = x ∧ c.2.1 ∈ bO b g) : p (cx b c) - p (cy b c) = BK f (p 0) c := by
 unfold BK
 rw [Dy, Dx, PW hm (fun x hx => hl x (.inl hx)), PW hm (fun x hx => hl x (.inr hx))]
theorem LC {b : bJ} (h : cZ b) (f : Int → Int → Int) (z : Int) {l : List Int} {day : Int} (hl : ∀ x ∈ l, ∃ g ∈ b.2.1, g.1 = x ∧ day ∈ bO b g) : LD b f z (FL b l day) = XI f z l day := by
 rw [DH h f z hl]
 unfold XI
 cases l <;> rfl
theorem GD {b : bJ} (h : cZ b) {f : Int → Int → Int} {z : Int} {c : Cmp} (hl : ∀ x, x ∈ cE c.2.2.1 c.2.2.2.1 ∨ x ∈ cE c.2.2.2.1 c.2.2.1 → ∃ g ∈ b.2.1, g.1 = x ∧ c.2.1 ∈ bO b g) : LD b f z (cx b c) - LD b f z (cy b c) = BK f z c := by
 unfold BK
 rw [Dy, Dx, LC h f z (fun x hx => hl x (.inl hx)), LC h f z (fun x hx => hl x (.inr hx))]
theorem LB {b : bJ} (h : cZ b) {f : Int → Int → Int} {z : Int} {g : cf} (hg : g ∈ b.2.1) (hh : ac2 b f z g) : nO b (LD b f z) g := by
 have q : ∀ d ∈ bO b g, LD b f z (fw b g.1 d) = f g.1 d := fun d hd => ze h f z hg hd
 have e0 := q g.2.1 (lh g)
 refine ⟨?_, ?_, fun d e hd he hde => ?_, fun d e hd he hde => ?_⟩
 ·rw [e0, m5]; exact hh.hi
 ·rw [e0, m5]; exact hh.lo
 ·rw [q d hd, q e he]; exact hh.down d e (h.day hg hd).1 hde
 ·rw [q d hd, q e he]; exact hh.loss d e (h.day hg hd).1 hde
section
variable {b : bJ} {c : Cmp}
theorem aaq (h : cZ b) {p : Int → Int} (hp : Pot (bC b) p) : ∃ f, ST b f (p 0) ∧ ∀ g ∈ b.2.1, ∀ d ∈ bO b g, f g.1 d = p (fw b g.1 d) := by
 obtain ⟨hg, hc⟩ := (MY h).1 hp
 obtain ⟨f, hf, hm⟩ := R9 h hg
 refine ⟨f, ⟨hf, fun c hcm => ?_⟩, hm⟩
 have := Jc hm (c := c) (fun x hx => mu h hcm hx)
 have := hc c hcm
 omega
theorem aaR (h : cZ b) {f : Int → Int → Int} {z : Int} (hh : ST b f z) : Pot (bC b) (LD b f z) := by
 refine (MY h).2 ⟨fun g hg => LB h hg (hh.gauge g hg), fun c hc => ?_⟩
 have := GD (f := f) (z := z) h (c := c) (fun x hx => mu h hc hx)
 have := hh.cmp c hc
 omega
theorem VF (h : cZ b) {d : Cmp} (hd : d ∈ b.2.2.2.2.1) : ∀ x, x ∈ cE d.2.2.1 d.2.2.2.1 ∨ x ∈ cE d.2.2.2.1 d.2.2.1 → ∃ g ∈ (bR b c).2.1, g.1 = x ∧ d.2.1 ∈ bO (bR b c) g := by
 intro x hx
 obtain ⟨g, q1, q2, q3⟩ := mu h hd hx
 exact ⟨g, q1, q2, qE q3⟩
theorem YM (h : cZ b) (h' : cZ (bR b c)) {p : Int → Int} (hp : Pot (b8 (bR b c)) p) : ∃ f, ST b f (p 0) ∧ p (cx (bR b c) c) - p (cy (bR b c) c) = BK f (p 0) c := by
 obtain ⟨hg, hc⟩ := (F8 h').1 hp
 obtain ⟨f, hf, hm⟩ := R9 h' hg
 refine ⟨f, ⟨fun g hgm => ?_, fun d hd => ?_⟩, Jc hm fun x hx => mu h' vJ hx⟩
 ·have := hf g hgm
  exact ⟨this.hi, this.lo, this.down, this.loss⟩
 ·have := Jc hm (c := d) (VF h hd)
  have := hc d hd
  omega
theorem YL (h : cZ b) (h' : cZ (bR b c)) {f : Int → Int → Int} {z : Int} (hh : ST b f z) : Pot (b8 (bR b c)) (LD (bR b c) f z) ∧ LD (bR b c) f z (cx (bR b c) c) - LD (bR b c) f z (cy (bR b c) c) = BK f z c := by
 refine ⟨(F8 h').2 ⟨fun g hg => LB h' hg ?_, fun d hd => ?_⟩, GD h' fun x hx => mu h' vJ hx⟩
 ·have := hh.gauge g hg
  exact ⟨this.hi, this.lo, this.down, this.loss⟩
 ·have := GD (f := f) (z := z) h' (c := d) (VF h hd)
  have := hh.cmp d hd
  omega
theorem Qy (h : cZ b) : dw (bC b) ((bp b).length + 1) = true ↔ ∃ f z, ST b f z := by
 have := h.sys.n60
 rw [dY h.sys.links (by omega)]
 constructor
 ·rintro ⟨p, hp⟩
  obtain ⟨f, hf, _⟩ := aaq h hp
  exact ⟨f, _, hf⟩
 ·rintro ⟨f, z, hh⟩
  exact ⟨_, aaR h hh⟩
theorem d_max (h : cZ b) (h' : cZ (bR b c)) {f : Int → Int → Int} {z : Int} (hh : ST b f z) : dLo b c ≤ BK f z c ∧ BK f z c ≤ dHi b c := by
 have ho : dw (b8 (bR b c)) ((bp (bR b c)).length + 1) = true := by rw [nw h h']; exact (Qy h).2 ⟨f, z, hh⟩
 obtain ⟨hp, hd⟩ := YL h h' hh
 have a1 := Pa (iG h') (iY h') ho (xB h') (xA h') hp
 have a2 := Pa (iG h') (iY h') ho (xA h') (xB h') hp
 unfold dLo dHi
 omega
theorem d_all (h : cZ b) (h' : cZ (bR b c)) (ho : dw (bC b) ((bp b).length + 1) = true) {t : Int} (h1 : dLo b c ≤ t) (h2 : t ≤ dHi b c) : ∃ f z, ST b f z ∧ BK f z c = t := by
 rw [← nw h h'] at ho
 obtain ⟨p, hp, hd⟩ := acI (iG h') (iY h') ho (xB h') (xA h') h1 h2
 obtain ⟨f, hf, he⟩ := YM h h' hp
 exact ⟨f, _, hf, by rw [← he]; exact hd⟩
theorem acJ (h : cZ b) (h' : cZ (bR b c)) (ho : dw (bC b) ((bp b).length + 1) = true) : dLo b c ≤ dHi b c := by
 rw [← nw h h'] at ho
 exact Se (iG h') (iY h') ho (xB h') (xA h')
structure Pred (b : bJ) (c : Cmp) (s : Int × Int) : Prop where
 good : cZ b
 good2 : cZ (bR b (bj c))
 order : T6 b c ≤ yI b c
 has : ∃ f z, ST b f z
 ends : s.1 - T6 b c ≤ s.2 - yI b c
 bd : -9007199254740992 ≤ s.1 - T6 b c ∧ s.2 - yI b c ≤ 9007199254740992
 all : ∀ f z, ST b f z → s.1 - T6 b c ≤ BK f z c ∧ BK f z c ≤ s.2 - yI b c
 each : ∀ t, s.1 - T6 b c ≤ t → t ≤ s.2 - yI b c → ∃ f z, ST b f z ∧ BK f z c = t
theorem Qb (hp : (du b c).2 = 0) : Pred b c (du b c).1 := by
 obtain ⟨h, h'⟩ := mG hp
 rw [JG h h'] at hp ⊢
 by_cases ho : dw (bC b) ((bp b).length + 1) = true
 ·rw [if_pos ho] at hp ⊢
  obtain ⟨h1, h2⟩ := S7 hp
  rw [h2]
  have e1 : T6 b (bj c) = T6 b c := rfl
  have e2 : yI b (bj c) = yI b c := rfl
  rw [e1, e2] at *
  have s1 : dLo b (bj c) + T6 b c - T6 b c = dLo b (bj c) := by omega
  have s2 : dHi b (bj c) + yI b c - yI b c = dHi b (bj c) := by omega
  refine ⟨h, h', h1, (Qy h).1 ho, ?_, ?_, fun f z hh => ?_, fun t t1 t2 => ?_⟩
  ·simp only
   rw [s1, s2]
   exact acJ h h' ho
  ·simp only
   rw [s1, s2]
   rw [← nw h h'] at ho
   have a1 := VE (iG h') (iY h') ho (xB h') (xA h')
   have a2 := VE (iG h') (iY h') ho (xA h') (xB h')
   unfold dLo dHi
   omega
  ·simp only
   rw [s1, s2]
   exact d_max (c := bj c) h h' hh
  ·simp only at t1 t2
   rw [s1] at t1
   rw [s2] at t2
   exact d_all (c := bj c) h h' ho t1 t2
 ·rw [if_neg ho] at hp
  simp at hp
end
end Go.Proofs.ZzM
end
noncomputable section
namespace Go.Proofs.ZzM
open Go Go.Am
theorem MN {b : bJ} (h : cZ b) : (eJ b).length = (bC b).length := by
 have g0 : ∀ i, ((b.2.1.take i).mapIdx (dp b)).flatten.length = ((b.2.1.take i).flatMap (de b)).length := by
  intro i
  induction i with
  | zero => simp
  | succ i ih =>
    rcases Nat.lt_or_ge i b.2.1.length with hi | hi
    ·have hg : b.2.1[i]? = some b.2.1[i] := List.getElem?_eq_getElem hi
     rw [kq _ hg, take_succ hg, List.flatMap_append, List.flatten_append, List.length_append, List.length_append, ih]
     congr 1
     unfold dp de
     simp only [List.flatMap_cons, List.flatMap_nil, List.append_nil, List.flatten_cons, List.flatten_nil, List.length_append]
     rw [i9 _ _ (fun _ => rfl), i9 _ _ (fun _ => rfl)]
     rfl
    ·rw [List.take_of_length_le (by omega)] at ih ⊢
     exact ih
 have c0 := Xb (b := b) b.2.2.2.2.1.length (Nat.le_refl _)
 have g1 := g0 b.2.1.length
 rw [List.take_length] at c0 g1
 unfold eJ bC
 rw [List.length_append, List.length_append, g1, c0.1, c0.2]
theorem RY {b : bJ} : ∀ s ∈ (b.2.1.mapIdx (dp b)).flatten, (s.1 = 1 ∨ s.1 = 2) ∧ 0 ≤ s.2 ∧ s.2 < b.2.1.length := by
 intro s hs
 obtain ⟨l, hl, hm⟩ := List.mem_flatten.1 hs
 obtain ⟨i, hi, rfl⟩ := List.mem_iff_getElem.1 hl
 rw [List.length_mapIdx] at hi
 rw [List.getElem_mapIdx] at hm
 unfold dp at hm
 rcases List.mem_append.1 hm with h | h
 ·simp at h; subst h; exact ⟨.inl rfl, by dsimp only; omega, by dsimp only; omega⟩
 ·obtain ⟨_, _, h⟩ := List.mem_flatMap.1 h
  simp at h; subst h; exact ⟨.inr rfl, by dsimp only; omega, by dsimp only; omega⟩
theorem Sj {l : List Cmp} : ∀ s ∈ (l.mapIdx fun i (_ : Cmp) => [((3 : Int), (i : Int)), ((3 : Int), (i : Int))]).flatten, s.1 = 3 ∧ 0 ≤ s.2 ∧ s.2 < l.length := by
 intro s hs
 obtain ⟨m, hl, hm⟩ := List.mem_flatten.1 hs
 obtain ⟨i, hi, rfl⟩ := List.mem_iff_getElem.1 hl
 rw [List.length_mapIdx] at hi
 rw [List.getElem_mapIdx] at hm
 simp at hm; subst hm
 exact ⟨rfl, by dsimp only; omega, by dsimp only; omega⟩
theorem aaD (b : bJ) (c : Cmp) : ∃ S : List (Int × Int), eJ (bR b c) = S ++ [(3, (b.2.2.2.2.1.length : Int)), (3, (b.2.2.2.2.1.length : Int))] ∧ ∀ s ∈ S, ¬ (s.1 = 3 ∧ s.2 = (b.2.2.2.2.1.length : Int)) := by
 refine ⟨((bR b c).2.1.mapIdx (dp (bR b c))).flatten ++ (b.2.2.2.2.1.mapIdx fun i (_ : Cmp) => [((3 : Int), (i : Int)), ((3 : Int), (i : Int))]).flatten, ?_, fun s hs => ?_⟩
 ·unfold eJ
  rw [show (bR b c).2.2.2.2.1 = b.2.2.2.2.1 ++ [c] from rfl, List.mapIdx_append, List.flatten_append, List.append_assoc]
  simp
 ·rcases List.mem_append.1 hs with h | h
  ·have := RY s h; omega
  ·have := Sj s h; omega
theorem Mc (b : bJ) (c : Cmp) (h : cZ (bR b c)) : bC (bR b c) = b8 (bR b c) ++ [(cy (bR b c) c, cx (bR b c) c, (f8 (bR b c) c).2), (cx (bR b c) c, cy (bR b c) c, -(f8 (bR b c) c).1)] := by
 rw [Ud]
 unfold bC
 rw [show (bR b c).2.2.2.2.1 = b.2.2.2.2.1 ++ [c] from rfl, List.flatMap_append, List.append_assoc]
 simp [cw]
def abM (b : bJ) (c : Cmp) (s t : Int) : Int := dst (b8 (bR b c)) ((bp (bR b c)).length + 1) s t
abbrev End : Type := Int × Int × Int
abbrev DL : Type := (Int × Int) × End × End
def endP (b : bJ) (c : Cmp) (s t : Int) : End :=
 (abM b c s t, abM b c s (cy (bR b c) c) + (f8 b c).2 + abM b c (cx (bR b c) c) t, abM b c s (cx (bR b c) c) - (f8 b c).1 + abM b c (cy (bR b c) c) t)
def worth0 : DL := ((0, 0), (0, 0, 0), (0, 0, 0))
def PG (b : bJ) (n : Int × Int) (c : Cmp) : DL :=
 ((du b c).1, endP b (bj c) 0 (nQ (bR b (bj c)) n.1 n.2), endP b (bj c) (nQ (bR b (bj c)) n.1 n.2) 0)
def O1 (b : bJ) (n : Int × Int) (c : Cmp) : DL × Int := if (du b c).2 ≠ 0 then (worth0, (du b c).2) else (PG b n c, 0)
theorem DX {b : bJ} {c : Cmp} (h : (du b c).2 = 0) : dw (bC b) ((bp b).length + 1) = true := by
 obtain ⟨g1, g2⟩ := mG h
 rw [JG g1 g2] at h
 by_cases ho : dw (bC b) ((bp b).length + 1) = true
 ·exact ho
 ·rw [if_neg ho] at h; cases h
section
variable {b : bJ} {c : Cmp} (h : cZ b) (h' : cZ (bR b c)) (ho : dw (bC b) ((bp b).length + 1) = true)
include h h' ho
theorem pu {s t : Int} (hs : 0 ≤ s ∧ s < ((bp (bR b c)).length + 1 : Nat)) (ht : 0 ≤ t ∧ t < ((bp (bR b c)).length + 1 : Nat)) : -9007199254740992 ≤ abM b c s t ∧ abM b c s t ≤ 9007199254740992 :=
 VE (iG h') (iY h') (by rw [nw h h']; exact ho) hs ht
theorem qt (B : bJ) {s t : Int} (hs : 0 ≤ s ∧ s < ((bp (bR b c)).length + 1 : Nat)) (ht : 0 ≤ t ∧ t < ((bp (bR b c)).length + 1 : Nat)) : cq (B, (((bp (bR b c)).length : Int) + 1, b8 (bR b c))) t s = some (abM b c s t) := by
 rw [show (((bp (bR b c)).length : Int) + 1) = (((bp (bR b c)).length + 1 : Nat) : Int) by push_cast; rfl, SA (iG h') ht hs, wp (iG h') (iY h') hs ht, if_pos (by rw [nw h h']; exact ho)]
 rfl
theorem XL : (-4503599627370496 ≤ (f8 b c).1 ∧ (f8 b c).1 ≤ 4503599627370496) ∧ (-4503599627370496 ≤ (f8 b c).2 ∧ (f8 b c).2 ≤ 4503599627370496) := by
 have hs := h'.sys
 have e := Mc b c h'
 have m1 := hs.most (cy (bR b c) c, cx (bR b c) c, (f8 (bR b c) c).2) (by rw [e]; simp)
 have m2 := hs.most (cx (bR b c) c, cy (bR b c) c, -(f8 (bR b c) c).1) (by rw [e]; simp)
 have e2 : f8 (bR b c) c = f8 b c := rfl
 rw [e2] at m1 m2
 dsimp only at m1 m2
 omega
theorem VC (B : bJ) {s t : Int} (hs : 0 ≤ s ∧ s < ((bp (bR b c)).length + 1 : Nat)) (ht : 0 ≤ t ∧ t < ((bp (bR b c)).length + 1 : Nat)) :
 lN t s (B, (((bp (bR b c)).length : Int) + 1, b8 (bR b c))) (cy (bR b c) c) (f8 b c) (cx (bR b c) c) = some (endP b c s t) := by
 have hx := xB h'
 have hy := xA h'
 have b1 := pu h h' ho hs ht
 have b2 := pu h h' ho hs hy
 have b3 := pu h h' ho hx ht
 have b4 := pu h h' ho hs hx
 have b5 := pu h h' ho hy ht
 have b6 := XL h h' ho
 unfold lN ue
 rw [qt h h' ho B hs ht, aZ, qt h h' ho B hs hy, aZ, bE (by omega) (by omega), qt h h' ho B hx ht, aZ, bE (by omega) (by omega), qt h h' ho B hs hx, aZ, bE (by omega) (by omega), qt h h' ho B hy ht, aZ, bE (by omega) (by omega)]
 rfl
end
theorem Qd {B : bJ} (h : cZ B) (hn : ∀ g ∈ B.2.1, I64 g.2.2.2.2.1.1) (s : Sys) (l : List Int) (c : Cmp) : lO l (B, s) c = some (atP (bp B) l c.2.1) := by
 unfold lO uf
 cases l with
 | nil => rw [bP]; rfl
 | cons x t =>
   rw [bP, bz (beq_eq_false_iff_ne.2 (by simp; omega)), show (0 : Int) = ((0 : Nat) : Int) from rfl, bt (show (x :: t)[0]? = some x from rfl), JA h hn, aZ]
   rfl
theorem YQ {ρ : Type} {b : bJ} {c : Cmp} (h : cZ (bR b c)) (K : List Lk → Option ρ) :
 bw (fun (v17 : Val bo) kk20 => jR (b.2.2.2.2.1.length : Int) (eJ (bR b c)) (bC (bR b c)) (bG (bC (bR b c))) v17.1 v17.2 (fun u18 u19 => kk20 (u18, u19)) K) ((0 : Int), []) = K (b8 (bR b c)) := by
 have hl3 := h.sys.len
 have hsl := MN h
 obtain ⟨S, hS, hSk⟩ := aaD b c
 have hL := Mc b c h
 have hSl : S.length = (b8 (bR b c)).length := by
  rw [hS, hL, List.length_append, List.length_append] at hsl
  simpa using hsl
 generalize b8 (bR b c) = H at hL hSl ⊢
 rw [hS]
 generalize bC (bR b c) = L at hL hsl hl3 ⊢
 have hLl : L.length = H.length + 2 := by rw [hL]; simp
 refine cp L (fun i => (L.take i).take H.length) _ (by simp) (fun i l hi hl kn => ?_) (fun kn => ?_)
 ·try dsimp only
  unfold jR
  rw [bB hi, bt hl]
  rcases Nat.lt_or_ge i H.length with h1 | h1
  ·have hs : (S ++ [((3 : Int), (b.2.2.2.2.1.length : Int)), (3, (b.2.2.2.2.1.length : Int))])[i]? = some S[i] := by
    rw [List.getElem?_append_left (by omega), List.getElem?_eq_getElem]
   have hk := hSk S[i] (List.getElem_mem _)
   have e : ((fm (S[i]).1 (3 : Int)) && ((fm (S[i]).2 (b.2.2.2.2.1.length : Int)) && true)) = false := by
    simp [fm]; omega
   have e1 : (L.take i).take H.length = L.take i := List.take_of_length_le (by rw [List.length_take]; omega)
   have e2 : (L.take (i + 1)).take H.length = L.take (i + 1) := List.take_of_length_le (by rw [List.length_take]; omega)
   rw [bt hs, e, bN (by rfl), e1, e2, di (bD (by rw [List.length_take]; simp; omega)), bu hi (by omega), take_succ hl]
  ·have hs : (S ++ [((3 : Int), (b.2.2.2.2.1.length : Int)), (3, (b.2.2.2.2.1.length : Int))])[i]? = some ((3 : Int), (b.2.2.2.2.1.length : Int)) := by
    rw [List.getElem?_append_right (by omega)]
    have : i - S.length = 0 ∨ i - S.length = 1 := by omega
    rcases this with e | e <;> rw [e] <;> rfl
   have e : ((fm (3 : Int) (3 : Int)) && ((fm (b.2.2.2.2.1.length : Int) (b.2.2.2.2.1.length : Int)) && true)) = true := by simp [fm]
   have e1 : (L.take i).take H.length = (L.take (i + 1)).take H.length := by
    rw [List.take_take, List.take_take]
    congr 1
    omega
   rw [bt hs]
   dsimp only
   rw [e, bz (by rfl), bu hi (by omega), e1]
 ·try dsimp only
  unfold jR
  rw [bV, List.take_length, hL]
  simp
theorem RN {B : bJ} (hr : acY B) (n : Int × Int) {c : Cmp} (hA : c.2.2.1.length ≤ 1000) (hB : c.2.2.2.1.length ≤ 1000) : qx (B, JN B) n c = some (O1 B n c) := by
 unfold qx Cs O1
 have hs := hr.good.size
 rw [show (B, JN B).1 = B from rfl, Xf hs hr.num hA hB, aZ]
 by_cases hp : (du B c).2 = 0
 ·obtain ⟨g1, g2⟩ := mG hp
  have ho := DX hp
  have e1 : vz B (bj c) = (bR B (bj c), 0) := by
   unfold vz
   rw [if_neg (by simp [(bH B).2 g1]), if_neg (by simp [(bH _).2 g2])]
  have hn2 : ∀ g ∈ (bR B (bj c)).2.1, I64 g.2.2.2.2.1.1 := hr.num
  have hC := g2.nC
  have hw : (((bR B (bj c)).2.2.2.2.1.length : Int) - 1) = (B.2.2.2.2.1.length : Int) := by simp [bR]
  have hSays : aby (bR B (bj c)) (B.2.2.2.2.1.length : Int) = (f8 B (bj c), 0) := by
   have e : pD (bR B (bj c)) (B.2.2.2.2.1.length : Int) = (bj c, 0) := by
    unfold pD
    rw [if_neg (by simp [(bH _).2 g2]), if_neg (by simp [bR]; omega)]
    simp [bR]
   unfold aby
   rw [e, if_neg (by simp)]
   rfl
  have hCancel : JL c.2.2.1 c.2.2.2.1 = (cE c.2.2.1 c.2.2.2.1, cE c.2.2.2.1 c.2.2.1, 0) := by
   have hnu := (jJ _).1 (g2.nums (vJ (c := bj c)))
   have h6 : lW c.2.2.1 = true ∧ lW c.2.2.2.1 = true := ⟨hnu.2.2.2.2.2.1, hnu.2.2.2.2.2.2⟩
   unfold JL
   rw [h6.1, h6.2]
   rfl
  rw [bz (by rw [hp]; rfl), if_neg (by simp [hp]), show mB B (c.1, c.2.1, c.2.2.1, c.2.2.2.1, (0 : Int), c.2.2.2.2.2) = mB B (bj c) from rfl, ZK hs hr.num (c := bj c) hA hB, aZ, e1]
  dsimp only
  rw [bz (by rfl), bP, hw, bE (by omega) (by omega), acX (g2.inn hn2), aZ, hSays, SL (by omega) (by omega), aZ, hCancel, lT (g2.inn hn2), aZ, gF g2]
  dsimp only
  refine (YQ g2 _).trans ?_
  have ex : cx (bR B (bj c)) (bj c) = atP (bp (bR B (bj c))) (cE c.2.2.1 c.2.2.2.1) c.2.1 := rfl
  have ey : cy (bR B (bj c)) (bj c) = atP (bp (bR B (bj c))) (cE c.2.2.2.1 c.2.2.1) c.2.1 := rfl
  rw [Qd g2 hn2, aZ, Qd g2 hn2, aZ, JA g2 hn2, aZ, ← ex, ← ey, VC g1 g2 ho _ (g9 _) (fg _ n), aZ, VC g1 g2 ho _ (fg _ n) (g9 _), aZ]
  rfl
 ·rw [bN (bne_iff_ne.2 hp), if_pos hp]
  rfl
end Go.Proofs.ZzM
end
noncomputable section
namespace Go.Proofs.ZzM
open Go Go.Am
abbrev abD : Type := bJ × (Int × Int) × Bool × Int × List Int
def Zj : abD := (mF, (0, 0), false, 0, [])
def xH (L : List Lk) : Int → Int → List Int → Int × Int × Bool
 | u, s, [] => (u, s, true)
 | u, s, i :: t => if (L[i.toNat]?.getD (0, 0, 0)).1 = u then xH L (L[i.toNat]?.getD (0, 0, 0)).2.1 (s + (L[i.toNat]?.getD (0, 0, 0)).2.2) t else (0, 0, false)
def SC (L : List Lk) (i : Int) : Bool := decide (i < 0) || decide ((L.length : Int) ≤ i)
def jV (L : List Lk) (l : List Int) : Int := if 80 < l.length then 2 else if l.any (SC L) then 1 else 0
def fk (L : List Lk) (u v : Int) (l : List Int) : Int × Int :=
 if jV L l ≠ 0 then (0, jV L l) else if (xH L u 0 l).2.2 = true ∧ (xH L u 0 l).1 = v then ((xH L u 0 l).2.1, 0) else (0, 8)
def abU (u : Int) (w : Int × Int × Bool) : Int := if w.2.2 = true ∧ w.1 = u ∧ w.2.1 < 0 then 0 else 8
def sr (L : List Lk) (l : List Int) : Int :=
 if jV L l ≠ 0 then jV L l else match l with
 | [] => 8
 | i :: _ => abU (L[i.toNat]?.getD (0, 0, 0)).1 (xH L (L[i.toNat]?.getD (0, 0, 0)).1 0 l)
section
variable {L : List Lk} {N : Nat}
theorem Mj (N : Int) (hL : L.length ≤ 1000) (l : List Int) : nD (N, L) l = some (jV L l) := by
 unfold nD yo jV
 dsimp only
 rw [bP]
 by_cases h : 80 < l.length
 ·rw [bN (decide_eq_true (by omega)), if_pos h]
 ·rw [bz (decide_eq_false (by omega)), if_neg h, ← bP l]
  refine (gM l (SC L) (fun z => ifb (ige z 0) (some 1) (some 0)) (some 1) (some 0) (fun j => by rw [show ige (j : Int) 0 = true from decide_eq_true (by omega)]; rfl) (fun i a hi ha kn => ?_) (fun kn => ?_)).trans ?_
  ·try dsimp only
   unfold kZ SC
   rw [bB hi, bt ha, bu hi (by omega), bP, dG, dG]
   by_cases h1 : a < 0
   ·simp [ilt, h1]
   ·by_cases h2 : (L.length : Int) ≤ a
    ·simp [ilt, ige, h1, h2]
    ·simp [ilt, ige, h1, h2]
  ·try dsimp only
   unfold kZ
   rw [bV]
  ·cases l.any (SC L) <;> rfl
theorem Uc {l : List Int} (h : jV L l = 0) : l.length ≤ 80 ∧ ∀ i ∈ l, 0 ≤ i ∧ i.toNat < L.length := by
 unfold jV at h
 split at h
 ·omega
 ·rename_i h1
  split at h
  ·omega
  ·rename_i h2
   refine ⟨by omega, fun i hi => ?_⟩
   have := List.any_eq_false.1 (Bool.eq_false_iff.2 h2) i hi
   simp [SC] at this
   omega
theorem Xt (hS : fB L N) (u : Int) {l : List Int} (h : jV L l = 0) : BF ((N : Int), L) u l = some (xH L u 0 l) := by
 obtain ⟨hl, hi⟩ := Uc h
 unfold BF NW
 dsimp only
 have := qp (f := fun (v7 : Int × Int × Int) kk11 => rq l (bG l) L v7.1 v7.2.1 v7.2.2 (fun u8 u9 u10 => kk11 (u8, u9, u10)) (fun z5 => some (z5.1, z5.2.1, z5.2.2)) (fun z6 => some (z6.1, z6.2, true)))
  (F := fun v => some (xH L v.1 v.2.1 (l.drop v.2.2.toNat))) (fun v => ∃ i : Nat, v.2.2 = i ∧ i ≤ l.length ∧ (-(i * 4503599627370496) ≤ v.2.1 ∧ v.2.1 ≤ i * 4503599627370496)) (fun v => l.length - v.2.2.toNat) (fun v hv kn hk => ?_) (x := (u, (0 : Int), (0 : Int))) ⟨0, rfl, by omega, by simp⟩
 ·exact this
 ·obtain ⟨w, s, n⟩ := v
  obtain ⟨i, e, h1, h2⟩ := hv
  dsimp only at e h2 hk ⊢
  subst e
  rw [Int.toNat_natCast] at hk ⊢
  unfold rq
  rcases Nat.lt_or_ge i l.length with h3 | h3
  ·have ha : l[i]? = some l[i] := List.getElem?_eq_getElem h3
   have hd : l.drop i = l[i] :: l.drop (i + 1) := List.drop_eq_getElem_cons h3
   rw [hd]
   have hx := hi l[i] (List.getElem_mem _)
   generalize l[i] = a at ha hx
   have hg : L[a.toNat]? = some L[a.toNat] := List.getElem?_eq_getElem hx.2
   have hm := hS.most _ (List.mem_of_getElem? hg)
   generalize L[a.toNat] = x at hg hm
   rw [bB h3, bt ha, kM hx.1 hg]
   unfold xH
   rw [hg]
   simp only [Option.getD_some]
   by_cases hc : x.1 = w
   ·rw [bz (by rw [hc]; exact bne_self_eq_false' _), if_pos hc, bE (by omega) (by omega), bu h3 (by omega), hk _ ⟨i + 1, by push_cast; rfl, h3, by dsimp only; push_cast; omega⟩ (by simp; omega)]
    simp
   ·rw [bN (bne_iff_ne.2 hc), if_neg hc]
  ·obtain rfl : i = l.length := by omega
   rw [bV, List.drop_length]
   rfl
theorem Xu (hS : fB L N) : ∀ (l : List Int) (u s B : Int), -B ≤ s ∧ s ≤ B → -(B + l.length * 4503599627370496) ≤ (xH L u s l).2.1 ∧ (xH L u s l).2.1 ≤ B + l.length * 4503599627370496
 | [], u, s, B, h => by simp [xH]; omega
 | i :: t, u, s, B, h => by
   unfold xH
   have hm : -4503599627370496 ≤ (L[i.toNat]?.getD (0, 0, 0)).2.2 ∧ (L[i.toNat]?.getD (0, 0, 0)).2.2 ≤ 4503599627370496 := by
    cases hg : L[i.toNat]? with
    | none => simp
    | some x => exact hS.most x (List.mem_of_getElem? hg)
   split
   ·have := Xu hS t (L[i.toNat]?.getD (0, 0, 0)).2.1 (s + (L[i.toNat]?.getD (0, 0, 0)).2.2) (B + 4503599627370496) (by omega)
    rw [List.length_cons]
    push_cast
    omega
   ·dsimp only
    omega
theorem BX (hS : fB L N) {u v : Int} (hu : 0 ≤ u ∧ u < N) (hv : 0 ≤ v ∧ v < N) (l : List Int) : i0 ((N : Int), L) u v l = some (fk L u v l) := by
 have hl3 := hS.len
 unfold i0 pm fk
 have e1 : (decide (0 ≤ u) && decide (u < (N : Int))) = true := by simp [hu.1, hu.2]
 have e2 : (decide (0 ≤ v) && decide (v < (N : Int))) = true := by simp [hv.1, hv.2]
 rw [iK hS, aZ, bz (by rfl), GS, aZ, e1, bz (by rfl), GS, aZ, e2, bz (by rfl), Mj _ (by omega), aZ]
 by_cases h : jV L l = 0
 ·rw [bz (by rw [h]; rfl), if_neg (by simp [h]), Xt hS u h, aZ]
  cases h1 : (xH L u 0 l).2.2 with
  | false => rw [bN (by rfl), if_neg (by simp)]
  | true =>
    rw [bz (by rfl)]
    by_cases h2 : (xH L u 0 l).1 = v
    ·rw [bz (by rw [h2]; exact bne_self_eq_false' _), if_pos ⟨rfl, h2⟩]
    ·rw [bN (bne_iff_ne.2 h2), if_neg (fun h => h2 h.2)]
 ·rw [bN (bne_iff_ne.2 h), if_pos h]
theorem IP {ρ α : Type} (x : α) (t : List α) (f : α → Option ρ) : dm (x :: t) (0 : Int) f = f x := rfl
theorem Lp (hS : fB L N) (l : List Int) : lf ((N : Int), L) l = some (sr L l) := by
 have hl3 := hS.len
 unfold lf pl sr
 rw [iK hS, aZ, bz (by rfl), Mj _ (by omega), aZ]
 by_cases h : jV L l = 0
 ·rw [bz (by rw [h]; rfl), if_neg (by simp [h])]
  cases l with
  | nil => rw [bP]; rfl
  | cons i t =>
    have hx := (Uc h).2 i (by simp)
    have hg : L[i.toNat]? = some L[i.toNat] := List.getElem?_eq_getElem hx.2
    generalize L[i.toNat] = x at hg
    rw [bP, bz (beq_eq_false_iff_ne.2 (by simp; omega)), IP, kM hx.1 hg, Xt hS x.1 h, aZ]
    dsimp only
    rw [hg]
    dsimp only [Option.getD_some]
    generalize xH L x.1 0 (i :: t) = w
    obtain ⟨e, sum, ok⟩ := w
    unfold abU
    dsimp only
    cases ok with
    | false => rw [bN (by rfl), if_neg (by simp)]
    | true =>
      rw [bz (by rfl)]
      by_cases h2 : e = x.1
      ·rw [bz (by rw [h2]; exact bne_self_eq_false' _)]
       by_cases h3 : sum < 0
       ·rw [bz (decide_eq_false (by omega)), if_pos ⟨rfl, h2, h3⟩]
       ·rw [bN (decide_eq_true (by omega)), if_neg (fun h => h3 h.2.2)]
      ·rw [bN (bne_iff_ne.2 h2), if_neg (fun h => h2 h.2.1)]
 ·rw [bN (bne_iff_ne.2 h), if_pos h]
end
def mW (c : abD) : Int :=
 if bM c.1 ≠ 0 then bM c.1 else if nQ c.1 c.2.1.1 c.2.1.2 = 0 then 5 else
 if c.2.2.1 then (if fk (bC c.1) 0 (nQ c.1 c.2.1.1 c.2.1.2) c.2.2.2.2 = (c.2.2.2.1, 0) then 0 else 8)
 else (if fk (bC c.1) (nQ c.1 c.2.1.1 c.2.1.2) 0 c.2.2.2.2 = (-c.2.2.2.1, 0) then 0 else 8)
def nP (c : abD) : Int :=
 if bM c.1 ≠ 0 then bM c.1 else if c.2.1 ≠ (0, 0) ∨ c.2.2.1 = true ∨ c.2.2.2.1 ≠ 0 then 1 else if sr (bC c.1) c.2.2.2.2 = 0 then 0 else 8
def UD (b : bJ) (c : abD) : Bool × Int :=
 if bM b ≠ 0 then (false, bM b) else
 if c.2.1 = (0, 0) then (if nP c ≠ 0 then (false, nP c) else (aau c.1 b, 0)) else (if mW c ≠ 0 then (false, mW c) else (aau c.1 b, 0))
theorem wr_neg {n : Int} (h : I64 n) : ab1 (0 - n) = if n = -9223372036854775808 then n else -n := by
 have e : ab1 (0 - n) = if (0 - n) % 18446744073709551616 ≥ 9223372036854775808 then (0 - n) % 18446744073709551616 - 18446744073709551616 else (0 - n) % 18446744073709551616 := by
  simp [ab1, IntKind.wrap, IntKind.bits, IntKind.signed]
 rw [e]
 unfold I64 at h
 split <;> split <;> omega
theorem EX {c : abD} (hI : In c.1) (hv : I64 c.2.2.2.1) : j1 c = some (mW c) := by
 unfold j1 rk mW
 rw [gQ hI.size hI.num, aZ]
 by_cases hc : bM c.1 = 0
 ·have hg := (bH c.1).1 hc
  rw [bz (by simp [ine, hc]), if_neg (show ¬ (bM c.1 ≠ 0) from fun h => h hc), qJ hI, aZ, nN hg, lT hI, aZ, gF hg]
  dsimp only
  by_cases h0 : nQ c.1 c.2.1.1 c.2.1.2 = 0
  ·rw [if_pos h0, if_pos h0]; rfl
  ·have hN := hg.sys
   have hr := fg c.1 c.2.1
   have hz := g9 c.1
   rw [if_neg h0, if_neg h0, bz (by rfl), show (((bp c.1).length : Int) + 1) = (((bp c.1).length + 1 : Nat) : Int) by push_cast; rfl]
   dsimp only
   rw [show (∀ f : Int → Option Int, ck (0 - c.2.2.2.1) f = f (ab1 (0 - c.2.2.2.1))) from fun f => rfl, wr_neg hv]
   have key : ∀ (u v : Int) (t t' : Int), (t' = t ∨ (t' = -9223372036854775808 ∧ t = 9223372036854775808)) → (ifb (ine (fk (bC c.1) u v c.2.2.2.2).2 0) (some (8 : Int)) (ifb (ine (fk (bC c.1) u v c.2.2.2.2).1 t') (some 8) (some 0))) = some (if fk (bC c.1) u v c.2.2.2.2 = (t, 0) then 0 else 8) := by
    intro u v t t' ht
    have hb : -9000000000000000000 ≤ (fk (bC c.1) u v c.2.2.2.2).1 ∧ (fk (bC c.1) u v c.2.2.2.2).1 ≤ 9000000000000000000 := by
     unfold fk
     split
     ·simp
     ·rename_i hi
      split
      ·have := Xu hN c.2.2.2.2 u 0 0 (by simp)
       have := (Uc (by simpa using hi)).1
       dsimp only
       omega
      ·simp
    generalize fk (bC c.1) u v c.2.2.2.2 = p at hb ⊢
    by_cases h2 : p.2 = 0
    ·rw [bz (by rw [h2]; rfl)]
     by_cases h1 : p.1 = t'
     ·have : p = (t, 0) := Prod.ext (by rcases ht with h | h <;> omega) h2
      rw [bz (by rw [h1]; exact bne_self_eq_false' _), if_pos this]
     ·have : ¬ p = (t, 0) := fun e => by
       have e1 : p.1 = t := by rw [e]
       rcases ht with h | h <;> omega
      rw [bN (bne_iff_ne.2 h1), if_neg this]
    ·have : ¬ p = (t, 0) := fun e => h2 (by rw [e])
     rw [bN (bne_iff_ne.2 h2), if_neg this]
   unfold I64 at hv
   cases c.2.2.1 with
   | true =>
     rw [eu, BX hN hz hr, aZ, key _ _ _ _ (.inl rfl)]
     rfl
   | false =>
     rw [b7, BX hN hr hz, aZ, key _ _ (-c.2.2.2.1) _ (by split <;> omega)]
     rfl
 ·rw [bN (by simp [ine, hc]), if_pos hc]
theorem PB {c : abD} (hI : In c.1) : ld c = some (nP c) := by
 unfold ld pd nP
 rw [gQ hI.size hI.num, aZ]
 by_cases hc : bM c.1 = 0
 ·have hg := (bH c.1).1 hc
  rw [bz (by simp [ine, hc]), if_neg (show ¬ (bM c.1 ≠ 0) from fun h => h hc)]
  by_cases h1 : c.2.1 = (0, 0)
  ·have e1 : (!((fm c.2.1.1 0) && ((fm c.2.1.2 0) && true))) = false := by rw [h1]; rfl
   rw [e1, b7]
   cases h2 : c.2.2.1 with
   | true => rw [eu, if_pos (.inr (.inl rfl))]
   | false =>
     rw [b7]
     by_cases h3 : c.2.2.2.1 = 0
     ·rw [bz (by rw [h3]; rfl), if_neg (by simp [h1, h3]), lT hI, aZ, gF hg, show (((bp c.1).length : Int) + 1) = (((bp c.1).length + 1 : Nat) : Int) by push_cast; rfl]
      dsimp only
      rw [Lp hg.sys, aZ]
      by_cases h4 : sr (bC c.1) c.2.2.2.2 = 0
      ·rw [bz (by rw [h4]; rfl), if_pos h4]
      ·rw [bN (bne_iff_ne.2 h4), if_neg h4]
     ·rw [bN (bne_iff_ne.2 h3), if_pos (.inr (.inr h3))]
  ·have e1 : (!((fm c.2.1.1 0) && ((fm c.2.1.2 0) && true))) = true := by
    rw [Prod.ext_iff] at h1
    simp [fm]
    dsimp only at h1
    omega
   rw [e1, eu, if_pos (.inl h1)]
 ·rw [bN (by simp [ine, hc]), if_pos hc]
theorem ZL {b : bJ} {c : abD} (hb : In b) (hI : In c.1) (hv : I64 c.2.2.2.1) : wc b c = some (UD b c) := by
 unfold wc Cx UD
 rw [gQ hb.size hb.num, aZ]
 by_cases hc : bM b = 0
 ·rw [bz (by simp [ine, hc]), if_neg (show ¬ (bM b ≠ 0) from fun h => h hc)]
  by_cases h1 : c.2.1 = (0, 0)
  ·have e1 : ((fm c.2.1.1 0) && ((fm c.2.1.2 0) && true)) = true := by rw [h1]; rfl
   rw [e1, eu, if_pos h1, PB hI, aZ]
   by_cases h2 : nP c = 0
   ·rw [bz (by rw [h2]; rfl), if_neg (by simp [h2]), part_ok hI.size hb.size, aZ]
   ·rw [bN (bne_iff_ne.2 h2), if_pos h2]
  ·have e1 : ((fm c.2.1.1 0) && ((fm c.2.1.2 0) && true)) = false := by
    rw [Prod.ext_iff] at h1
    simp [fm]
    dsimp only at h1
    omega
   rw [e1, b7, if_neg h1, EX hI hv, aZ]
   by_cases h2 : mW c = 0
   ·rw [bz (by rw [h2]; rfl), if_neg (by simp [h2]), part_ok hI.size hb.size, aZ]
   ·rw [bN (bne_iff_ne.2 h2), if_pos h2]
 ·rw [bN (by simp [ine, hc]), if_pos hc]
end Go.Proofs.ZzM
end
noncomputable section
namespace Go.Proofs.ZzM
open Go Go.Am
def Gq (b : bJ) (l : List Int) : List (Int × Int) := l.map fun i => (eJ b)[i.toNat]?.getD (0, 0)
theorem V8 {b : bJ} (hg : cZ b) (hn : ∀ g ∈ b.2.1, I64 g.2.2.2.2.1.1) {l : List Int} (hl : l.length ≤ 1000) (hi : ∀ i ∈ l, 0 ≤ i ∧ i.toNat < (bC b).length) : nA b l = some (Gq b l) := by
 unfold nA ye
 rw [lT (hg.inn hn), aZ, gF hg]
 refine cp l (fun i => Gq b (l.take i)) _ rfl (fun i a hlt ha kn => ?_) (fun kn => ?_)
 ·try dsimp only
  unfold kX
  have hx := hi a (List.mem_of_getElem? ha)
  have hs : (eJ b)[a.toNat]? = some ((eJ b)[a.toNat]'(by rw [MN hg]; exact hx.2)) := List.getElem?_eq_getElem _
  generalize (eJ b)[a.toNat]'(by rw [MN hg]; exact hx.2) = x at hs
  have hlen : (Gq b (l.take i)).length ≤ 1000 := by unfold Gq; rw [List.length_map, List.length_take]; omega
  rw [bB hlt, bt ha, kM hx.1 hs, di (show bZ ((Gq b (l.take i)).length + [x].length) = true from bD (show (Gq b (l.take i)).length + 1 ≤ 4294967296 by omega)), bu hlt (by omega), take_succ ha]
  unfold Gq
  rw [List.map_append, List.map_singleton, hs]
  rfl
 ·try dsimp only
  unfold kX
  rw [bV, List.take_length]
theorem src_ok {b : bJ} : ∀ s ∈ eJ b, acW b s := by
 intro s hs
 unfold eJ at hs
 rcases List.mem_append.1 hs with h | h
 ·have := RY s h; exact .inl this
 ·have := Sj s h; exact .inr this
theorem aae {b : bJ} (hg : cZ b) {l : List Int} (hi : ∀ i ∈ l, 0 ≤ i ∧ i.toNat < (bC b).length) : ∀ s ∈ Gq b l, acW b s := by
 intro s hs
 obtain ⟨i, h1, rfl⟩ := List.mem_map.1 hs
 have hx := hi i h1
 have hsx : (eJ b)[i.toNat]? = some ((eJ b)[i.toNat]'(by rw [MN hg]; exact hx.2)) := List.getElem?_eq_getElem _
 rw [hsx]
 exact src_ok _ (List.getElem_mem _)
section
variable {L : List Lk} {N : Nat}
theorem Dp (R : Nat → List Int) (good : Int → Bool) : ∀ (k : Nat) (u sum : Int) (out : List Int), (∀ i ∈ out, 0 ≤ i ∧ i.toNat < L.length) → (∀ i ∈ pv L R good k u sum out, 0 ≤ i ∧ i.toNat < L.length) ∧ (pv L R good k u sum out).length ≤ out.length + k
 | 0, u, sum, out, h => ⟨h, by simp [pv]⟩
 | k + 1, u, sum, out, h => by
   unfold pv
   cases hn : JU L (R k) good u sum with
   | none =>
     have := Dp R good k u sum out h
     exact ⟨this.1, by have := this.2; dsimp only; omega⟩
   | some i =>
     have hi : i < L.length := by
      unfold JU at hn
      exact (List.findIdx?_eq_some_iff_getElem.1 hn).1
     have := Dp R good k (L[i]?.getD (0, 0, 0)).2.1 (sum + (L[i]?.getD (0, 0, 0)).2.2) (out ++ [(i : Int)]) (fun j hj => by
      rcases List.mem_append.1 hj with h1 | h1
      ·exact h j h1
      ·simp at h1; subst h1; simp; exact hi)
     exact ⟨this.1, by have := this.2; simp at this; dsimp only; omega⟩
theorem Sn (N : Nat) (u v : Int) : (∀ i ∈ (JK L N u v).1, 0 ≤ i ∧ i.toNat < L.length) ∧ (JK L N u v).1.length ≤ N := by
 unfold JK
 split
 ·simp
 ·cases h : (mh L N v N).findIdx? (fun x => gv x u == (gx L N u v).1) with
  | none => simp
  | some k =>
    have hk := (List.findIdx?_eq_some_iff_getElem.1 h).1
    rw [jy] at hk
    have := Dp (L := L) (exL L N v) (fun n => ieq n (gx L N u v).1) k u 0 [] (by simp)
    exact ⟨this.1, by have := this.2; simp at this; dsimp only; omega⟩
end
def EU (B : bJ) (n : Int × Int) (upper : Bool) : List Int :=
 if upper then (JK (bC B) ((bp B).length + 1) 0 (nQ B n.1 n.2)).1 else (JK (bC B) ((bp B).length + 1) (nQ B n.1 n.2) 0).1
def tJ (B : bJ) (n : Int × Int) (upper : Bool) : bJ := cutP B (Gq B (EU B n upper)) [n]
def certR (B : bJ) (n : Int × Int) (upper : Bool) : abD := (tJ B n upper, n, upper, (if upper then (ivR B n).2 else (ivR B n).1), EU (tJ B n upper) n upper)
def mH (b : bJ) (n : Int × Int) (upper : Bool) : abD × Int :=
 if (dr b [n]).2 ≠ 0 then (Zj, (dr b [n]).2) else
 if bM (tJ (dr b [n]).1 n upper) ≠ 0 then (Zj, bM (tJ (dr b [n]).1 n upper)) else
 if dw (bC (tJ (dr b [n]).1 n upper)) ((bp (tJ (dr b [n]).1 n upper)).length + 1) then (certR (dr b [n]).1 n upper, 0) else (Zj, 9)
theorem W4 {ρ : Type} : @ph ρ = @cB ρ := rfl
theorem X5 {ρ : Type} (K : Option ρ) : bw (fun (v23 : Int) kk25 => pf (0 : Int) v23 (fun u24 => kk25 u24) (fun _ => K)) (0 : Int) = K := by
 refine gh (fun x => x = 0) (fun _ => 0) (fun x hx => .inl fun kn => ?_) rfl
 rw [hx]
 rfl
theorem UN {B : bJ} (h : cZ B) (hn : ∀ g ∈ B.2.1, I64 g.2.2.2.2.1.1) (n : Int × Int) (upper : Bool) : j2 (B, JN B) n upper = some (EU B n upper) := by
 unfold j2 rl EU
 rw [JA h hn, aZ, show (B, JN B).2 = JN B from rfl, B3]
 cases upper with
 | true => rw [eu, V1 h.sys (g9 B) (fg B n), aZ]; rfl
 | false => rw [b7, V1 h.sys (fg B n) (g9 B), aZ]; rfl
theorem WZ {B : bJ} (h : cZ B) (n : Int × Int) (upper : Bool) : (∀ i ∈ EU B n upper, 0 ≤ i ∧ i.toNat < (bC B).length) ∧ (EU B n upper).length ≤ 60 := by
 have hN := h.sys.n60
 unfold EU
 split
 ·have := Sn (L := bC B) ((bp B).length + 1) 0 (nQ B n.1 n.2)
  exact ⟨this.1, by have := this.2; omega⟩
 ·have := Sn (L := bC B) ((bp B).length + 1) (nQ B n.1 n.2) 0
  exact ⟨this.1, by have := this.2; omega⟩
theorem IF (w : List Int) : ∀ (l : List Cmp) (i : Nat), ∀ c ∈ yG w i l, c ∈ l
 | [], i, c, h => by simp [yG] at h
 | a :: l, i, c, h => by
   simp only [yG] at h
   split at h
   ·rcases List.mem_cons.1 h with h | h
    ·rw [h]; simp
    ·exact List.mem_cons_of_mem _ (IF w l (i + 1) c h)
   ·exact List.mem_cons_of_mem _ (IF w l (i + 1) c h)
theorem abQ {b : bJ} (h : In b) (ss : List (Int × Int)) {looks : List (Int × Int)} (hl : looks.length ≤ 1000) : In (cutP b ss looks) := by
 obtain ⟨hs, hn⟩ := h
 have g1 := hs.gauges; have g2 := hs.uses; have g3 := hs.loans; have g4 := hs.compares
 unfold cutP
 refine ⟨⟨?_, ?_, ?_, ?_, hl, fun c hc => hs.piles c (IF _ _ _ c hc)⟩, fun g hg => hn g (List.mem_filter.1 hg).1⟩
 ·exact Nat.le_trans (List.length_filter_le _ _) g1
 ·exact Nat.le_trans (List.length_filter_le _ _) g2
 ·exact Nat.le_trans (List.length_filter_le _ _) g3
 ·exact Nat.le_trans (IG _ _ _) g4
theorem Xh {b : bJ} (hI : In b) (n : Int × Int) (upper : Bool) : sd b n upper = some (mH b n upper) := by
 unfold sd ym mH
 rw [W4]
 refine (qO hI (ns := [n]) (by simp) (fun e => some (Zj, e)) (fun e he => by rw [di (by simp [ine, he])]; rfl) (fun z he => by rw [di (by simp [ine, he])]; rfl) (fun _ _ _ => rfl)).trans ?_
 split
 ·rfl
 ·rename_i e
  have hr := (iU hI (by simpa using e)).1
  dsimp only
  generalize (dr b [n]).1 = B at hr ⊢
  have hci := WZ hr.good n upper
  have hpi : In (tJ B n upper) := abQ (hr.good.inn hr.num) _ (by simp)
  rw [vh, show ((((bp B).length : Int) + 1, bC B) : Sys) = JN B from rfl, UN hr.good hr.num, aZ, V8 hr.good hr.num (by omega) hci.1, aZ,
   cut_ok hr.good.size (by unfold Gq; rw [List.length_map]; omega) (by simp) (aae hr.good hci.1), aZ, show cutP B (Gq B (EU B n upper)) [n] = tJ B n upper from rfl, gQ hpi.size hpi.num, aZ]
  by_cases hc : bM (tJ B n upper) = 0
  ·have hg := (bH _).1 hc
   rw [bz (by simp [ine, hc]), if_neg (show ¬ (bM (tJ B n upper) ≠ 0) from fun h => h hc)]
   refine (X5 _).trans ?_
   rw [lT hpi, aZ, gF hg, bz (by rfl)]
   dsimp only
   rw [show ((((bp (tJ B n upper)).length : Int) + 1, bC (tJ B n upper)) : Sys) = JN (tJ B n upper) from rfl, B3 (tJ B n upper), BW hg.sys, aZ]
   cases ho : dw (bC (tJ B n upper)) ((bp (tJ B n upper)).length + 1) with
   | false => rw [if_neg (by simp)]; rfl
   | true =>
     rw [if_pos rfl, ← B3 (tJ B n upper), bz (by rfl), Me hr, aZ, UN hg hpi.num, aZ]
     cases upper with
     | true => rw [eu, Bu hr, aZ]; rfl
     | false => rfl
  ·rw [bN (by simp [ine, hc]), if_pos hc, bN (by simp [ine, hc])]
   rfl
theorem WW {L : List Lk} {N : Nat} (h : fB L N) (ho : dw L N = true) : vl ((N : Int), L) = some ([], 5) := by
 have hN := h.n60
 unfold vl HM
 rw [iK h, aZ, bz (by rfl), xK h.links h.n1 (by omega), aZ, if_pos ho]
 rfl
theorem Tc {b : bJ} (hg : cZ b) (hn : ∀ g ∈ b.2.1, I64 g.2.2.2.2.1.1) (ho : dw (bC b) ((bp b).length + 1) = true) : BD b = some (Zj, 5) := by
 unfold BD Hq
 rw [lT (hg.inn hn), aZ, gF hg, bz (by rfl), show ((((bp b).length : Int) + 1, bC b), eJ b, (0 : Int)).1 = JN b from rfl, B3, WW hg.sys ho, aZ]
 rfl
end Go.Proofs.ZzM
end
noncomputable section
namespace Go.Proofs.ZzM
open Go Go.Am
theorem gv_bd {x : List Int} {m : Int} (hm : 0 ≤ m) (h : ∀ a ∈ x, -m ≤ a ∧ a ≤ m) (v : Int) : -m ≤ gv x v ∧ gv x v ≤ m := by
 unfold gv
 cases hv : x[v.toNat]? with
 | none => simp only [Option.getD_none]; omega
 | some a => simp only [Option.getD_some]; exact h a (List.mem_of_getElem? hv)
end Go.Proofs.ZzM
end
noncomputable section
namespace Go.Proofs.ZzM
open Go Go.Am
section
variable {b : bJ} {c d : Cmp} {s : Int × Int}
theorem acf (h : Pred b c s) : -10000000000000000 ≤ s.1 ∧ s.1 ≤ s.2 ∧ s.2 ≤ 10000000000000000 := by
 have q := h.good2.cmp (vJ (c := bj c))
 obtain ⟨_, _, b1, b2, b3⟩ := DU (b := b) h.good.film (c := bj c) ⟨q.nums, q.r1, q.r2⟩
 have e1 : T6 b c = Jm (dN b (bj c)).1 + (jw b (bj c)).1 - (bj c).2.2.2.2.2.1 := rfl
 have e2 : yI b c = (dN b (bj c)).2.1 / (dN b (bj c)).2.2 + (jw b (bj c)).2 + (bj c).2.2.2.2.2.1 := rfl
 have o := h.order
 have n := h.ends
 have bd := h.bd
 omega
end
end Go.Proofs.ZzM
end
noncomputable section
namespace Go.Proofs.ZzM
open Go Go.Am
def fY (e : End) : List Int := [e.1 - e.2.1, e.2.2 - e.1, Int.tdiv (e.2.2 - e.2.1) 2, Int.tdiv (e.2.2 - e.2.1) 2 - 1, Int.tdiv (e.2.2 - e.2.1) 2 + 1]
def pM (e : End) (n : Int) : List Int := [n - e.2.1, e.2.2 - n]
def atE (e : End) (d : Int) : Int := min e.1 (min (e.2.1 + d) (e.2.2 - d))
def Gs (w : DL) (d : Int) : Int × Int := (-(atE w.2.2 d), atE w.2.1 d)
def WK (r : Int × Int) (n : Int) : List Int := [n - 2, n - 1, n, n + 1, n + 2].filter fun d => decide (r.1 < d) && decide (d < r.2)
def JV (r : Int × Int) (l : List Int) : List Int := [r.1, r.2] ++ l.flatMap (WK r)
def UM (w : DL) (l : List Int) : Int := l.foldl (fun m d => max m ((Gs w d).2 - (Gs w d).1)) (-1)
def Xr (w : DL) : Int := UM w (JV w.1 (fY w.2.1 ++ fY w.2.2))
def Sm (n : Int) : Prop := -100000000000000000 ≤ n ∧ n ≤ 100000000000000000
structure Pz (e : End) : Prop where
 s : Sm e.1
 u : Sm e.2.1
 d : Sm e.2.2
structure Pw (w : DL) : Prop where
 lo : Sm w.1.1
 hi : Sm w.1.2
 high : Pz w.2.1
 low : Pz w.2.2
theorem PO (n : Int) : -1 ≤ n - 2 * Int.tdiv n 2 ∧ n - 2 * Int.tdiv n 2 ≤ 1 := by
 have h1 := Int.tmod_add_mul_tdiv n 2
 have h2 := Int.tmod_two_eq n
 omega
theorem FR {e : End} (h : Pz e) : gN e = some (fY e) := by
 obtain ⟨⟨a1, a2⟩, ⟨b1, b2⟩, c1, c2⟩ := h
 have h2 := PO (e.2.2 - e.2.1)
 unfold gN rd
 rw [bE (by omega) (by omega), bE (by omega) (by omega), bE (by omega) (by omega), bE (by omega) (by omega), bE (by omega) (by omega), bE (by omega) (by omega)]
 rfl
theorem F1 {e : End} (h : Pz e) {n : Int} (hn : -1000000000000000000 ≤ n ∧ n ≤ 1000000000000000000) : gO e n = some (pM e n) := by
 obtain ⟨⟨a1, a2⟩, ⟨b1, b2⟩, c1, c2⟩ := h
 unfold gO re
 rw [bE (by omega) (by omega), bE (by omega) (by omega)]
 rfl
theorem abZ {e : End} (h : Pz e) {d : Int} (hd : Sm d) : qy e d = some (atE e d) := by
 obtain ⟨⟨a1, a2⟩, ⟨b1, b2⟩, c1, c2⟩ := h
 obtain ⟨d1, d2⟩ := hd
 unfold qy Cv
 rw [bE (by omega) (by omega), bE (by omega) (by omega), IM, IM]
 unfold atE
 congr 1
 omega
theorem ZH {e : End} (h : Pz e) {d : Int} (hd : Sm d) : -200000000000000000 ≤ atE e d ∧ atE e d ≤ 100000000000000000 := by
 obtain ⟨⟨a1, a2⟩, ⟨b1, b2⟩, c1, c2⟩ := h
 obtain ⟨d1, d2⟩ := hd
 unfold atE
 omega
theorem XG {w : DL} (h : Pw w) {d : Int} (hd : Sm d) : dV w d = some (Gs w d) := by
 unfold dV oW
 have b1 := ZH h.low hd
 rw [abZ h.low hd, aZ, bE (by omega) (by omega), abZ h.high hd, aZ]
 unfold Gs
 rw [Int.zero_sub]
theorem aaV (r : Int × Int) (n : Int) : (WK r n).length ≤ 5 := List.length_filter_le _ _
theorem IZ (r : Int × Int) : ∀ l : List Int, (l.flatMap (WK r)).length ≤ l.length * 5
 | [] => by simp
 | n :: l => by
   have h1 := aaV r n
   have h2 := IZ r l
   rw [List.flatMap_cons, List.length_append, List.length_cons]
   omega
theorem acs {ρ : Type} (r : Int × Int) {n : Int} (hn : -4000000000000000000 ≤ n ∧ n ≤ 4000000000000000000) {out : List Int} (ho : out.length ≤ 1000) (K : List Int → Option ρ) :
 bw (fun (v9 : (Val (.pair tI (.slice tI)))) kk12 => gq n r.1 r.2 v9.1 v9.2 (fun u10 u11 => kk12 (u10, u11)) K) (n - 2, out) = K (out ++ WK r n) := by
 let five : List Int := [n - 2, n - 1, n, n + 1, n + 2]
 have hg : ∀ (i : Nat), i < 5 → five[i]? = some (n - 2 + i) := by
  intro i hi
  have : i = 0 ∨ i = 1 ∨ i = 2 ∨ i = 3 ∨ i = 4 := by omega
  rcases this with rfl | rfl | rfl | rfl | rfl <;> simp only [five, List.getElem?_cons_zero, List.getElem?_cons_succ] <;> congr 1 <;> omega
 refine gh (fun v => ∃ i : Nat, i ≤ 5 ∧ v = (n - 2 + (i : Int), out ++ (five.take i).filter fun d => decide (r.1 < d) && decide (d < r.2))) (fun v => (n + 3 - v.1).toNat) ?_ ⟨0, by omega, by simp⟩
 rintro v ⟨i, hi, rfl⟩
 rcases Nat.lt_or_ge i 5 with h5 | h5
 ·refine .inr ⟨(n - 2 + ((i + 1 : Nat) : Int), out ++ (five.take (i + 1)).filter fun d => decide (r.1 < d) && decide (d < r.2)), ⟨i + 1, h5, rfl⟩, by dsimp only; omega, fun kn => ?_⟩
  have hl : ((five.take i).filter fun d => decide (r.1 < d) && decide (d < r.2)).length ≤ 5 := nx _ five i
  dsimp only
  unfold gq
  rw [bE (by omega) (by omega), bN (decide_eq_true (by omega)), take_succ (hg i h5), List.filter_append]
  have e0 : n - 2 + (i : Int) + 1 = n - 2 + ((i + 1 : Nat) : Int) := by push_cast; omega
  by_cases h1 : r.1 < n - 2 + (i : Int)
  ·rw [bN (show igt (n - 2 + (i : Int)) r.1 = true from decide_eq_true h1)]
   by_cases h2 : n - 2 + (i : Int) < r.2
   ·rw [bN (show ilt (n - 2 + (i : Int)) r.2 = true from decide_eq_true h2), di (bD (by rw [List.length_append]; simp only [List.length_singleton]; omega)), bE (by omega) (by omega), e0]
    simp [h1, h2]
   ·rw [bz (show ilt (n - 2 + (i : Int)) r.2 = false from decide_eq_false h2), bE (by omega) (by omega), e0]
    simp [h1, h2]
  ·rw [bz (show igt (n - 2 + (i : Int)) r.1 = false from decide_eq_false h1), bE (by omega) (by omega), e0]
   simp [h1]
 ·refine .inl fun kn => ?_
  obtain rfl : i = 5 := by omega
  dsimp only
  unfold gq
  rw [bE (by omega) (by omega), bz (decide_eq_false (by omega))]
  rfl
theorem Ye (w : DL) {l : List Int} (hl : l.length ≤ 100) (hn : ∀ n ∈ l, -2000000000000000000 ≤ n ∧ n ≤ 2000000000000000000) : iZ w l = some (JV w.1 l) := by
 unfold iZ oX
 refine cp l (fun i => [w.1.1, w.1.2] ++ (l.take i).flatMap (WK w.1)) _ rfl (fun i n hi ha kn => ?_) (fun kn => ?_)
 ·try dsimp only
  unfold iE
  have hb := hn n (List.mem_of_getElem? ha)
  have h5 := IZ w.1 (l.take i)
  have ht : (l.take i).length ≤ 100 := by rw [List.length_take]; omega
  rw [bB hi, bt ha, bE (by omega) (by omega)]
  refine (acs w.1 (by omega) (by rw [List.length_append]; simp only [List.length_cons, List.length_nil]; omega) _).trans ?_
  rw [bu hi (by omega), take_succ ha, List.flatMap_append, List.append_assoc]
  simp
 ·try dsimp only
  unfold iE
  rw [bV, List.take_length]
  rfl
theorem aaC {r : Int × Int} {l : List Int} {d : Int} : d ∈ JV r l ↔ d = r.1 ∨ d = r.2 ∨ (r.1 < d ∧ d < r.2 ∧ ∃ n ∈ l, n - 2 ≤ d ∧ d ≤ n + 2) := by
 unfold JV WK
 simp only [List.mem_append, List.mem_cons, List.not_mem_nil, or_false, List.mem_flatMap, List.mem_filter, Bool.and_eq_true, decide_eq_true_eq]
 constructor
 ·rintro ((h | h) | ⟨n, hn, h, h1, h2⟩)
  ·exact .inl h
  ·exact .inr (.inl h)
  ·exact .inr (.inr ⟨h1, h2, n, hn, by omega, by omega⟩)
 ·rintro (h | h | ⟨h1, h2, n, hn, h3, h4⟩)
  ·exact .inl (.inl h)
  ·exact .inl (.inr h)
  ·exact .inr ⟨n, hn, by omega, h1, h2⟩
theorem Vi (r : Int × Int) {l : List Int} (hl : l.length ≤ 100) : (JV r l).length ≤ 600 := by
 have := IZ r l
 unfold JV
 rw [List.length_append]
 simp only [List.length_cons, List.length_nil]
 omega
theorem Yd {w : DL} (h : Pw w) {l : List Int} : ∀ d ∈ JV w.1 l, Sm d := by
 intro d hd
 obtain ⟨a1, a2⟩ := h.lo
 obtain ⟨b1, b2⟩ := h.hi
 rcases aaC.1 hd with h | h | ⟨h1, h2, _⟩
 ·rw [h]; exact ⟨a1, a2⟩
 ·rw [h]; exact ⟨b1, b2⟩
 ·exact ⟨by omega, by omega⟩
theorem FS {e : End} (h : Pz e) : ∀ n ∈ fY e, -1000000000000000000 ≤ n ∧ n ≤ 1000000000000000000 := by
 obtain ⟨⟨a1, a2⟩, ⟨b1, b2⟩, c1, c2⟩ := h
 have h2 := PO (e.2.2 - e.2.1)
 intro n hn
 unfold fY at hn
 simp only [List.mem_cons, List.not_mem_nil, or_false] at hn
 omega
theorem Z4 {w : DL} (h : Pw w) : jY w = some (Xr w) := by
 unfold jY nc
 have hl : ([fY w.2.1, fY w.2.2] : List (List Int)).flatten = fY w.2.1 ++ fY w.2.2 := by simp
 have hll : (fY w.2.1 ++ fY w.2.2).length = 10 := rfl
 rw [FR h.high, aZ, FR h.low, aZ, mV (by simp) (by rw [hl, hll]; omega), aZ, hl, Ye w (by rw [hll]; omega) (fun n hn => by
  rcases List.mem_append.1 hn with hn | hn
  ·have := FS h.high n hn; omega
  ·have := FS h.low n hn; omega), aZ]
 have hnl := Vi w.1 (l := fY w.2.1 ++ fY w.2.2) (by rw [hll]; omega)
 have hsm := Yd h (l := fY w.2.1 ++ fY w.2.2)
 unfold Xr
 generalize JV w.1 (fY w.2.1 ++ fY w.2.2) = l at hnl hsm ⊢
 refine gh (fun v => ∃ i : Nat, i ≤ l.length ∧ v = (UM w (l.take i), (i : Int))) (fun v => l.length - v.2.toNat) ?_ ⟨0, by omega, rfl⟩
 rintro v ⟨i, hi, rfl⟩
 rcases Nat.lt_or_ge i l.length with h2 | h2
 ·have ha : l[i]? = some l[i] := List.getElem?_eq_getElem h2
  have hs := hsm l[i] (List.getElem_mem _)
  generalize l[i] = d at ha hs
  refine .inr ⟨(UM w (l.take (i + 1)), ((i + 1 : Nat) : Int)), ⟨i + 1, h2, rfl⟩, by dsimp only; omega, fun kn => ?_⟩
  dsimp only
  unfold ig
  have b1 := ZH h.low hs
  have b2 := ZH h.high hs
  rw [bB h2, bt ha, show dV ((w.1.1, w.1.2), (w.2.1.1, w.2.1.2.1, w.2.1.2.2), w.2.2.1, w.2.2.2.1, w.2.2.2.2) d = dV w d from rfl, XG h hs, aZ, bE (by unfold Gs; dsimp only; omega) (by unfold Gs; dsimp only; omega), bu h2 (by omega), IO, take_succ ha]
  unfold UM
  rw [List.foldl_append]
  rfl
 ·refine .inl fun kn => ?_
  obtain rfl : i = l.length := by omega
  dsimp only
  unfold ig
  rw [bV, List.take_length]
theorem UL {b : bJ} {n : Int × Int} {c : Cmp} (hp : (du b c).2 = 0) : Pw (PG b n c) := by
 obtain ⟨g1, g2⟩ := mG hp
 have ho := DX hp
 have hb := acf (Qb hp)
 have hx := xB g2
 have hy := xA g2
 have b6 := XL g1 g2 ho
 have key : ∀ {s t : Int}, 0 ≤ s ∧ s < ((bp (bR b (bj c))).length + 1 : Nat) → 0 ≤ t ∧ t < ((bp (bR b (bj c))).length + 1 : Nat) → Pz (endP b (bj c) s t) := by
  intro s t hs ht
  have b1 := pu g1 g2 ho hs ht
  have b2 := pu g1 g2 ho hs hy
  have b3 := pu g1 g2 ho hx ht
  have b4 := pu g1 g2 ho hs hx
  have b5 := pu g1 g2 ho hy ht
  unfold endP
  exact ⟨⟨by dsimp only; omega, by dsimp only; omega⟩, ⟨by dsimp only; omega, by dsimp only; omega⟩, by dsimp only; omega, by dsimp only; omega⟩
 exact ⟨⟨by show _ ≤ (du b c).1.1; omega, by show (du b c).1.1 ≤ _; omega⟩, ⟨by show _ ≤ (du b c).1.2; omega, by show (du b c).1.2 ≤ _; omega⟩, key (g9 _) (fg _ n), key (fg _ n) (g9 _)⟩
def VW (b : bJ) (n : Int × Int) (c : Cmp) : Int × Int :=
 if (dr b [n]).2 ≠ 0 then (0, (dr b [n]).2) else if (du (dr b [n]).1 c).2 ≠ 0 then (0, (du (dr b [n]).1 c).2) else (Xr (PG (dr b [n]).1 n c), 0)
theorem Z5 {ρ : Type} : @uj ρ = @cB ρ := rfl
theorem abx {b : bJ} (hI : In b) (n : Int × Int) {c : Cmp} (hA : c.2.2.1.length ≤ 1000) (hB : c.2.2.2.1.length ≤ 1000) : vj b n c = some (VW b n c) := by
 unfold vj Hk VW
 rw [Z5]
 refine (qO hI (ns := [n]) (by simp) (fun e => some ((0 : Int), e)) (fun e he => by rw [di (by simp [ine, he])]) (fun z he => by rw [di (by simp [ine, he])]) (fun _ _ _ => rfl)).trans ?_
 split
 ·rfl
 ·rename_i e
  have hr := (iU hI (by simpa using e)).1
  dsimp only
  rw [vh, show ((((bp (dr b [n]).1).length : Int) + 1, bC (dr b [n]).1) : Sys) = JN (dr b [n]).1 from rfl, RN hr n hA hB, aZ]
  unfold O1
  by_cases hp : (du (dr b [n]).1 c).2 = 0
  ·rw [if_neg (by simp [hp]), if_neg (by simp [hp]), bz (by rfl), Z4 (UL hp), aZ]
  ·rw [if_pos hp, if_pos hp, bN (bne_iff_ne.2 hp)]
def Xk (x : Int) : Int := max (-288230376151711744) (min x 288230376151711744)
def xL (w : DL) (l : Int × Int) : List Int := (fY w.2.1 ++ fY w.2.2) ++ (pM w.2.1 l.1 ++ pM w.2.2 (-l.1)) ++ (pM w.2.1 l.2 ++ pM w.2.2 (-l.2))
def UY (w : DL) (l : Int × Int) : Bool := (JV w.1 (xL w l)).all fun d => nT (Gs w d) l != 3
def Gg (b : bJ) (n l : Int × Int) (c : Cmp) : Bool × Int :=
 if (dr b [n]).2 ≠ 0 then (false, (dr b [n]).2) else if l.2 < l.1 then (false, 1) else if (du (dr b [n]).1 c).2 ≠ 0 then (false, (du (dr b [n]).1 c).2) else (UY (PG (dr b [n]).1 n c) (Xk l.1, Xk l.2), 0)
theorem V9 {ρ : Type} : @o9 ρ = @cB ρ := rfl
theorem abP (x : Int) : jZ x = some (Xk x) := by
 unfold jZ rh Xk
 rw [IM, IO]
theorem F2 {e : End} (h : Pz e) {n : Int} (hn : -300000000000000000 ≤ n ∧ n ≤ 300000000000000000) : ∀ m ∈ pM e n, -1000000000000000000 ≤ m ∧ m ≤ 1000000000000000000 := by
 obtain ⟨⟨a1, a2⟩, ⟨b1, b2⟩, c1, c2⟩ := h
 intro m hm
 unfold pM at hm
 simp only [List.mem_cons, List.not_mem_nil, or_false] at hm
 omega
theorem Xe {b : bJ} (hI : In b) (n l : Int × Int) {c : Cmp} (hA : c.2.2.1.length ≤ 1000) (hB : c.2.2.2.1.length ≤ 1000) : nB b n l c = some (Gg b n l c) := by
 unfold nB yk Gg
 rw [V9]
 refine (qO hI (ns := [n]) (by simp) (fun e => some (false, e)) (fun e he => by rw [bN (by simp [ine, he])]) (fun z he => by rw [bN (by simp [ine, he])]) (fun _ _ _ => rfl)).trans ?_
 split
 ·rfl
 ·rename_i e
  have hr := (iU hI (by simpa using e)).1
  dsimp only
  by_cases hl : l.2 < l.1
  ·rw [bN (by simp [igt, hl]), if_pos hl]
  ·rw [bz (by simp [igt]; omega), if_neg hl, vh, show ((((bp (dr b [n]).1).length : Int) + 1, bC (dr b [n]).1) : Sys) = JN (dr b [n]).1 from rfl, RN hr n hA hB, aZ]
   unfold O1
   by_cases hp : (du (dr b [n]).1 c).2 = 0
   ·rw [if_neg (by simp [hp]), if_neg (by simp [hp]), bz (by rfl)]
    have hw := UL (n := n) hp
    dsimp only
    generalize PG (dr b [n]).1 n c = w at hw ⊢
    have f1 : -300000000000000000 ≤ Xk l.1 ∧ Xk l.1 ≤ 300000000000000000 := by unfold Xk; omega
    have f2 : -300000000000000000 ≤ Xk l.2 ∧ Xk l.2 ≤ 300000000000000000 := by unfold Xk; omega
    have q1 : ([fY w.2.1, fY w.2.2] : List (List Int)).flatten = fY w.2.1 ++ fY w.2.2 := by simp
    have q2 : ∀ x y z : List Int, ([x, y, z] : List (List Int)).flatten = x ++ (y ++ z) := by intro x y z; simp
    rw [FR hw.high, aZ, FR hw.low, aZ, mV (by simp) (by rw [q1]; simp [fY]), aZ, q1, abP, aZ, abP, aZ]
    generalize Xk l.1 = l1 at f1 ⊢
    generalize Xk l.2 = l2 at f2 ⊢
    rw [F1 hw.high (by omega), aZ, bE (by omega) (by omega), Int.zero_sub, F1 hw.low (by omega), aZ, mV (by simp) (by rw [q2]; simp [fY, pM]), aZ, q2,
     F1 hw.high (by omega), aZ, bE (by omega) (by omega), Int.zero_sub, F1 hw.low (by omega), aZ, mV (by simp) (by rw [q2]; simp [fY, pM]), aZ, q2]
    have hll : (xL w (l1, l2)).length = 18 := rfl
    have qs : fY w.2.1 ++ fY w.2.2 ++ (pM w.2.1 l1 ++ pM w.2.2 (-l1)) ++ (pM w.2.1 l2 ++ pM w.2.2 (-l2)) = xL w (l1, l2) := rfl
    rw [qs, Ye w (by rw [hll]; omega) (fun m hm => by
     unfold xL at hm
     simp only [List.mem_append] at hm
     rcases hm with ((hm | hm) | (hm | hm)) | (hm | hm)
     ·have := FS hw.high m hm; omega
     ·have := FS hw.low m hm; omega
     ·have := F2 hw.high f1 m hm; omega
     ·have := F2 hw.low (n := -l1) (by omega) m hm; omega
     ·have := F2 hw.high f2 m hm; omega
     ·have := F2 hw.low (n := -l2) (by omega) m hm; omega), aZ]
    have hnl := Vi w.1 (l := xL w (l1, l2)) (by rw [hll]; omega)
    have hsm := Yd hw (l := xL w (l1, l2))
    unfold UY
    generalize JV w.1 (xL w (l1, l2)) = ds at hnl hsm ⊢
    refine (gM ds (fun d => nT (Gs w d) (l1, l2) == 3) (fun z30 => some ((!(ige z30 (0 : Int))), (0 : Int))) (some (false, 0)) (some (true, 0)) (fun j => by rw [show ige (j : Int) 0 = true from decide_eq_true (by omega)]; rfl) (fun i d hi hd kn => ?_) (fun kn => ?_)).trans ?_
    ·try dsimp only
     unfold kY
     rw [bB hi, bt hd, show dV ((w.1.1, w.1.2), (w.2.1.1, w.2.1.2.1, w.2.1.2.2), w.2.2.1, w.2.2.2.1, w.2.2.2.2) d = dV w d from rfl, XG hw (hsm d (List.mem_of_getElem? hd)), aZ, Lq, aZ, bu hi (by omega), dG]
    ·try dsimp only
     unfold kY
     rw [bV]
    ·rw [show (fun d => nT (Gs w d) (l1, l2) != 3) = (fun d => !(nT (Gs w d) (l1, l2) == 3)) from rfl, ← List.not_any_eq_all_not]
     cases ds.any fun d => nT (Gs w d) (l1, l2) == 3 <;> rfl
   ·rw [if_pos hp, if_pos hp, bN (bne_iff_ne.2 hp)]
end Go.Proofs.ZzM
end
noncomputable section
namespace Go.Proofs.ZzM
open Go Go.Am
theorem W0 {b : bJ} (h : In b) (n : Int × Int) (upper : Bool) : In (mH b n upper).1.1 := by
 have h0 : In mF := ⟨⟨by simp [mF], by simp [mF], by simp [mF], by simp [mF], by simp [mF], by simp [mF]⟩, by simp [mF]⟩
 unfold mH
 by_cases e : (dr b [n]).2 = 0
 ·rw [if_neg (by simp [e])]
  have hr := (iU h e).1
  split
  ·exact h0
  ·split
   ·exact abQ (hr.good.inn hr.num) _ (by simp)
   ·exact h0
 ·rw [if_pos e]; exact h0
theorem y1 : BV exB (2, 10) = ((984, 1011), 0) := by decide +kernel
theorem y2 : BV exB (1, 30) = ((964, 1005), 0) := by decide +kernel
theorem y3 : PC exB (1, 10) (2, 10) = ((-6, 11), 0) := by decide +kernel
theorem y4 : ZN exB 10 [1, 2] = ((1979, 2018), 0) := by decide +kernel
theorem y5 : ZT exB (2, 0) (990, 1010) = (3, 0) := by decide +kernel
theorem y6 : (mH exB (2, 10) true).2 = 0 ∧ (mH exB (2, 10) true).1.2.2.2.1 = 1011 := by decide +kernel
theorem y7 : VW exB (2, 10) exC = (10, 0) := by decide +kernel
theorem y8 : Gg exB (2, 10) (900, 1100) exC = (true, 0) := by decide +kernel
theorem y9 : UD exB (mH exB (2, 10) true).1 = (true, 0) := by decide +kernel
theorem y10 : bM exB = 0 ∧ dw (bC exB) ((bp exB).length + 1) = true := by decide +kernel
theorem y11 : mW (mH exB (2, 10) true).1 = 0 := by decide +kernel
theorem Wc : jn = some true := by
 unfold jn xZ vi tT
 have hc := W0 vp (2, 10) true
 have hv : I64 (mH exB (2, 10) true).1.2.2.2.1 := by rw [y6.2]; unfold I64; omega
 rw [aZ]
 rw [show ((((0 : Int), (2 : Int)), [((1 : Int), (0 : Int), (1000 : Int), ((-5 : Int), (5 : Int)), ((1 : Int), (10 : Int)), (1 : Int)), ((2 : Int), (0 : Int), (1000 : Int), ((-50 : Int), (50 : Int)), ((1 : Int), (4 : Int)), (0 : Int))], [((1 : Int), (10 : Int))], [((1 : Int), ((20 : Int), (29 : Int)), (3 : Int))], [((7 : Int), (10 : Int), [(1 : Int)], [(2 : Int)], (-20 : Int), (1 : Int), (100 : Int), (200 : Int))], ([] : List (Int × Int))) : bJ) = exB from rfl]
 rw [JI vp, aZ, JI vp, aZ, Xi vp, aZ, ZM vp _ (by decide), aZ, abB vp, aZ, Xh vp, aZ, y1, y2, y3, y4, y5, y6.1, y6.2]
 rw [show vj exB ((2 : Int), (10 : Int)) ((8 : Int), (10 : Int), [(1 : Int)], [(2 : Int)], (0 : Int), (0 : Int), (0 : Int), (0 : Int)) = some (VW exB (2, 10) exC) from abx vp _ (c := exC) (by decide) (by decide),
  show nB exB ((2 : Int), (10 : Int)) ((900 : Int), (1100 : Int)) ((8 : Int), (10 : Int), [(1 : Int)], [(2 : Int)], (0 : Int), (0 : Int), (0 : Int), (0 : Int)) = some (Gg exB (2, 10) (900, 1100) exC) from Xe vp _ _ (c := exC) (by decide) (by decide),
  ZL vp hc hv, Tc ((bH _).1 y10.1) vp.num y10.2, EX hc hv, y7, y8, y9, y11]
 rfl
end Go.Proofs.ZzM
end
noncomputable section
namespace Go.Proofs.ZzM
open Go Go.Am
def JH (b : bJ) (n : Int × Int) : Prop := ∃ g ∈ b.2.1, g.1 = n.1 ∧ n.2 ∈ bO b g
theorem Vr {b : bJ} (h : cZ b) {n : Int × Int} : nQ b n.1 n.2 ≠ 0 ↔ JH b n := by
 unfold nQ
 constructor
 ·intro hne
  cases hx : iO (bp b) n.1 n.2 with
  | none => rw [hx] at hne; simp at hne
  | some j =>
    have hm := List.mem_of_getElem? (jp hx).2
    unfold bp at hm
    obtain ⟨g, hg, hd⟩ := List.mem_flatMap.1 hm
    obtain ⟨d, hd, e⟩ := List.mem_map.1 hd
    simp only [Prod.mk.injEq] at e
    obtain ⟨e1, rfl⟩ := e
    exact ⟨g, hg, e1, hd⟩
 ·rintro ⟨g, hg, e, hd⟩
  obtain ⟨i, hi, rfl⟩ := List.mem_iff_getElem.1 hg
  obtain ⟨k, hk, e2⟩ := List.mem_iff_getElem.1 hd
  rw [← e, Nf h (List.getElem?_eq_getElem hi) (by rw [List.getElem?_eq_getElem hk, e2])]
  dsimp only
  omega
theorem Y8 (b : bJ) (n : Int × Int) (g : cf) {d : Int} (hd : d ∈ bO b g) : d ∈ bO (jE b n) g := by
 unfold bO at hd ⊢
 rw [vG] at hd ⊢
 unfold Pc jE at *
 simp only [List.mem_append, List.mem_map, List.mem_filter] at hd ⊢
 rcases hd with (h | h) | ⟨m, ⟨h1, h2⟩, h3⟩
 ·exact .inl (.inl h)
 ·exact .inl (.inr h)
 ·exact .inr ⟨m, ⟨.inl h1, h2⟩, h3⟩
theorem Yt {b : bJ} (n : Int × Int) (h' : cZ (jE b n)) : JH (jE b n) n := by
 have hu := h'.looks n (by simp [jE])
 unfold aaa at hu
 split at hu
 ·omega
 obtain ⟨g, hg, _⟩ := Ci h' hu
 obtain ⟨hm, e⟩ := oM hg
 refine ⟨g, hm, e, ?_⟩
 unfold bO
 rw [vG]
 unfold Pc jE
 simp only [List.mem_append, List.mem_map, List.mem_filter]
 exact .inr ⟨n, ⟨.inr (by simp), by simp [e]⟩, rfl⟩
theorem yZ {b : bJ} {n : Int × Int} (e : (iz b n).2 = 0) : (iz b n = (b, 0) ∧ nQ b n.1 n.2 ≠ 0) ∨ (iz b n = (jE b n, 0) ∧ cZ (jE b n) ∧ nQ b n.1 n.2 = 0) := by
 unfold iz at e ⊢
 split
 ·rename_i h; exact .inl ⟨rfl, h⟩
 ·rename_i h1
  rw [if_neg h1] at e
  split
  ·rename_i h2; rw [if_pos h2] at e; exact absurd e h2
  ·rename_i h2; exact .inr ⟨rfl, (bH _).1 (by simpa using h2), by simpa using h1⟩
theorem P2 : ∀ {ns : List (Int × Int)} {b : bJ}, (eM b ns).2 = 0 → ∀ n, JH b n → JH (eM b ns).1 n
 | [], b, _, n, hn => hn
 | m :: t, b, e, n, hn => by
   unfold eM at e ⊢
   split
   ·rename_i h1; rw [if_pos h1] at e; exact absurd e h1
   ·rename_i h1
    rw [if_neg h1] at e
    refine P2 e n ?_
    rcases yZ (by simpa using h1) with ⟨h, _⟩ | ⟨h, _, _⟩
    ·rw [h]; exact hn
    ·rw [h]
     obtain ⟨g, hg, e1, hd⟩ := hn
     exact ⟨g, hg, e1, Y8 b m g hd⟩
theorem P1 : ∀ {ns : List (Int × Int)} {b : bJ}, cZ b → (eM b ns).2 = 0 → ∀ n ∈ ns, JH (eM b ns).1 n
 | [], b, _, _, n, hn => by simp at hn
 | m :: t, b, hg, e, n, hn => by
   unfold eM at e ⊢
   split
   ·rename_i h1; rw [if_pos h1] at e; exact absurd e h1
   ·rename_i h1
    rw [if_neg h1] at e
    have h1' : (iz b m).2 = 0 := by simpa using h1
    rcases List.mem_cons.1 hn with rfl | hn
    ·refine P2 e n ?_
     rcases yZ h1' with ⟨h, h2⟩ | ⟨h, h2, _⟩
     ·rw [h]; exact (Vr hg).1 h2
     ·rw [h]; exact Yt n h2
    ·exact P1 (PQ hg h1') e n hn
theorem Yu {b : bJ} {n : Int × Int} {f : Int → Int → Int} {z : Int} : ST (jE b n) f z ↔ ST b f z :=
 ⟨fun h => ⟨fun g hg => by have := h.gauge g hg; exact ⟨this.hi, this.lo, this.down, this.loss⟩, h.cmp⟩, fun h => ⟨fun g hg => by have := h.gauge g hg; exact ⟨this.hi, this.lo, this.down, this.loss⟩, h.cmp⟩⟩
theorem P3 : ∀ {ns : List (Int × Int)} {b : bJ}, (eM b ns).2 = 0 → ∀ {f : Int → Int → Int} {z : Int}, ST (eM b ns).1 f z ↔ ST b f z
 | [], b, _, f, z => Iff.rfl
 | m :: t, b, e, f, z => by
   unfold eM at e ⊢
   split
   ·rename_i h1; rw [if_pos h1] at e; exact absurd e h1
   ·rename_i h1
    rw [if_neg h1] at e
    rw [P3 e]
    rcases yZ (by simpa using h1) with ⟨h, _⟩ | ⟨h, _, _⟩
    ·rw [h]
    ·rw [h]; exact Yu
section
variable {B : bJ} (h : acY B)
include h
end
structure Asked (b : bJ) (ns : List (Int × Int)) (B : bJ) : Prop where
 room : acY B
 nodes : ∀ n ∈ ns, JH B n
 hist : ∀ {f : Int → Int → Int} {z : Int}, ST B f z ↔ ST b f z
 good : cZ b
 gauges : B.2.1 = b.2.1
theorem Wj {b : bJ} (hI : In b) {ns : List (Int × Int)} (e : (dr b ns).2 = 0) : Asked b ns (dr b ns).1 := by
 obtain ⟨h1, h2, h3, h4⟩ := iU hI e
 exact ⟨h1, by rw [h2]; exact P1 h4 h3, by rw [h2]; exact P3 h3, h4, by rw [h2]; exact qL h3⟩
def MC (c : Cmp) : Bool := decide (c.2.2.1.length ≤ 10) && decide (c.2.2.2.1.length ≤ 10)
theorem Zz (c : Cmp) : wa c = some (MC c) := by
 unfold wa Cm MC
 rw [bP, bP, dG]
 by_cases h : c.2.2.1.length ≤ 10
 ·rw [if_pos (by simp [ile]; omega)]
  simp [ile, h]
  omega
 ·rw [if_neg (by simp [ile]; omega)]
  simp [h]
def fewP (b : bJ) : Bool :=
 !((b.2.2.2.2.1.take 50).any fun c => !MC c) && (decide (b.2.1.length ≤ 14) && (decide (b.2.2.1.length ≤ 45) && (decide (b.2.2.2.1.length ≤ 14) && (decide (b.2.2.2.2.1.length ≤ 42) && decide (b.2.2.2.2.2.length ≤ 12)))))
theorem few_ok (b : bJ) : Gb b = some (fewP b) := by
 unfold Gb Np
 have last : (ifb (ile (bG b.2.1) (14 : Int)) (ifb (ile (bG b.2.2.1) (45 : Int)) (ifb (ile (bG b.2.2.2.1) (14 : Int)) (ifb (ile (bG b.2.2.2.2.1) (42 : Int)) (some (ile (bG b.2.2.2.2.2) (12 : Int))) (some false)) (some false)) (some false)) (some false)) =
  some (decide (b.2.1.length ≤ 14) && (decide (b.2.2.1.length ≤ 45) && (decide (b.2.2.2.1.length ≤ 14) && (decide (b.2.2.2.2.1.length ≤ 42) && decide (b.2.2.2.2.2.length ≤ 12))))) := by
  have e : ∀ (n m : Nat), ile (n : Int) (m : Int) = decide (n ≤ m) := fun n m => by simp [ile]
  rw [bP, bP, bP, bP, bP, show (14 : Int) = ((14 : Nat) : Int) from rfl, show (45 : Int) = ((45 : Nat) : Int) from rfl, show (42 : Int) = ((42 : Nat) : Int) from rfl, show (12 : Int) = ((12 : Nat) : Int) from rfl, e, e, e, e, e]
  generalize decide (b.2.1.length ≤ 14) = x1
  generalize decide (b.2.2.1.length ≤ 45) = x2
  generalize decide (b.2.2.2.1.length ≤ 14) = x3
  generalize decide (b.2.2.2.2.1.length ≤ 42) = x4
  cases x1 <;> cases x2 <;> cases x3 <;> cases x4 <;> rfl
 rw [last]
 refine Eq.trans (gM (b.2.2.2.2.1.take 50) (fun c => !MC c) (fun _ => some false) (some false) (some (decide (b.2.1.length ≤ 14) && (decide (b.2.2.1.length ≤ 45) && (decide (b.2.2.2.1.length ≤ 14) && (decide (b.2.2.2.2.1.length ≤ 42) && decide (b.2.2.2.2.2.length ≤ 12)))))) (fun _ => rfl) (fun i c hi hc kn => ?_) (fun kn => ?_)) ?_
 ·try dsimp only
  unfold qS
  rw [List.length_take] at hi
  have hc' : b.2.2.2.2.1[i]? = some c := by rw [List.getElem?_take] at hc; split at hc <;> simp_all
  rw [bB (show i < b.2.2.2.2.1.length by omega), bN (decide_eq_true (by omega)), bt hc', Zz, aZ, bE (by omega) (by omega), dG]
 ·try dsimp only
  unfold qS
  rw [List.length_take, dG]
  split
  ·rename_i h
   have h' : 50 < b.2.2.2.2.1.length := by rw [bP] at h; simp [ilt] at h; omega
   rw [bz (decide_eq_false (by omega))]
  ·rfl
 ·unfold fewP
  cases List.any (List.take 50 b.2.2.2.2.1) (fun c => !MC c) <;> rfl
theorem aaZ {b : bJ} (h : fewP b = true) : jA b := by
 simp only [fewP, Bool.and_eq_true, Bool.not_eq_true', decide_eq_true_eq] at h
 obtain ⟨h0, h1, h2, h3, h4, h5⟩ := h
 refine ⟨by omega, by omega, by omega, by omega, by omega, fun c hc => ?_⟩
 rw [List.take_of_length_le (by omega)] at h0
 have := List.any_eq_false.1 h0 c hc
 simp [MC] at this
 omega
end Go.Proofs.ZzM
end
noncomputable section
namespace Go.Proofs.ZzM
open Go Go.Am
section
variable {L : List Lk} {N : Nat}
theorem UH (h : fB L N) (ht : vA L N) : oO ((N : Int), L) = some (if dw L N then (fj L N 0, 0) else ([], 9)) := by
 have h2 := h.n60
 have h3 := h.n1
 unfold oO uH
 rw [Pp h (by simp) (by simp), aZ]
 by_cases ho : dw L N = true
 ·rw [if_pos ho, bz (by rfl), BS h.links h.n1 (by omega) ho ⟨by omega, by omega⟩, aZ, iy (by rw [iw]; omega), aZ, if_pos ho]
  rw [bz]
  rw [Bool.eq_false_iff]
  intro hc
  have hm := List.contains_iff_mem.1 hc
  obtain ⟨i, hi, he⟩ := List.mem_iff_getElem.1 hm
  rw [iw] at hi
  have := MD h ht ho (v := i) (by omega) (by omega)
  unfold gv at this
  rw [Int.toNat_natCast, List.getElem?_eq_getElem (by rw [iw]; exact hi)] at this
  simp only [Option.getD_some] at this
  omega
 ·rw [if_neg ho, bN (by rfl), if_neg ho]
theorem abA (h : fB L N) (ht : vA L N) : BG ((N : Int), L) = some (if dw L N then (tc L N, 0) else ([], 9)) := by
 have h2 := h.n60
 have h3 := h.n1
 unfold BG HF
 rw [Pp h (by simp) (by simp), aZ]
 by_cases ho : dw L N = true
 ·rw [if_pos ho, bz (by rfl), BS h.links h.n1 (by omega) ho ⟨by omega, by omega⟩, aZ, if_pos ho]
  dsimp only
  rw [vX (by omega), Int.toNat_natCast]
  let B : List Int := (List.range N).map fun (n : Nat) => gv (fj L N n) 0
  have hB : B.length = N := by simp [B]
  have hBi : ∀ i, i < N → B[i]? = some (gv (fj L N i) 0) := fun i hi => by simp [B, hi]
  refine cp (List.replicate N (0 : Int)) (fun i => B.take i ++ List.replicate (N - i) 0) _ (by simp) (fun i a hi ha kn => ?_) (fun kn => ?_)
  ·dsimp only
   unfold ou
   have hiN : i < N := by simpa using hi
   have hl : i < (B.take i ++ List.replicate (N - i) (0 : Int)).length := by simp [hB]; omega
   rw [bB hi, BS h.links h.n1 (by omega) ho ⟨by omega, by omega⟩, aZ]
   rw [kO (by omega) (by rw [iw]; omega), show dj (B.take i ++ List.replicate (N - i) (0 : Int)) = ((N : Nat) : Int) by simp [dj, hB]; omega, fR hiN, dJ (List.getElem?_eq_getElem hl), bu hiN (by omega), Int.toNat_natCast]
   congr 2
   have ht : (B.take i).length = i := by rw [List.length_take, hB]; omega
   rw [List.set_append_right _ _ (by rw [ht]; omega), ht, Nat.sub_self, show N - i = (N - (i + 1)) + 1 by omega, List.replicate_succ, List.set_cons_zero, take_succ (hBi i hiN), List.append_assoc]
   rfl
  ·try dsimp only
   unfold ou
   rw [bV]
   dsimp only
   have e0 : B.take (List.replicate N (0 : Int)).length ++ List.replicate (N - (List.replicate N (0 : Int)).length) 0 = B := by simp [← hB]
   rw [e0, iy (by rw [hB]; omega), aZ]
   have hbd : ∀ x ∈ B, x ≤ 4503599627370496 := by
    intro x hx
    obtain ⟨n, hn, rfl⟩ := List.mem_map.1 hx
    exact DI h ht ho (by omega) (by have := List.mem_range.1 hn; omega)
   rw [bz (by
    rw [Bool.eq_false_iff]
    intro hc
    have := hbd _ (List.contains_iff_mem.1 hc)
    omega)]
   have hlo : ∀ x ∈ B, -9223372036854775807 ≤ x := by
    intro x hx
    obtain ⟨n, hn, rfl⟩ := List.mem_map.1 hx
    have hn' := List.mem_range.1 hn
    obtain ⟨p, hp⟩ := (dY h.links (by omega)).1 ho
    have hb := DI h ht ho (v := n) (by omega) (by omega)
    obtain ⟨vs, hw⟩ := (eG h.links (by omega) hp (s := n) ⟨by omega, by omega⟩).att 0 (by omega) (by omega) (by unfold fN; omega)
    have h6 := hw.low' hp
    have h7 := GT (L := L) (fun l hl => (h.links.most l hl).1) h.links.m0
    have h8 := h.len
    omega
   refine cp B (fun i => (B.take i).map (fun x => -x) ++ B.drop i) _ (by simp) (fun i a hi ha kn => ?_) (fun kn => ?_)
   ·dsimp only
    unfold ot
    have hl : i < ((B.take i).map (fun x => -x) ++ B.drop i).length := by simp; omega
    have hlen : ((B.take i).map (fun x => -x) ++ B.drop i).length = B.length := by simp; omega
    have hge : ((B.take i).map (fun x => -x) ++ B.drop i)[i]? = some a := by
     rw [List.getElem?_append_right (by simp; omega)]
     simp [Nat.min_eq_left (Nat.le_of_lt hi), ha]
    have ham := List.mem_of_getElem? ha
    have b1 := hbd a ham
    have b2 := hlo a ham
    rw [bB hi, show dj ((B.take i).map (fun x => -x) ++ B.drop i) = ((B.length : Nat) : Int) by unfold dj; rw [hlen], fR hi, dJ hge, bE (by omega) (by omega), fR hi, dJ hge, bu hi (by omega), Int.toNat_natCast]
    congr 2
    have ht : ((B.take i).map (fun x => -x)).length = i := by rw [List.length_map, List.length_take]; omega
    rw [List.set_append_right _ _ (by rw [ht]; omega), ht, Nat.sub_self, take_succ ha, List.map_append, List.append_assoc]
    obtain ⟨hi', rfl⟩ := List.getElem?_eq_some_iff.1 ha
    rw [List.drop_eq_getElem_cons hi', List.set_cons_zero, Int.zero_sub]
    rfl
   ·try dsimp only
    unfold ot
    rw [bV]
    dsimp only
    have e1 : (B.take B.length).map (fun x => -x) ++ B.drop B.length = tc L N := by rw [List.take_length, List.drop_length, List.append_nil]; simp [B, tc]
    rw [e1]
 ·rw [if_neg ho, bN (by rfl), if_neg ho]
end
end Go.Proofs.ZzM
end
noncomputable section
namespace Go.Proofs.ZzM
open Go Go.Am
theorem Sf {b : bJ} (h : cZ b) {y : List Int} (hy : y.length = (bp b).length + 1) (h0 : gv y 0 = 0) (hp : Pot (bC b) (gv y)) : ZW b (y.drop 1) = (true, 0) := by
 have e : 0 :: y.drop 1 = y := by
  cases y with
  | nil => simp at hy
  | cons a t =>
    have : a = 0 := h0
    rw [this]; rfl
 rw [JJ]
 refine ⟨h, vc.2 ⟨by simp; omega, fun n hn => ?_⟩, ?_⟩
 ·obtain ⟨i, hi, rfl⟩ := List.mem_iff_getElem.1 hn
  rw [List.length_drop] at hi
  have := aap h hp (v := ((1 + i : Nat) : Int)) (by omega) (by omega)
  rw [h0] at this
  unfold gv at this
  rw [Int.toNat_natCast, List.getElem?_eq_getElem (by omega)] at this
  rw [List.getElem_drop]
  simp only [Option.getD_some] at this
  omega
 ·unfold YV
  rw [e]
  exact YW.2 hp
end Go.Proofs.ZzM
end
noncomputable section
namespace Go.Proofs.ZzM
open Go Go.Am
section
variable {B : bJ} (h : acY B)
include h
end
def U5 (b : bJ) (n : Int × Int) : Int := if (tg b n).2 ≠ 0 then -1 else (tg b n).1 - 1
theorem aar {b : bJ} (hI : In b) (n : Int × Int) : mR b n = some (U5 b n) := by
 unfold mR Ck U5
 rw [qJ hI, aZ]
 by_cases h : (tg b n).2 = 0
 ·rw [bz (by rw [h]; rfl), if_neg (by simp [h])]
  have hl := Ch hI.size
  have hr := fg b n
  have hb : 0 ≤ (tg b n).1 ∧ (tg b n).1 ≤ 3000000 := by
   unfold tg
   split
   ·simp
   ·split
    ·simp
    ·dsimp only; omega
  rw [bE (by omega) (by omega)]
 ·rw [bN (bne_iff_ne.2 h), if_pos h]
theorem Tl {b : bJ} (h : cZ b) (n : Int × Int) : U5 b n = nQ b n.1 n.2 - 1 := by
 unfold U5
 rw [nN h]
 by_cases h0 : nQ b n.1 n.2 = 0
 ·rw [if_pos h0, h0]; rfl
 ·rw [if_neg h0]; rfl
def P5 : bJ → List (Int × Int) → bJ × Bool
 | b, [] => (b, true)
 | b, n :: t => if (iz b n).2 ≠ 0 then (b, false) else P5 (iz b n).1 t
theorem U2 : ∀ (ns : List (Int × Int)) (b : bJ), (P5 b ns).2 = decide ((eM b ns).2 = 0) ∧ ((eM b ns).2 = 0 → P5 b ns = ((eM b ns).1, true))
 | [], b => ⟨rfl, fun _ => rfl⟩
 | n :: t, b => by
   unfold P5 eM
   by_cases h : (iz b n).2 = 0
   ·rw [if_neg (by simp [h]), if_neg (by simp [h])]
    exact U2 t _
   ·rw [if_pos h, if_pos h]
    exact ⟨by simp [h], fun e => absurd e h⟩
abbrev ac3 : Type := Int × Int × List cf × List (Int × Int) × List Gh × List Cmp × List (Int × Int) × Flat
def bk2 (s : ac3) : bJ := ((s.1, s.2.1), s.2.2.1, s.2.2.2.1, s.2.2.2.2.1, s.2.2.2.2.2.1, s.2.2.2.2.2.2.1)
theorem Xs {b : bJ} (hg : cZ b) (hn : ∀ g ∈ b.2.1, I64 g.2.2.2.2.1.1) {ns : List (Int × Int)} (hl : ns.length ≤ 1000) : ny b ns = some (P5 b ns) := by
 unfold ny zF
 refine F6 ns (fun (i : Nat) (s : ac3) (t : List (Int × Int)) => some (P5 (bk2 s) t)) (fun i s => cZ (bk2 s) ∧ ∀ g ∈ (bk2 s).2.1, I64 g.2.2.2.2.1.1) (fun s hs kn => ?_) (fun i n t s hd hi ha hs kn hk => ?_) (s := (b.1.1, b.1.2, b.2.1, b.2.2.1, b.2.2.2.1, b.2.2.2.2.1, b.2.2.2.2.2, 0, 0, [], [], [], [], [])) ⟨hg, hn⟩
 ·dsimp only
  unfold ln
  rw [bV]
  rfl
 ·dsimp only
  unfold ln
  obtain ⟨hs1, hs2⟩ := hs
  have hin : In (bk2 s) := hs1.inn hs2
  rw [bB hi, bt ha, bt ha]
  rw [show dg ((s.1, s.2.1), s.2.2.1, s.2.2.2.1, s.2.2.2.2.1, s.2.2.2.2.2.1, s.2.2.2.2.2.2.1) n = dg (bk2 s) n from rfl, qJ hin, aZ]
  rw [show fL ((s.1, s.2.1), s.2.2.1, s.2.2.2.1, s.2.2.2.2.1, s.2.2.2.2.2.1, s.2.2.2.2.2.2.1) n = fL (bk2 s) n from rfl, UF hin, aZ, nN hs1]
  have hu : P5 (bk2 s) (n :: t) = if (iz (bk2 s) n).2 ≠ 0 then (bk2 s, false) else P5 (iz (bk2 s) n).1 t := rfl
  rw [hu]
  by_cases h0 : nQ (bk2 s) n.1 n.2 = 0
  ·rw [if_pos h0, bz (by rfl)]
   by_cases h2 : bM (jE (bk2 s) n) = 0
   ·have e : iz (bk2 s) n = (jE (bk2 s) n, 0) := by unfold iz; rw [if_neg (by simp [h0]), if_neg (by simp [h2])]
    have e2 : FN (bk2 s) n = (jE (bk2 s) n, 0) := by unfold FN; rw [if_neg (by simp [(bH (bk2 s)).2 hs1]), if_neg (by simp [h2])]
    rw [e2, e, bz (by rfl), bu hi (by omega), if_neg (show ¬ ((0 : Int) ≠ 0) by simp)]
    exact hk (s.1, s.2.1, s.2.2.1, s.2.2.2.1, s.2.2.2.2.1, s.2.2.2.2.2.1, s.2.2.2.2.2.2.1 ++ [n], s.2.2.2.2.2.2.2) ⟨(bH _).1 h2, hs2⟩
   ·have e : iz (bk2 s) n = (mF, bM (jE (bk2 s) n)) := by unfold iz; rw [if_neg (by simp [h0]), if_pos h2]
    have e2 : FN (bk2 s) n = (mF, bM (jE (bk2 s) n)) := by unfold FN; rw [if_neg (by simp [(bH (bk2 s)).2 hs1]), if_pos h2]
    rw [e2, e, bN (bne_iff_ne.2 h2), if_pos h2]
    rfl
  ·have e : iz (bk2 s) n = (bk2 s, 0) := by unfold iz; rw [if_pos h0]
   rw [if_neg h0, bN (by rfl), bu hi (by omega), e, if_neg (show ¬ ((0 : Int) ≠ 0) by simp)]
   exact hk s ⟨hs1, hs2⟩
theorem Z7 {b : bJ} (hI : In b) (hc : bM b ≠ 0) (n : Int × Int) (t : List (Int × Int)) (hl : (n :: t).length ≤ 1000) : ny b (n :: t) = some (b, false) := by
 unfold ny zF
 refine gh (fun (v : Int × ac3) => v = (0, b.1.1, b.1.2, b.2.1, b.2.2.1, b.2.2.2.1, b.2.2.2.2.1, b.2.2.2.2.2, 0, 0, [], [], [], [], [])) (fun _ => 0) (fun v hv => .inl fun kn => ?_) rfl
 subst hv
 dsimp only
 unfold ln
 have e1 : tg b n = (0, bM b) := by unfold tg; rw [if_pos hc]
 have e2 : FN b n = (mF, bM b) := by unfold FN; rw [if_pos hc]
 rw [bP, bN (decide_eq_true (by rw [List.length_cons]; omega)), IP, IP, show dg ((b.1.1, b.1.2), b.2.1, b.2.2.1, b.2.2.2.1, b.2.2.2.2.1, b.2.2.2.2.2) n = dg b n from rfl, qJ hI, aZ,
  show fL ((b.1.1, b.1.2), b.2.1, b.2.2.1, b.2.2.2.1, b.2.2.2.2.1, b.2.2.2.2.2) n = fL b n from rfl, UF hI, aZ, e1, e2, bz (beq_eq_false_iff_ne.2 hc), bN (bne_iff_ne.2 hc)]
theorem Z6 {b : bJ} (hI : In b) {ns : List (Int × Int)} (hl : ns.length ≤ 1000) (h0 : ns ≠ []) : ∃ y : bJ × Bool, ny b ns = some y ∧ (y.2 = true ↔ cZ b ∧ (eM b ns).2 = 0) ∧ (y.2 = true → y = ((eM b ns).1, true)) := by
 by_cases hc : bM b = 0
 ·have hg := (bH b).1 hc
  have hr := U2 ns b
  refine ⟨_, Xs hg hI.num hl, ⟨fun h => ⟨hg, by rw [hr.1] at h; exact of_decide_eq_true h⟩, fun h => by rw [hr.1]; exact decide_eq_true h.2⟩, fun h => hr.2 (by rw [hr.1] at h; exact of_decide_eq_true h)⟩
 ·cases ns with
  | nil => exact absurd rfl h0
  | cons n t => exact ⟨_, Z7 hI hc n t hl, ⟨fun h => (Bool.noConfusion h), fun h => absurd ((bH b).2 h.1) hc⟩, fun h => Bool.noConfusion h⟩
end Go.Proofs.ZzM
end
noncomputable section
namespace Go.Proofs.ZzM
open Go Go.Am
theorem aaS {x : List Int} {k : Int} (h1 : 1 ≤ k) : gv (0 :: x) k = gv x (k - 1) := by
 rw [acy _ _ (by omega), if_neg (by omega)]
theorem aaQ {ρ : Type} {x : List Int} {k : Int} (h1 : 1 ≤ k) (h2 : k ≤ x.length) (f : Int → Option ρ) : dm x (k - 1) f = f (gv (0 :: x) k) := by
 rw [kO (by omega) (by omega), aaS h1]
end Go.Proofs.ZzM
end
noncomputable section
namespace Go.Proofs.ZzM
open Go Go.Am
theorem P4 : ∀ {ns : List (Int × Int)} {b : bJ}, (eM b ns).2 = 0 → (eM b ns).1.1 = b.1
 | [], b, _ => rfl
 | n :: t, b, e => by
   unfold eM at e ⊢
   split
   ·rename_i h1; rw [if_pos h1] at e; exact absurd e h1
   ·rename_i h1
    rw [if_neg h1] at e
    rw [P4 e]
    rcases yZ (by simpa using h1) with ⟨h, _⟩ | ⟨h, _, _⟩ <;> rw [h] <;> rfl
def V4 (B : bJ) (x : List Int) (ns : List (Int × Int)) (s : Int) : Int := ns.foldl (fun s n => s + gv (0 :: x) (nQ B n.1 n.2)) s
theorem XB (B : bJ) {x : List Int} {m : Int} (hm : 0 ≤ m) (hx : ∀ a ∈ x, -m ≤ a ∧ a ≤ m) : ∀ (ns : List (Int × Int)) (s k : Int), -k ≤ s ∧ s ≤ k → -(k + ns.length * m) ≤ V4 B x ns s ∧ V4 B x ns s ≤ k + ns.length * m
 | [], s, k, h => by unfold V4; simp; omega
 | n :: t, s, k, h => by
   have g : -m ≤ gv (0 :: x) (nQ B n.1 n.2) ∧ gv (0 :: x) (nQ B n.1 n.2) ≤ m := gv_bd hm (fun a ha => by
    rcases List.mem_cons.1 ha with rfl | ha
    ·omega
    ·exact hx a ha) _
   have := XB B hm hx t (s + gv (0 :: x) (nQ B n.1 n.2)) (k + m) (by omega)
   unfold V4 at this ⊢
   simp only [List.foldl_cons, List.length_cons]
   have e : ((t.length + 1 : Nat) : Int) * m = t.length * m + m := by push_cast; rw [Int.add_mul, Int.one_mul]
   rw [e]
   omega
theorem UU {B : bJ} (hg : cZ B) (hN : ∀ g ∈ B.2.1, I64 g.2.2.2.2.1.1) {ns : List (Int × Int)} (hn : ∀ n ∈ ns, JH B n) (hl : ns.length ≤ 100) {x : List Int} (hx : x.length = (bp B).length) (hb : ∀ a ∈ x, -4503599627370496 ≤ a ∧ a ≤ 4503599627370496) (long : Bool) :
 qw B ns x long = some (V4 B x ns (max 0 ((ns.length : Int) - 1) * (if long then B.1.2 else B.1.1)), true) := by
 have hf := hg.film
 have key : ∀ (s0 : Int), 0 ≤ s0 ∧ s0 ≤ 1000000000 → ∀ K1 : Int × Bool → Option (Int × Bool), bw (fun (v10 : Val bc) kk13 => iD ns x B.1.1 B.1.2 B.2.1 B.2.2.1 B.2.2.2.1 B.2.2.2.2.1 B.2.2.2.2.2 v10.1 v10.2 (fun u11 u12 => kk13 (u11, u12)) K1 (fun z9 => some (z9, true))) (s0, (0 : Int)) = some (V4 B x ns s0, true) := by
  intro s0 h0 K1
  refine gh (fun v => ∃ i : Nat, i ≤ ns.length ∧ v = (V4 B x (ns.take i) s0, (i : Int))) (fun v => ns.length - v.2.toNat) ?_ ⟨0, by omega, rfl⟩
  rintro v ⟨i, hi, rfl⟩
  rcases Nat.lt_or_ge i ns.length with h2 | h2
  ·have ha : ns[i]? = some ns[i] := List.getElem?_eq_getElem h2
   have hd := hn ns[i] (List.getElem_mem _)
   generalize ns[i] = n at ha hd
   have hi0 := (Vr hg).2 hd
   have hir := fg B n
   have g : -4503599627370496 ≤ gv (0 :: x) (nQ B n.1 n.2) ∧ gv (0 :: x) (nQ B n.1 n.2) ≤ 4503599627370496 := gv_bd (by omega) (fun a ha => by
    rcases List.mem_cons.1 ha with rfl | ha
    ·omega
    ·exact hb a ha) _
   have hs := XB B (m := 4503599627370496) (by omega) hb (ns.take i) s0 1000000000 (by omega)
   have htl : ((ns.take i).length : Int) ≤ 100 := by rw [List.length_take]; omega
   refine .inr ⟨(V4 B x (ns.take (i + 1)) s0, ((i + 1 : Nat) : Int)), ⟨i + 1, h2, rfl⟩, by dsimp only; omega, fun kn => ?_⟩
   dsimp only
   unfold iD
   rw [bB h2, bt ha, show mR ((B.1.1, B.1.2), B.2.1, B.2.2.1, B.2.2.2.1, B.2.2.2.2.1, B.2.2.2.2.2) n = mR B n from rfl, aar (hg.inn hN), aZ, Tl hg, bz (decide_eq_false (by omega)), bP, bz (decide_eq_false (by omega)),
    aaQ (by omega) (by omega), bE (by omega) (by omega), bu h2 (by omega), take_succ ha]
   unfold V4
   rw [List.foldl_append]
   rfl
  ·refine .inl fun kn => ?_
   obtain rfl : i = ns.length := by omega
   dsimp only
   unfold iD
   rw [bV, List.take_length]
 have hm : ∀ y : Int, 0 ≤ y → y ≤ 1000000 → 0 ≤ max 0 ((ns.length : Int) - 1) * y ∧ max 0 ((ns.length : Int) - 1) * y ≤ 1000000000 := by
  intro y h0 h1
  have : max 0 ((ns.length : Int) - 1) * y ≤ 1000 * 1000000 := Int.mul_le_mul (by omega) h1 h0 (by omega)
  exact ⟨Int.mul_nonneg (by omega) h0, by omega⟩
 have m1 := hm B.1.1 (by omega) (by omega)
 have m2 := hm B.1.2 (by omega) (by omega)
 unfold qw Cj
 rw [bP]
 cases long with
 | true => rw [eu, bE (by omega) (by omega), IO, bE (by omega) (by omega), if_pos rfl]; exact key _ m2 _
 | false => rw [b7, bE (by omega) (by omega), IO, bE (by omega) (by omega), if_neg (by simp)]; exact key _ m1 _
theorem aad (B : bJ) {x : List Int} {ns : List (Int × Int)} (hi : ∀ n ∈ ns, gv (0 :: x) (nQ B n.1 n.2) = (ivR B n).2) : ∀ s : Int × Int, (PD B ns s).2 = V4 B x ns s.2 := by
 induction ns with
 | nil => intro s; rfl
 | cons n t ih =>
   intro s
   have := ih (fun m hm => hi m (by simp [hm])) (s.1 + (ivR B n).1, s.2 + (ivR B n).2)
   unfold PD V4 at this ⊢
   rw [List.foldl_cons, List.foldl_cons, this, hi n (by simp)]
theorem XC (B : bJ) {x : List Int} {ns : List (Int × Int)} (hi : ∀ n ∈ ns, gv (0 :: x) (nQ B n.1 n.2) = (ivR B n).1) : ∀ s : Int × Int, (PD B ns s).1 = V4 B x ns s.1 := by
 induction ns with
 | nil => intro s; rfl
 | cons n t ih =>
   intro s
   have := ih (fun m hm => hi m (by simp [hm])) (s.1 + (ivR B n).1, s.2 + (ivR B n).2)
   unfold PD V4 at this ⊢
   rw [List.foldl_cons, List.foldl_cons, this, hi n (by simp)]
theorem Wp {ρ : Type} (day : Int) {ids : List Int} (hl : ids.length ≤ 1000) (K : List (Int × Int) → Option ρ) : bw (fun (v18 : (Val (.pair tI (.slice bc)))) kk21 => dE day ids v18.1 v18.2 (fun u19 u20 => kk21 (u19, u20)) K) ((0 : Int), []) = K (onP day ids) := by
 refine cp ids (fun i => onP day (ids.take i)) _ rfl (fun i x hi hx kn => ?_) (fun kn => ?_)
 ·try dsimp only
  unfold dE
  rw [bB hi, bt hx, bu hi (by omega), take_succ hx]
  have : bZ (List.length (onP day (ids.take i)) + List.length ([(x, day)])) = true := bD (by simp [onP]; omega)
  rw [di this]
  simp [onP]
 ·try dsimp only
  unfold dE
  rw [bV, List.take_length]
theorem JT {b : bJ} (hn : ∀ g ∈ b.2.1, I64 g.2.2.2.2.1.1) (day : Int) (ids : List Int) : iR b day ids = some true := by
 unfold iR iP
 rw [few_ok, aZ, Wc]
 by_cases hf : fewP b = true
 case neg => rw [Bool.eq_false_iff.2 hf]; rfl
 have hI : In b := ⟨aaZ hf, hn⟩
 rw [hf, bz (by rfl), bP]
 by_cases h6 : 6 < ids.length
 ·rw [bN (decide_eq_true (by omega)), aZ]
 rw [bz (decide_eq_false (by omega)), ZM hI day (by omega), aZ]
 by_cases e : (ZN b day ids).2 = 0
 case neg => rw [bN (bne_iff_ne.2 e), aZ]
 rw [bz (by rw [e]; rfl)]
 -- what is known if Pile answers
 unfold ZN at e ⊢
 by_cases hc : bM b = 0
 case neg => rw [if_pos hc] at e; exact absurd e hc
 rw [if_neg (by simp [hc])] at e ⊢
 by_cases h1 : ids.length = 0 ∨ lW ids = false ∨ SS day = false
 ·rw [if_pos h1] at e; cases e
 rw [if_neg h1] at e ⊢
 by_cases ho : (dr b (onP day ids)).2 = 0
 case neg => rw [if_pos ho] at e; exact absurd e ho
 rw [if_neg (by simp [ho])]
 have hlen : (onP day ids).length = ids.length := by simp [onP]
 obtain ⟨hr, hB, hr0, hg0⟩ := iU hI ho
 have hA := Wj hI ho
 have hfilm := P4 hr0
 obtain ⟨y, hy, hy1, hy2⟩ := Z6 hI (ns := onP day ids) (by omega) (fun h => h1 (.inl (by rw [← hlen, h]; rfl)))
 have hw := hy2 (hy1.2 ⟨hg0, hr0⟩)
 refine (Wp day (by omega) _).trans ?_
 rw [hy, hw, aZ]
 rw [hB] at hr hA ⊢
 have hnd := hA.nodes
 generalize (eM b (onP day ids)).1 = B at hr hA hfilm hnd ⊢
 have hIB := hr.good.inn hr.num
 have hs := hr.good.sys
 have hN := hs.n60
 dsimp only
 rw [lT hIB, aZ, gF hr.good, show ((((bp B).length : Int) + 1, bC B) : Sys) = JN B from rfl, B3]
 dsimp only
 rw [UH hs hr.good.tied, aZ, abA hs hr.good.tied, aZ, if_pos hr.op, if_pos hr.op]
 dsimp only
 rw [bz (by rfl), bz (by rfl), bz (by rfl), bz (by rfl), bP, bP, iw, vV, bz (decide_eq_false (by omega)), bz (decide_eq_false (by omega))]
 have u1 : ile 1 (dj (fj (bC B) ((bp B).length + 1) 0)) = true := decide_eq_true (by show (1 : Int) ≤ ((fj (bC B) ((bp B).length + 1) 0).length : Int); rw [iw]; omega)
 have u2 : ile 1 (dj (tc (bC B) ((bp B).length + 1))) = true := decide_eq_true (by show (1 : Int) ≤ ((tc (bC B) ((bp B).length + 1)).length : Int); rw [vV]; omega)
 have p1 := UA hs hr.good.tied hr.op
 have p2 := YF hs hr.good.tied hr.op
 have z1 := yT hs hr.op (v := 0) (by omega) (by omega)
 have z2 := WH hs hr.op
 have f1 := Sf hr.good (iw (N := (bp B).length + 1) 0) z1 p1
 have f2 := Sf hr.good (vV (N := (bp B).length + 1)) z2 p2
 have key : ∀ y : List Int, y.length = (bp B).length + 1 → gv y 0 = 0 → 0 :: y.drop 1 = y := by
  intro y hy h0
  cases y with
  | nil => simp at hy
  | cons a t =>
    have : a = 0 := h0
    rw [this]; rfl
 have k1 := key _ (iw (N := (bp B).length + 1) 0) z1
 have k2 := key _ (vV (N := (bp B).length + 1)) z2
 have l1 := vc.1 (JJ.1 f1).2.1
 have l2 := vc.1 (JJ.1 f2).2.1
 rw [di u1, ZV hIB.size hIB.num, aZ, di u2, ZV hIB.size hIB.num, aZ, di u1, UU hr.good hr.num hnd (by omega) l1.1 l1.2, aZ, di u2, UU hr.good hr.num hnd (by omega) l2.1 l2.2, aZ, f1, f2, aZ]
 have i1 : ∀ n ∈ onP day ids, gv (0 :: (fj (bC B) ((bp B).length + 1) 0).drop 1) (nQ B n.1 n.2) = (ivR B n).2 := fun n _ => by rw [k1]; rfl
 have i2 : ∀ n ∈ onP day ids, gv (0 :: (tc (bC B) ((bp B).length + 1)).drop 1) (nQ B n.1 n.2) = (ivR B n).1 := fun n _ => by
  have hr' := fg B n
  rw [k2, Bn hr'.1 hr'.2]
  rfl
 have t1 := aad B i1 (((onP day ids).length - 1 : Int) * b.1.1, ((onP day ids).length - 1 : Int) * b.1.2)
 have t2 := XC B i2 (((onP day ids).length - 1 : Int) * b.1.1, ((onP day ids).length - 1 : Int) * b.1.2)
 have em : max 0 (((onP day ids).length : Int) - 1) = ((onP day ids).length : Int) - 1 := by
  have : ¬ ids.length = 0 := fun h => h1 (.inl h)
  omega
 unfold aci
 rw [hfilm, em, t1, t2]
 simp only [eu, ieq, beq_self_eq_true, if_true, Bool.false_eq_true, if_false]
end Go.Proofs.ZzM
end