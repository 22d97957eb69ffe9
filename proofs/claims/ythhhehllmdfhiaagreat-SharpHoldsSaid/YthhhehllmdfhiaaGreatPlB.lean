/- lemmas -/
import Derived.Test.YthhhehllmdfhiaaGreatPlA
import Derived.Test.YthhhehllmdfhiaaGreatMdTA
set_option linter.all false
set_option linter.unusedSectionVars false
set_option linter.unusedVariables false
set_option linter.unusedSimpArgs false
noncomputable section
namespace Go.Proofs.ZzM
open Go Go.Am
section
variable {b : bH} {c : Cmp}
theorem Ub : b8 (bQ b c) = (bQ b c).2.1.flatMap (de (bQ b c)) ++ b.2.2.2.2.1.flatMap (cu (bQ b c)) := by
 unfold b8
 have e : bB (bQ b c) = ((bQ b c).2.1.flatMap (de (bQ b c)) ++ b.2.2.2.2.1.flatMap (cu (bQ b c))) ++ cu (bQ b c) c := by
  unfold bB
  rw [show (bQ b c).2.2.2.2.1 = b.2.2.2.2.1 ++ [c] from rfl, List.flatMap_append, List.append_assoc]
  simp
 rw [e, List.length_append, show (cu (bQ b c) c).length = 2 from rfl, Nat.add_sub_cancel, List.take_left]
theorem Ga (h' : cW (bQ b c)) {p : Int → Int} : Pot (b8 (bQ b c)) p ↔ (∀ g ∈ b.2.1, nV (bQ b c) p g) ∧ ∀ d ∈ b.2.2.2.2.1, p (cx (bQ b c) d) ≤ p (cy (bQ b c) d) + (f8 b d).2 ∧ p (cy (bQ b c) d) + (f8 b d).1 ≤ p (cx (bQ b c) d) := by
 rw [Ub]
 constructor
 ·intro hp
  refine ⟨fun g hg => ?_, fun d hd => ?_⟩
  ·obtain ⟨i, hi, rfl⟩ := List.mem_iff_getElem.1 hg
   exact (mz h' (i := i) (List.getElem?_eq_getElem hi)).1 fun l hl => hp l.1 l.2.1 l.2.2 (List.mem_append.2 (.inl (List.mem_flatMap.2 ⟨_, List.getElem_mem hi, hl⟩)))
  ·have a1 := hp (cy (bQ b c) d) (cx (bQ b c) d) (f8 (bQ b c) d).2 (List.mem_append.2 (.inr (List.mem_flatMap.2 ⟨d, hd, by simp [cu]⟩)))
   have a2 := hp (cx (bQ b c) d) (cy (bQ b c) d) (-(f8 (bQ b c) d).1) (List.mem_append.2 (.inr (List.mem_flatMap.2 ⟨d, hd, by simp [cu]⟩)))
   have e : f8 (bQ b c) d = f8 b d := rfl
   rw [e] at a1 a2
   omega
 ·rintro ⟨hg, hc⟩ u v m hl
  rcases List.mem_append.1 hl with hl | hl
  ·obtain ⟨g, hgm, hl⟩ := List.mem_flatMap.1 hl
   obtain ⟨i, hi, rfl⟩ := List.mem_iff_getElem.1 hgm
   exact (mz h' (i := i) (List.getElem?_eq_getElem hi)).2 (hg _ hgm) (u, v, m) hl
  ·obtain ⟨d, hd, hl⟩ := List.mem_flatMap.1 hl
   obtain ⟨a1, a2⟩ := hc d hd
   have e : f8 (bQ b c) d = f8 b d := rfl
   simp only [cu, List.mem_cons, List.not_mem_nil, or_false, e] at hl
   rcases hl with hl | hl
   ·obtain ⟨rfl, rfl, rfl⟩ : u = cy (bQ b c) d ∧ v = cx (bQ b c) d ∧ m = (f8 b d).2 := by simpa using hl
    exact a1
   ·obtain ⟨rfl, rfl, rfl⟩ : u = cx (bQ b c) d ∧ v = cy (bQ b c) d ∧ m = -(f8 b d).1 := by simpa using hl
    omega
theorem qF {g : cg} {d : Int} (hd : d ∈ bO b g) : d ∈ bO (bQ b c) g := by
 rcases lP.1 hd with e | ⟨x, hx, h1, h2⟩ | hn
 ·exact lP.2 (.inl e)
 ·exact lP.2 (.inr (.inl ⟨x, List.mem_append.2 (.inl hx), h1, h2⟩))
 ·exact lP.2 (.inr (.inr hn))
theorem Yo (g : cg) (f t : Int) : jf (bQ b c) g f t = jf b g f t := rfl
theorem DI {b' : bH} (h' : cW b') {l : List Int} {day : Int} (f : Int → Int → Int) (z : Int) (hl : ∀ x ∈ l, ∃ g ∈ b'.2.1, g.1 = x ∧ day ∈ bO b' g) : LC b' f z (FM b' l day) = match l with | [] => z | x :: _ => f x day := by
 unfold FM
 cases l with
 | nil => exact m6 f z
 | cons x t =>
   obtain ⟨g, hg, rfl, hd⟩ := hl x (by simp)
   exact zf h' f z hg hd
theorem X2 (h : cW b) (h' : cW (bQ b c)) : (∃ p, Pot (bB b) p) ↔ ∃ p, Pot (b8 (bQ b c)) p := by
 constructor
 ·rintro ⟨p, hp⟩
  obtain ⟨hg, hc⟩ := (M3 h).1 hp
  let f : Int → Int → Int := fun id d => match jT b id with | some g => fill b p g d | none => 0
  have hfv : ∀ g ∈ b.2.1, ∀ d, f g.1 d = fill b p g d := fun g hgm d => by
   show (match jT b g.1 with | some g => fill b p g d | none => 0) = _
   rw [yJ h.ids hgm]
  have hq : ∀ g ∈ b.2.1, ∀ d ∈ bO (bQ b c) g, LC (bQ b c) f (p 0) (fA (bQ b c) g.1 d) = fill b p g d := fun g hgm d hd => by
   rw [zf h' f (p 0) hgm hd, hfv g hgm d]
  refine ⟨LC (bQ b c) f (p 0), (Ga h').2 ⟨fun g hgm => ?_, fun d hd => ?_⟩⟩
  ·have gf := hg g hgm
   have hmade : g.2.1 ∈ bO b g := la g
   have e0 := hq g hgm g.2.1 (la g)
   rw [Gc h hgm gf hmade] at e0
   refine ⟨?_, ?_, fun x y hx hy hxy => ?_, fun x y hx hy hxy => ?_⟩
   ·rw [e0, m6]; exact gf.hi
   ·rw [e0, m6]; exact gf.lo
   ·rw [hq g hgm x hx, hq g hgm y hy]
    exact (Bz h hgm gf (h'.day hgm hx).1 hxy).1
   ·rw [hq g hgm x hx, hq g hgm y hy, Yo]
    exact (Bz h hgm gf (h'.day hgm hx).1 hxy).2
  ·have key : ∀ l : List Int, (∀ x ∈ l, ∃ g ∈ b.2.1, g.1 = x ∧ d.2.1 ∈ bO b g) → LC (bQ b c) f (p 0) (FM (bQ b c) l d.2.1) = p (FM b l d.2.1) := by
    intro l hl
    rw [DI h' f (p 0) (fun x hx => by obtain ⟨g, q1, q2, q3⟩ := hl x hx; exact ⟨g, q1, q2, qF q3⟩)]
    cases l with
    | nil => rfl
    | cons x t =>
      obtain ⟨g, q1, rfl, q3⟩ := hl x (by simp)
      show f g.1 d.2.1 = p (fA b g.1 d.2.1)
      rw [hfv g q1, Gc h q1 (hg g q1) q3]
   rw [DA, Dz, key _ (fun x hx => my h hd (.inl hx)), key _ (fun x hx => my h hd (.inr hx)), ← DA, ← Dz]
   exact hc d hd
 ·rintro ⟨p, hp⟩
  obtain ⟨hg, hc⟩ := (Ga h').1 hp
  let f : Int → Int → Int := fun id d => p (fA (bQ b c) id d)
  have hq : ∀ g ∈ b.2.1, ∀ d ∈ bO b g, LC b f (p 0) (fA b g.1 d) = p (fA (bQ b c) g.1 d) := fun g hgm d hd => zf h f (p 0) hgm hd
  refine ⟨LC b f (p 0), (M3 h).2 ⟨fun g hgm => ?_, fun d hd => ?_⟩⟩
  ·have gf := hg g hgm
   have e0 := hq g hgm g.2.1 (la g)
   refine ⟨?_, ?_, fun x y hx hy hxy => ?_, fun x y hx hy hxy => ?_⟩
   ·rw [e0, m6]; exact gf.hi
   ·rw [e0, m6]; exact gf.lo
   ·rw [hq g hgm x hx, hq g hgm y hy]
    exact gf.down x y (qF hx) (qF hy) hxy
   ·rw [hq g hgm x hx, hq g hgm y hy]
    exact gf.loss x y (qF hx) (qF hy) hxy
  ·have key : ∀ l : List Int, (∀ x ∈ l, ∃ g ∈ b.2.1, g.1 = x ∧ d.2.1 ∈ bO b g) → LC b f (p 0) (FM b l d.2.1) = p (FM (bQ b c) l d.2.1) := by
    intro l hl
    rw [DI h f (p 0) hl]
    cases l <;> rfl
   rw [DA, Dz, key _ (fun x hx => my h hd (.inl hx)), key _ (fun x hx => my h hd (.inr hx)), ← DA, ← Dz]
   exact hc d hd
end
end Go.Proofs.ZzM
end
noncomputable section
namespace Go.Proofs.ZzM
open Go Go.Am
section
variable {L : List Lk} {N : Nat}
theorem Wl.app {u v : Int} {vs : List Int} {d : Int} (h1 : Wl L (fun x => x = u) vs v d) {ws : List Int} {w e : Int} (h2 : Wl L (fun x => x = v) ws w e) : ∃ xs, Wl L (fun x => x = u) xs w (d + e) := by
 induction h2 with
 | nil h => subst h; exact ⟨vs, by rw [Int.add_zero]; exact h1⟩
 | step hw hx ih =>
   obtain ⟨xs, hi⟩ := ih
   have := Wl.step hi hx
   rw [Int.add_assoc] at this
   exact ⟨_, this⟩
def dst (L : List Lk) (N : Nat) (s t : Int) : Int := gv (mc L N s) t
theorem Y5 (h : fN L N) (ht : DN L N) (ho : dC L N = true) {s t : Int} (hs : 0 ≤ s ∧ s < N) (hv : 0 ≤ t ∧ t < N) : dst L N s t ≤ 9007199254740992 := by
 have h2 := h.n60
 obtain ⟨p, hp⟩ := (d9 h.links (by omega)).1 ho
 obtain ⟨vs, d, hw, hd⟩ := ht.from' s hs.1 hs.2
 obtain ⟨ws, e, hx, he⟩ := ht.to t hv.1 hv.2
 obtain ⟨xs, hy⟩ := Wl.app hw hx
 have := (iw h.links (by omega) hp hs).low t xs _ (QA.2 hy)
 unfold dst
 omega
theorem Y4 (h : fN L N) (ht : DN L N) (ho : dC L N = true) {s t : Int} (hs : 0 ≤ s ∧ s < N) (hv : 0 ≤ t ∧ t < N) : dst L N s t ≠ fP := by
 have := Y5 h ht ho hs hv
 unfold fP
 omega
theorem Y3 (h : fN L N) (ht : DN L N) (ho : dC L N = true) {s : Int} (hs : 0 ≤ s ∧ s < N) : Pot L (dst L N s) := by
 have h2 := h.n60
 obtain ⟨p, hp⟩ := (d9 h.links (by omega)).1 ho
 intro u v m hl
 have hr := h.inr _ hl
 exact (iw h.links (by omega) hp hs).pot h.inr hl (Y4 h ht ho hs hr.1)
theorem VF (h : fN L N) (ho : dC L N = true) {s : Int} (hs : 0 ≤ s ∧ s < N) : dst L N s s = 0 := UA h ho hs.1 hs.2
theorem sj (h : fN L N) (ht : DN L N) (ho : dC L N = true) {s t : Int} (hs : 0 ≤ s ∧ s < N) (hv : 0 ≤ t ∧ t < N) {p : Int → Int} (hp : Pot L p) : p t - p s ≤ dst L N s t := by
 have h2 := h.n60
 obtain ⟨vs, hw⟩ := (iw h.links (by omega) hp hs).att t hv.1 hv.2 (Y4 h ht ho hs hv)
 obtain ⟨u, hu, hx⟩ := (QA.1 hw).pot hp
 subst hu
 exact hx
theorem Y6 (h : fN L N) (ht : DN L N) (ho : dC L N = true) {x y : Int} (hx : 0 ≤ x ∧ x < N) (hy : 0 ≤ y ∧ y < N) {t : Int} (h1 : -(dst L N x y) ≤ t) (h2 : t ≤ dst L N y x) : ∃ p, Pot L p ∧ p x - p y = t := by
 refine ⟨fun v => min (dst L N y v) (dst L N x v + t), fun u v m hl => ?_, ?_⟩
 ·have a1 := Y3 h ht ho hy u v m hl
  have a2 := Y3 h ht ho hx u v m hl
  show min _ _ ≤ min _ _ + m
  omega
 ·have e1 := VF h ho hx
  have e2 := VF h ho hy
  show min (dst L N y x) (dst L N x x + t) - min (dst L N y y) (dst L N x y + t) = t
  omega
theorem BL (h : fN L N) (ht : DN L N) (ho : dC L N = true) {x y : Int} (hx : 0 ≤ x ∧ x < N) (hy : 0 ≤ y ∧ y < N) : -(dst L N x y) ≤ dst L N y x := by
 have h2 := h.n60
 obtain ⟨p, hp⟩ := (d9 h.links (by omega)).1 ho
 have a1 := sj h ht ho hx hy hp
 have a2 := sj h ht ho hy hx hp
 omega
theorem VG (h : fN L N) (ht : DN L N) (ho : dC L N = true) {s t : Int} (hs : 0 ≤ s ∧ s < N) (hv : 0 ≤ t ∧ t < N) : -9007199254740992 ≤ dst L N s t ∧ dst L N s t ≤ 9007199254740992 := by
 have a1 := Y5 h ht ho hs hv
 have a2 := Y5 h ht ho hv hs
 have a3 := BL h ht ho hv hs
 omega
theorem qL (h : fN L N) (ht : DN L N) {s t : Int} (hs : 0 ≤ s ∧ s < N) (hv : 0 ≤ t ∧ t < N) : gu L N s t = if dC L N then (dst L N s t, 0) else (0, 9) := by
 unfold gu
 by_cases ho : dC L N = true
 ·have hne := Y4 h ht ho hs hv
  unfold dst at hne ⊢
  rw [if_neg (by simp [ho]), if_neg hne, if_pos ho]
 ·rw [if_pos (by simpa using ho), if_neg ho]
end
section
variable {b : bH} {c : Cmp}
theorem act (h' : cW (bQ b c)) : GL (bQ b c) (b8 (bQ b c)) := by
 intro i g hg l hl
 rw [Ub]
 exact List.mem_append.2 (.inl (List.mem_flatMap.2 ⟨g, List.mem_of_getElem? hg, hl⟩))
theorem iT (h' : cW (bQ b c)) : DN (b8 (bQ b c)) ((bm (bQ b c)).length + 1) := h'.tiedL (act h')
theorem iE (h' : cW (bQ b c)) : fN (b8 (bQ b c)) ((bm (bQ b c)).length + 1) :=
 h'.sys.sub (fun l hl => List.mem_of_mem_take hl) (by unfold b8; rw [List.length_take]; omega)
theorem nz (h : cW b) (h' : cW (bQ b c)) : dC (b8 (bQ b c)) ((bm (bQ b c)).length + 1) = dC (bB b) ((bm b).length + 1) := by
 have n1 := h.sys.n60
 have n2 := (iE h').n60
 rw [Bool.eq_iff_iff, d9 (iE h').links (by omega), d9 h.sys.links (by omega)]
 exact (X2 h h').symm
theorem vJ : c ∈ (bQ b c).2.2.2.2.1 := by simp [bQ]
theorem xy (h' : cW (bQ b c)) : 0 ≤ cx (bQ b c) c ∧ cx (bQ b c) c < ((bm (bQ b c)).length + 1 : Nat) := (Pe h' vJ).rng
theorem xx (h' : cW (bQ b c)) : 0 ≤ cy (bQ b c) c ∧ cy (bQ b c) c < ((bm (bQ b c)).length + 1 : Nat) := (Ji h' vJ).rng
def dLo (b : bH) (c : Cmp) : Int := -(dst (b8 (bQ b c)) ((bm (bQ b c)).length + 1) (cx (bQ b c) c) (cy (bQ b c) c))
def dHi (b : bH) (c : Cmp) : Int := dst (b8 (bQ b c)) ((bm (bQ b c)).length + 1) (cy (bQ b c) c) (cx (bQ b c) c)
theorem JI (h : cW b) (h' : cW (bQ b (bj c))) : dv b c = if dC (bB b) ((bm b).length + 1) then Gy b (bj c) (dLo b (bj c), dHi b (bj c)) else ((0, 0), 9) := by
 have e : vz b (bj c) = (bQ b (bj c), 0) := by
  unfold vz
  rw [if_neg (by simp [(bE b).2 h]), if_neg (by simp [(bE _).2 h'])]
 unfold dv
 rw [e, qL (iE h') (iT h') (xx h') (xy h'), qL (iE h') (iT h') (xy h') (xx h'), nz h h']
 by_cases ho : dC (bB b) ((bm b).length + 1) = true
 ·rw [if_pos ho, if_pos ho, if_pos ho]
  rfl
 ·rw [if_neg ho, if_neg ho, if_neg ho]
  rfl
theorem mH (hp : (dv b c).2 = 0) : cW b ∧ cW (bQ b (bj c)) := by
 have hw : (vz b (bj c)).2 = 0 := by
  unfold dv at hp
  by_cases hw : (vz b (bj c)).2 = 0
  ·exact hw
  ·rw [if_pos hw] at hp; exact hp
 unfold vz at hw
 by_cases hb : bN b = 0
 ·rw [if_neg (by simp [hb])] at hw
  by_cases hm : bN (bQ b (bj c)) = 0
  ·exact ⟨(bE b).1 hb, (bE _).1 hm⟩
  ·rw [if_pos hm] at hw; exact absurd hw hm
 ·rw [if_pos hb] at hw; exact absurd hw hb
theorem S0 {s : Int × Int} (h : (Gy b c s).2 = 0) : T3 b c ≤ yI b c ∧ Gy b c s = ((s.1 + T3 b c, s.2 + yI b c), 0) := by
 unfold Gy at h ⊢
 split at h
 ·simp at h
 ·rename_i hl
  rw [if_neg hl]
  exact ⟨by omega, rfl⟩
end
end Go.Proofs.ZzM
end
noncomputable section
namespace Go.Proofs.ZzM
open Go Go.Am
structure ZP (B : bH) : Prop where
 good : cW B
 op : dC (bB B) ((bm B).length + 1) = true
 num : ∀ g ∈ B.2.1, I64 g.2.2.2.2.1.1
theorem jE {b : bH} (hI : In b) {ns : List (Int × Int)} (e : (dg b ns).2 = 0) : ZP (dg b ns).1 ∧ (dg b ns).1 = (eO b ns).1 ∧ (eO b ns).2 = 0 ∧ cW b := by
 unfold dg at e ⊢
 by_cases hc : bN b = 0
 ·rw [if_neg (by simp [hc])] at e ⊢
  by_cases hr : (eO b ns).2 = 0
  ·rw [if_neg (by simp [hr])] at e ⊢
   cases ho : dC (bB (eO b ns).1) ((bm (eO b ns).1).length + 1) with
   | true =>
     rw [if_pos rfl]
     exact ⟨⟨ze ((bE b).1 hc) hr, ho, by rw [mZ hr]; exact hI.num⟩, rfl, hr, (bE b).1 hc⟩
   | false => rw [ho] at e; simp at e
  ·rw [if_pos hr] at e; exact absurd e hr
 ·rw [if_pos hc] at e; exact absurd e hc
theorem di (B : bH) (n : Int × Int) : 0 ≤ lT B n.1 n.2 ∧ lT B n.1 n.2 < ((bm B).length + 1 : Nat) := by
 unfold lT
 cases h : iN (bm B) n.1 n.2 with
 | none => dsimp only; omega
 | some j => have := (jj h).1; dsimp only; omega
theorem EY {B : bH} (h : cW B) (hn : ∀ g ∈ B.2.1, I64 g.2.2.2.2.1.1) (s : Sys) (n : Int × Int) : fi (B, s) n = some (lT B n.1 n.2) := by
 unfold fi ye
 rw [show dc (B, s).1 n = dc B n from rfl, qK (h.inn hn), aZ, nT h]
 split
 ·rename_i e; rw [e]
 ·rfl
theorem Sx {B : bH} {L : List Lk} {N : Nat} (h : fN L N) {to from' : Int} (h1 : 0 ≤ to ∧ to < N) (h2 : 0 ≤ from' ∧ from' < N) : cp (B, (N : Int), L) to from' = some (gu L N from' to).1 := by
 unfold cp o9
 rw [show (B, (N : Int), L).2 = ((N : Int), L) from rfl, B3 h h2 h1, aZ]
def JM (B : bH) : Sys := (((bm B).length : Int) + 1, bB B)
def yW (B : bH) (s t : Int) : Int := dst (bB B) ((bm B).length + 1) s t
def ivR (B : bH) (n : Int × Int) : Int × Int := (-(yW B (lT B n.1 n.2) 0), yW B 0 (lT B n.1 n.2))
theorem B6 (B : bH) : JM B = ((((bm B).length + 1 : Nat) : Int), bB B) := by unfold JM; push_cast; rfl
theorem eo (B : bH) : 0 ≤ (0 : Int) ∧ (0 : Int) < ((bm B).length + 1 : Nat) := by omega
section
variable {B : bH} (h : ZP B)
include h
theorem Dy {s t : Int} (hs : 0 ≤ s ∧ s < ((bm B).length + 1 : Nat)) (ht : 0 ≤ t ∧ t < ((bm B).length + 1 : Nat)) : -9007199254740992 ≤ yW B s t ∧ yW B s t ≤ 9007199254740992 :=
 VG h.good.sys h.good.tied h.op hs ht
theorem wm {to from' : Int} (h1 : 0 ≤ to ∧ to < ((bm B).length + 1 : Nat)) (h2 : 0 ≤ from' ∧ from' < ((bm B).length + 1 : Nat)) : cp (B, JM B) to from' = some (yW B from' to) := by
 rw [B6, Sx h.good.sys h1 h2, qL h.good.sys h.good.tied h2 h1, if_pos h.op]
 rfl
theorem Me (n : Int × Int) : fU (B, JM B) n = some (-(yW B (lT B n.1 n.2) 0)) := by
 unfold fU o8
 have hb := Dy h (di B n) (eo B)
 rw [EY h.good h.num, aZ, wm h (eo B) (di B n), aZ, bG (by omega) (by omega)]
 congr 1
 omega
theorem Bw (n : Int × Int) : gq (B, JM B) n = some (yW B 0 (lT B n.1 n.2)) := by
 unfold gq kw
 rw [EY h.good h.num, aZ, wm h (di B n) (eo B), aZ]
theorem rZ (n : Int × Int) : eV (B, JM B) n = some (ivR B n) := by
 unfold eV kv
 rw [Me h, aZ, Bw h, aZ]
 rfl
end
def vA (b : bH) (n : Int × Int) : (Int × Int) × Int := if (dg b [n]).2 ≠ 0 then ((0, 0), (dg b [n]).2) else (ivR (dg b [n]).1 n, 0)
theorem yU {b : bH} (hI : In b) (n : Int × Int) : jp b n = some (vA b n) := by
 unfold jp ut vA
 refine (ob hI (ns := [n]) (by simp) (fun e => some (((0, 0) : Int × Int), e)) (fun e he => by rw [dh (by simp [ine, he])]) (fun z he => by rw [dh (by simp [ine, he])]) (fun _ _ _ => rfl)).trans ?_
 split
 ·rfl
 ·rename_i e
  have hr := (jE hI (by simpa using e)).1
  dsimp only
  rw [sd, show ((((bm (dg b [n]).1).length : Int) + 1, bB (dg b [n]).1) : Sys) = JM (dg b [n]).1 from rfl, rZ hr, aZ]
theorem Xe {ρ : Type} : @pm ρ = @cn ρ := rfl
theorem aaJ {ρ : Type} : @ur ρ = @cn ρ := rfl
def btR (B : bH) (m n : Int × Int) : Int × Int := (-(yW B (lT B m.1 m.2) (lT B n.1 n.2)), yW B (lT B n.1 n.2) (lT B m.1 m.2))
def Gm (b : bH) (m n : Int × Int) : (Int × Int) × Int := if (dg b [m, n]).2 ≠ 0 then ((0, 0), (dg b [m, n]).2) else (btR (dg b [m, n]).1 m n, 0)
theorem ML {b : bH} (hI : In b) (m n : Int × Int) : nJ b m n = some (Gm b m n) := by
 unfold nJ yn Gm
 rw [Xe]
 refine (ob hI (ns := [m, n]) (by simp) (fun e => some (((0, 0) : Int × Int), e)) (fun e he => by rw [dh (by simp [ine, he])]) (fun z he => by rw [dh (by simp [ine, he])]) (fun _ _ _ => rfl)).trans ?_
 split
 ·rfl
 ·rename_i e
  have hr := (jE hI (by simpa using e)).1
  dsimp only
  generalize (dg b [m, n]).1 = B at hr ⊢
  have hb := Dy hr (di B m) (di B n)
  rw [sd, show ((((bm B).length : Int) + 1, bB B) : Sys) = JM B from rfl, EY hr.good hr.num, aZ, EY hr.good hr.num, aZ, wm hr (di B n) (di B m), aZ,
   bG (by omega) (by omega), wm hr (di B m) (di B n), aZ]
  unfold btR
  rw [Int.zero_sub]
def nZ (s l : Int × Int) : Int := if l.1 ≤ s.1 ∧ s.2 ≤ l.2 then 1 else if s.2 < l.1 ∨ l.2 < s.1 then 2 else 3
theorem Ln (s l : Int × Int) : nF s l = some (nZ s l) := by
 unfold nF yc nZ
 simp only [dA, ile, ilt, decide_eq_true_eq]
 by_cases h1 : l.1 ≤ s.1 <;> by_cases h2 : s.2 ≤ l.2 <;> by_cases h3 : s.2 < l.1 <;> by_cases h4 : l.2 < s.1 <;> simp [h1, h2, h3, h4]
def ZV (b : bH) (n l : Int × Int) : Int × Int := if (dg b [n]).2 ≠ 0 then (0, (dg b [n]).2) else if l.2 < l.1 then (0, 1) else (nZ (ivR (dg b [n]).1 n) l, 0)
theorem aby {b : bH} (hI : In b) (n l : Int × Int) : BF b n l = some (ZV b n l) := by
 unfold BF Hs ZV
 rw [aaJ]
 refine (ob hI (ns := [n]) (by simp) (fun e => some ((0 : Int), e)) (fun e he => by rw [bI (by simp [ine, he])]) (fun z he => by rw [bI (by simp [ine, he])]) (fun _ _ _ => rfl)).trans ?_
 split
 ·rfl
 ·rename_i e
  have hr := (jE hI (by simpa using e)).1
  dsimp only
  by_cases hl : l.2 < l.1
  ·rw [bI (by simp [igt, hl]), if_pos hl]
  ·rw [bz (by simp [igt]; omega), if_neg hl, sd, show ((((bm (dg b [n]).1).length : Int) + 1, bB (dg b [n]).1) : Sys) = JM (dg b [n]).1 from rfl, rZ hr, aZ, Ln, aZ]
end Go.Proofs.ZzM
end
noncomputable section
namespace Go.Proofs.ZzM
open Go Go.Am
def JL (x y : List Int) : List Int × List Int × Int := if !mo x then ([], [], 1) else if !mo y then ([], [], 1) else (cB x y, cB y x, 0)
theorem SI {x y : List Int} (hx : x.length ≤ 100000) (hy : y.length ≤ 100000) : qE x y = some (JL x y) := by
 unfold qE Df JL
 rw [Bp (by omega), aZ]
 cases mo x with
 | false => rfl
 | true =>
   rw [Bp (by omega), aZ]
   cases mo y with
   | false => rfl
   | true =>
     rw [pw (by omega) (by omega), aZ, pw (by omega) (by omega), aZ]
     rfl
end Go.Proofs.ZzM
end
noncomputable section
namespace Go.Proofs.ZzM
open Go Go.Am
theorem R6 (ls : List (List Int)) (i : Nat) : (ls.take i).flatten.length ≤ ls.flatten.length := by
 conv => rhs; rw [← List.take_append_drop i ls, List.flatten_append, List.length_append]
 omega
theorem mV {ls : List (List Int)} (hl : ls.length ≤ 1000000) (hf : ls.flatten.length ≤ 1000000) : bR ls = some ls.flatten := by
 have hk : ∀ n : Nat, n ≤ 4000000 → ∀ (f : Int → Option (List Int)), ck (n : Int) f = f n := fun n h f => bG (by omega) (by omega) f
 have second : bw (fun (v9 : (Val (.pair tI (.slice tI)))) kk12 => bV ls (bK ls) v9.1 v9.2 (fun u10 u11 => kk12 (u10, u11)) (fun z8 => some z8)) ((0 : Int), ([] : List Int)) = some ls.flatten := by
  refine cI ls (fun i => (ls.take i).flatten) (some ls.flatten) (f := fun (v9 : (Val (.pair tI (.slice tI)))) kk12 => bV ls (bK ls) v9.1 v9.2 (fun u10 u11 => kk12 (u10, u11)) (fun z8 => some z8)) rfl (fun i x hi hx kn => ?_) (fun kn => ?_)
  ·try dsimp only
   unfold bV
   have h1 := R6 ls (i + 1)
   rw [take_succ hx, List.flatten_append, List.length_append] at h1
   simp only [List.flatten_cons, List.flatten_nil, List.append_nil] at h1
   rw [bC hi, bt hx, bv hi (by omega), take_succ hx, List.flatten_append]
   have : bZ ((List.take i ls).flatten.length + x.length) = true := bD (by omega)
   rw [dh this]
   simp
  ·try dsimp only
   unfold bV
   rw [bX]
   simp
 unfold bR g9
 refine fK (fun x : Int × Int => ∃ i : Nat, i ≤ ls.length ∧ x = (((ls.take i).flatten.length : Int), (i : Int))) (fun x => ls.length - x.2.toNat) ?_ ⟨0, by omega, rfl⟩
 rintro x ⟨i, hi, rfl⟩
 rcases Nat.lt_or_ge i ls.length with h2 | h2
 ·refine .inr ⟨(((ls.take (i + 1)).flatten.length : Int), (i : Int) + 1), ⟨i + 1, h2, by simp⟩, by simp; omega, fun kn => ?_⟩
  obtain ⟨x, hx⟩ : ∃ x, ls[i]? = some x := ⟨_, List.getElem?_eq_getElem h2⟩
  have h1 := R6 ls (i + 1)
  rw [take_succ hx, List.flatten_append, List.length_append] at h1
  simp only [List.flatten_cons, List.flatten_nil, List.append_nil] at h1
  try dsimp only
  unfold dq
  rw [bC h2, bt hx, bU]
  have e1 : (((List.take i ls).flatten.length : Int) + (x.length : Int)) = ((List.take i ls).flatten.length + x.length : Nat) := by omega
  rw [e1, hk _ (by omega)]
  have : ilt ((((List.take i ls).flatten.length + x.length : Nat)) : Int) 0 = false := by simp [ilt]; omega
  rw [bz this, bv h2 (by omega), take_succ hx]
  simp
 ·refine .inl fun kn => ?_
  obtain rfl : i = ls.length := by omega
  try dsimp only
  unfold dq
  rw [bX, List.take_length]
  have e2 : ilt ((ls.flatten.length : Nat) : Int) 0 = false := decide_eq_false (by omega)
  dsimp only
  rw [bz e2, Int.sub_zero, hk _ (by omega)]
  rcases Nat.eq_zero_or_pos ls.flatten.length with h0 | h0
  ·have : igt (ls.flatten.length : Int) 0 = false := decide_eq_false (by omega)
   rw [bz this]
   exact second
  ·have : igt (ls.flatten.length : Int) 0 = true := decide_eq_true (by omega)
   rw [bI this]
   have : ((ilt (0 : Int) (ls.flatten.length : Int)) && (bZ (Int.toNat (ls.flatten.length : Int)))) = true := by
    rw [Int.toNat_natCast, bD (by omega), Bool.and_true]
    exact decide_eq_true (by omega)
   rw [dh this]
   have : ile 0 (dz (List.replicate (Int.toNat (ls.flatten.length : Int)) (0 : Int))) = true := decide_eq_true (Int.natCast_nonneg _)
   rw [dh this]
   exact second
def onP (day : Int) (ids : List Int) : List (Int × Int) := ids.map fun id => (id, day)
theorem XH {day : Int} {ls : List (List Int)} (hl : ls.length ≤ 1000000) (hf : ls.flatten.length ≤ 1000000) : BC day ls = some (onP day ls.flatten) := by
 unfold BC He
 rw [mV hl hf, aZ]
 refine cI ls.flatten (fun i => onP day (ls.flatten.take i)) _ rfl (fun i x hi hx kn => ?_) (fun kn => ?_)
 ·try dsimp only
  unfold ol
  rw [bC hi, bt hx, bv hi (by omega), take_succ hx]
  have : bZ (List.length (onP day (ls.flatten.take i)) + List.length ([(x, day)])) = true := bD (by simp [onP]; omega)
  rw [dh this]
  simp [onP]
 ·try dsimp only
  unfold ol
  rw [bX, List.take_length]
theorem aae {l : List Int} (hl : l.length ≤ 100000) (m : Int) : Ge l m = some (mo l && decide ((l.length : Int) ≤ m)) := by
 unfold Ge Ns
 rw [SI hl (by simp), aZ]
 have e0 : mo [] = true := by decide
 unfold JL
 rw [e0, bU]
 cases mo l <;> rfl
theorem ab4 (n : Int) : BD n = some (Ui n) := by
 unfold BD Hl Ui inP
 rw [dA]
 by_cases h : 0 ≤ n
 ·rw [if_pos (by simpa [ige] using h)]; simp [h]
 ·rw [if_neg (by simpa [ige] using h)]; simp [h]
theorem aaN {ρ α : Type} (l : List α) (i : Int) (f : α → Option ρ) : ca ((ile (0 : Int) i) && (ilt i (dz l))) (gw l (Int.toNat i) f) = dn l i f := by
 unfold dn
 by_cases h0 : 0 ≤ i
 ·by_cases h1 : i < l.length
  ·have e : ((ile (0 : Int) i) && (ilt i (dz l))) = true := by simp [ile, ilt, h0, h1]
   rw [dh e]
   simp only [h0, decide_true]
   unfold gw
   rfl
  ·have e : ((ile (0 : Int) i) && (ilt i (dz l))) = false := by simp [ile, ilt, h1]
   rw [e]
   simp only [h0, decide_true]
   rw [List.getElem?_eq_none (by omega)]
   rfl
 ·have e : ((ile (0 : Int) i) && (ilt i (dz l))) = false := by simp [ile, ilt, h0]
  rw [e]
  simp only [h0, decide_false]
  rfl
theorem ace {ρ : Type} (ns : List (Int × Int)) (n : Int) : @rj ρ ns n = @cn ρ n ns := by
 funext v0 v1 v2 v3 v4 v5 v6 v7 kn k0 k1
 unfold rj cn
 rw [aaN]
def UU (B : bH) (ns : List (Int × Int)) (s : Int × Int) : Int × Int := ns.foldl (fun s n => (s.1 + (ivR B n).1, s.2 + (ivR B n).2)) s
def pileR (B : bH) (f : Int × Int) (ns : List (Int × Int)) : Int × Int := UU B ns (((ns.length : Int) - 1) * f.1, ((ns.length : Int) - 1) * f.2)
def acW (b : bH) (day : Int) (ids : List Int) : (Int × Int) × Int :=
 if bN b ≠ 0 then ((0, 0), bN b) else if ids.length = 0 ∨ mo ids = false ∨ Ui day = false then ((0, 0), 1) else
 if (dg b (onP day ids)).2 ≠ 0 then ((0, 0), (dg b (onP day ids)).2) else (pileR (dg b (onP day ids)).1 b.1 (onP day ids), 0)
theorem SW (B : bH) (x y : List (Int × Int)) (s : Int × Int) : UU B (x ++ y) s = UU B y (UU B x s) := by unfold UU; rw [List.foldl_append]
theorem XD {B : bH} (h : ZP B) : ∀ (ns : List (Int × Int)) (s : Int × Int) (m : Int), -m ≤ s.1 ∧ s.1 ≤ m → -m ≤ s.2 ∧ s.2 ≤ m →
 (-(m + ns.length * 9007199254740992) ≤ (UU B ns s).1 ∧ (UU B ns s).1 ≤ m + ns.length * 9007199254740992) ∧ (-(m + ns.length * 9007199254740992) ≤ (UU B ns s).2 ∧ (UU B ns s).2 ≤ m + ns.length * 9007199254740992)
 | [], s, m, h1, h2 => by unfold UU; simp; omega
 | n :: t, s, m, h1, h2 => by
   have b1 := Dy h (di B n) (eo B)
   have b2 := Dy h (eo B) (di B n)
   have := XD h t (s.1 + (ivR B n).1, s.2 + (ivR B n).2) (m + 9007199254740992) (by unfold ivR; dsimp only; omega) (by unfold ivR; dsimp only; omega)
   show (-(m + ((n :: t).length : Nat) * 9007199254740992) ≤ (UU B t _).1 ∧ _) ∧ _
   unfold UU at this ⊢
   simp only [List.foldl_cons, List.length_cons]
   push_cast
   omega
theorem acV {b : bH} (hI : In b) (day : Int) {ids : List Int} (hl : ids.length ≤ 1000) : Gf b day ids = some (acW b day ids) := by
 unfold Gf NT acW
 rw [gQ hI.size hI.num, aZ, aae (by omega), aZ, ab4, aZ, bU]
 by_cases hc : bN b = 0
 ·rw [bz (by simp [ine, hc]), if_neg (show ¬ (bN b ≠ 0) from fun h => h hc)]
  by_cases h0 : ids.length = 0
  ·rw [bI (by simp [ieq, h0]), if_pos (.inl h0)]
  ·rw [bz (beq_eq_false_iff_ne.2 (by omega))]
   by_cases h1 : mo ids = true
   ·have hp := (Qe ids).1 h1
    have e1 : (mo ids && decide ((ids.length : Int) ≤ 6)) = true := by rw [h1]; simp; omega
    rw [e1, bz (by rfl)]
    by_cases h2 : Ui day = true
    ·have hg := (bE b).1 hc
     rw [bz (by rw [h2]; rfl), if_neg (by simp [h0, h1, h2]), XH (by simp) (by simp; omega), aZ]
     have hlen : (onP day ids).length = ids.length := by simp [onP]
     rw [show ([ids] : List (List Int)).flatten = ids by simp, ace, ← gQ hI.size hI.num]
     refine (ob hI (ns := onP day ids) (by omega) (fun e => some (((0, 0) : Int × Int), e)) (fun e he => by rw [bI (by simp [ine, he])]) (fun z he => by rw [bI (by simp [ine, he])]) (fun _ _ _ => rfl)).trans ?_
     split
     ·rfl
     ·rename_i e
      have hr := (jE hI (by simpa using e)).1
      have hf := hg.film
      dsimp only
      generalize (dg b (onP day ids)).1 = B at hr ⊢
      have hm : ∀ x : Int, 0 ≤ x → x ≤ 1000000 → 0 ≤ ((ids.length : Int) - 1) * x ∧ ((ids.length : Int) - 1) * x ≤ 10000000 := by
       intro x h0 h1
       have : ((ids.length : Int) - 1) * x ≤ 5 * 1000000 := Int.mul_le_mul (by omega) h1 h0 (by omega)
       exact ⟨Int.mul_nonneg (by omega) h0, by omega⟩
      have m1 := hm b.1.1 (by omega) (by omega)
      have m2 := hm b.1.2 (by omega) (by omega)
      rw [bG (by omega) (by omega), bG (by omega) (by omega), bG (by omega) (by omega), sd, show ((((bm B).length : Int) + 1, bB B) : Sys) = JM B from rfl]
      unfold pileR
      rw [hlen]
      refine cI (onP day ids) (fun i => UU B ((onP day ids).take i) (((ids.length : Int) - 1) * b.1.1, ((ids.length : Int) - 1) * b.1.2)) _ rfl (fun i n hi hn kn => ?_) (fun kn => ?_)
      ·try dsimp only
       unfold ri
       have b1 := Dy hr (di B n) (eo B)
       have b2 := Dy hr (eo B) (di B n)
       have bs := XD hr ((onP day ids).take i) (((ids.length : Int) - 1) * b.1.1, ((ids.length : Int) - 1) * b.1.2) 10000000 (by dsimp only; omega) (by dsimp only; omega)
       have bl : (((onP day ids).take i).length : Int) ≤ 6 := by rw [List.length_take]; omega
       rw [bC hi, bt hn, rZ hr, aZ, take_succ hn, SW]
       generalize UU B ((onP day ids).take i) (((ids.length : Int) - 1) * b.1.1, ((ids.length : Int) - 1) * b.1.2) = s at bs ⊢
       unfold ivR
       dsimp only
       rw [bG (by omega) (by omega), bG (by omega) (by omega), bv hi (by omega)]
       rfl
      ·try dsimp only
       unfold ri
       rw [bX, List.take_length]
    ·have h2' : Ui day = false := by simpa using h2
     rw [h2', bI (by rfl), if_pos (.inr (.inr rfl))]
   ·have h1' : mo ids = false := by simpa using h1
    rw [h1', bI (by rfl), if_pos (.inr (.inl rfl))]
 ·rw [bI (by simp [ine, hc]), if_pos hc]
theorem nA {α : Type} (p : α → Bool) (l : List α) (i : Nat) : ((l.take i).filter p).length ≤ l.length := by
 have h1 := List.length_filter_le p (l.take i)
 rw [List.length_take] at h1
 omega
end Go.Proofs.ZzM
end
noncomputable section
namespace Go.Proofs.ZzM
open Go Go.Am
theorem LR (x y : Int) (g : Bool) : ∀ m : List (Int × Bool), pO (k := tI) (v := .bool) x (F2 (k := tI) (v := .bool) y g m) = if x = y then some g else pO (k := tI) (v := .bool) x m
 | [] => by
   unfold F2 pO jg pO
   by_cases h : x = y <;> simp [h]
 | e :: m => by
   unfold F2
   by_cases h : y = e.1
   ·have : jg tI y e.1 = true := by simp [jg, h]
    rw [this]
    try dsimp only
    unfold pO jg
    by_cases h2 : x = y
    ·simp [h2]
    ·have : ¬ x = e.1 := fun h3 => h2 (h3.trans h.symm)
     simp [h2, this]
   ·have : jg tI y e.1 = false := by simp [jg, h]
    rw [this]
    try dsimp only
    have ih := LR x y g m
    unfold pO
    by_cases h2 : x = e.1
    ·have : jg tI x e.1 = true := by simp [jg, h2]
     rw [this]
     have : ¬ x = y := fun h3 => h (h3.symm.trans h2)
     simp [this]
    ·have : jg tI x e.1 = false := by simp [jg, h2]
     rw [this]
     exact ih
def JO (l : List Int) : List (Int × Bool) := l.foldl (fun m x => F2 (k := tI) (v := .bool) x true m) []
theorem tC (l : List Int) (x : Int) : JO (l ++ [x]) = F2 (k := tI) (v := .bool) x true (JO l) := by unfold JO; rw [List.foldl_append]; rfl
theorem QG (x : Int) : ∀ (l : List Int) (m : List (Int × Bool)), pO (k := tI) (v := .bool) x (l.foldl (fun m x => F2 (k := tI) (v := .bool) x true m) m) = if l.contains x then some true else pO (k := tI) (v := .bool) x m
 | [], m => by simp
 | y :: l, m => by
   rw [List.foldl_cons, QG x l, LR]
   by_cases h : x = y
   ·subst h; simp
   ·simp [h]
theorem QE (l : List Int) (x : Int) : pO (k := tI) (v := .bool) x (JO l) = if l.contains x then some true else none := QG x l []
def y0 (b : bH) (s : Int × Int) : List Int := if s.1 = 3 then (match b.2.2.2.2.1[s.2.toNat]? with | some c => c.2.2.1 ++ c.2.2.2.1 | none => []) else (match b.2.1[s.2.toNat]? with | some g => [g.1] | none => [])
def Jj (b : bH) (ss looks : List (Int × Int)) : List Int := ss.flatMap (y0 b) ++ looks.map fun n => n.1
def BN (ss : List (Int × Int)) : List Int := (ss.filter fun s => s.1 == 3).map fun s => s.2
def yG (w : List Int) : Nat → List Cmp → List Cmp
 | _, [] => []
 | i, c :: t => if w.contains (i : Int) then c :: yG w (i + 1) t else yG w (i + 1) t
def cutP (b : bH) (ss looks : List (Int × Int)) : bH :=
 (b.1, b.2.1.filter fun g => (Jj b ss looks).contains g.1, b.2.2.1.filter fun u => (Jj b ss looks).contains u.1, b.2.2.2.1.filter fun l => (Jj b ss looks).contains l.1, yG (BN ss) 0 b.2.2.2.2.1, looks)
def acT (b : bH) (s : Int × Int) : Prop := ((s.1 = 1 ∨ s.1 = 2) ∧ 0 ≤ s.2 ∧ s.2 < b.2.1.length) ∨ (s.1 = 3 ∧ 0 ≤ s.2 ∧ s.2 < b.2.2.2.2.1.length)
theorem Mg (w : List Int) (c : Cmp) : ∀ (l : List Cmp) (i : Nat), yG w i (l ++ [c]) = yG w i l ++ if w.contains ((i + l.length : Nat) : Int) then [c] else []
 | [], i => by simp only [List.nil_append, yG, List.length_nil, Nat.add_zero]
 | a :: l, i => by
   have e : ((i + 1 + l.length : Nat) : Int) = ((i + (l.length + 1) : Nat) : Int) := by congr 1; omega
   simp only [List.cons_append, yG, Mg w c l (i + 1), List.length_cons, e]
   split <;> rfl
theorem IL (w : List Int) : ∀ (l : List Cmp) (i : Nat), (yG w i l).length ≤ l.length
 | [], i => by simp [yG]
 | a :: l, i => by
   have := IL w l (i + 1)
   simp only [yG]
   split <;> simp only [List.length_cons] <;> omega
theorem vd {ρ : Type} (x : Int) (l : List Int) (f : Bool → Option ρ) (g : Option ρ) : PF (k := tI) (v := .bool) x (JO l) f g = if l.contains x then f true else g := by
 unfold PF
 rw [QE]
 by_cases h : l.contains x = true
 ·rw [if_pos h, if_pos h]
 ·rw [if_neg h, if_neg h]
section
variable {ρ : Type}
theorem cut_L3 (l : List (Int × Int)) (hl : l.length ≤ 1000) (ids : List Int) (K : List (Int × Int) → Option ρ) : bw (fun (v47 : (Val (.pair tI (.slice bc)))) kk50 => pY l (bK l) (JO ids) v47.1 v47.2 (fun u48 u49 => kk50 (u48, u49)) K) ((0 : Int), []) = K (l.filter fun u => ids.contains u.1) := by
 refine cI l (fun i => (l.take i).filter fun u => ids.contains u.1) _ rfl (fun i a hi ha kn => ?_) (fun kn => ?_)
 ·try dsimp only
  unfold pY
  have h1 := nA (fun u : Int × Int => ids.contains u.1) l i
  rw [bC hi, bt ha, vd, take_succ ha, List.filter_append]
  by_cases h : ids.contains a.1 = true
  ·rw [if_pos h, eD, dh (bD (by simp only [List.length_singleton]; omega)), bv hi (by omega)]
   simp only [List.filter_cons, List.filter_nil, h, if_pos]
  ·rw [if_neg h, bv hi (by omega)]
   simp only [List.filter_cons, List.filter_nil, h, if_neg, Bool.false_eq_true, not_false_eq_true, List.append_nil]
 ·try dsimp only
  unfold pY
  rw [bX, List.take_length]
theorem cut_L4 (l : List Gk) (hl : l.length ≤ 1000) (ids : List Int) (K : List Gk → Option ρ) : bw (fun (v47 : (Val (.pair tI (.slice dG)))) kk50 => pX l (bK l) (JO ids) v47.1 v47.2 (fun u48 u49 => kk50 (u48, u49)) K) ((0 : Int), []) = K (l.filter fun u => ids.contains u.1) := by
 refine cI l (fun i => (l.take i).filter fun u => ids.contains u.1) _ rfl (fun i a hi ha kn => ?_) (fun kn => ?_)
 ·try dsimp only
  unfold pX
  have h1 := nA (fun u : Gk => ids.contains u.1) l i
  rw [bC hi, bt ha, vd, take_succ ha, List.filter_append]
  by_cases h : ids.contains a.1 = true
  ·rw [if_pos h, eD, dh (bD (by simp only [List.length_singleton]; omega)), bv hi (by omega)]
   simp only [List.filter_cons, List.filter_nil, h, if_pos]
  ·rw [if_neg h, bv hi (by omega)]
   simp only [List.filter_cons, List.filter_nil, h, if_neg, Bool.false_eq_true, not_false_eq_true, List.append_nil]
 ·try dsimp only
  unfold pX
  rw [bX, List.take_length]
theorem cut_L5 (l : List Cmp) (hl : l.length ≤ 1000) (hp : ∀ c ∈ l, c.2.2.1.length ≤ 1000 ∧ c.2.2.2.1.length ≤ 1000) (w : List Int) (K : List Cmp → Option ρ) : bw (fun (v47 : (Val (.pair tI (.slice bp)))) kk50 => pW l (bK l) (JO w) v47.1 v47.2 (fun u48 u49 => kk50 (u48, u49)) K) ((0 : Int), []) = K (yG w 0 l) := by
 refine cI l (fun i => yG w 0 (l.take i)) _ rfl (fun i a hi ha kn => ?_) (fun kn => ?_)
 ·try dsimp only
  unfold pW
  have h1 := IL w (l.take i) 0
  have h2 := hp a (List.mem_of_getElem? ha)
  have e : (l.take i).length = i := by rw [List.length_take]; omega
  rw [bC hi, bt ha, vd, take_succ ha, Mg, e, Nat.zero_add]
  by_cases h : w.contains (i : Int) = true
  ·rw [if_pos h, if_pos h, eD, dh (bD (by omega)), dh (bD (by omega)), dh (bD (by simp only [List.length_singleton]; omega)), bv hi (by omega)]
  ·rw [if_neg h, if_neg h, bv hi (by omega)]
   simp only [List.append_nil]
 ·try dsimp only
  unfold pW
  rw [bX, List.take_length]
theorem cut_L2 (looks : List (Int × Int)) (hl : looks.length ≤ 1000) (ids : List Int) (K : List (Int × Bool) → Option ρ) : bw (fun (v51 : (Val (.pair tI (.map tI .bool)))) kk54 => pZ looks (bK looks) v51.1 v51.2 (fun u52 u53 => kk54 (u52, u53)) K) ((0 : Int), JO ids) = K (JO (ids ++ looks.map fun n => n.1)) := by
 refine cI looks (fun i => JO (ids ++ (looks.take i).map fun n => n.1)) _ (by simp) (fun i a hi ha kn => ?_) (fun kn => ?_)
 ·try dsimp only
  unfold pZ
  rw [bC hi, bt ha, bv hi (by omega), take_succ ha, List.map_append, ← List.append_assoc, List.map_singleton, tC]
 ·try dsimp only
  unfold pZ
  rw [bX, List.take_length]
theorem cut_L1 (xs : List Int) (hl : xs.length ≤ 10000) (ids : List Int) (K : List (Int × Bool) → Option ρ) : bw (fun (v13 : (Val (.pair tI (.map tI .bool)))) kk16 => p8 xs (bK xs) v13.1 v13.2 (fun u14 u15 => kk16 (u14, u15)) K) ((0 : Int), JO ids) = K (JO (ids ++ xs)) := by
 refine cI xs (fun i => JO (ids ++ xs.take i)) _ (by simp) (fun i a hi ha kn => ?_) (fun kn => ?_)
 ·try dsimp only
  unfold p8
  rw [bC hi, bt ha, bv hi (by omega), take_succ ha, ← List.append_assoc, tC]
 ·try dsimp only
  unfold p8
  rw [bX, List.take_length]
end
theorem kJ {ρ α : Type} {l : List α} {i : Int} (h0 : 0 ≤ i) {a : α} (h : l[i.toNat]? = some a) (f : α → Option ρ) : dn l i f = f a := by
 obtain ⟨n, rfl⟩ := Int.eq_ofNat_of_zero_le h0
 exact bt (by simpa using h) f
theorem cut_ok {b : bH} (hs : jt b) {ss looks : List (Int × Int)} (h1 : ss.length ≤ 1000) (h2 : looks.length ≤ 1000) (hv : ∀ s ∈ ss, acT b s) : I8 b ss looks = some (cutP b ss looks) := by
 have g1 := hs.gauges; have g2 := hs.uses; have g3 := hs.loans; have g4 := hs.compares; have g5 := hs.looks
 unfold I8 Yl Ad
 refine cI ss (fun i => (JO ((ss.take i).flatMap (y0 b)), JO (BN (ss.take i)))) _ rfl (fun i s hi ha kn => ?_) (fun kn => ?_)
 ·try dsimp only
  unfold vM
  have hok := hv s (List.mem_of_getElem? ha)
  rw [bC hi, bt ha, take_succ ha, List.flatMap_append]
  have e3 : BN (ss.take i ++ [s]) = BN (ss.take i) ++ if s.1 = 3 then [s.2] else [] := by
   unfold BN
   rw [List.filter_append, List.map_append]
   congr 1
   by_cases h : s.1 = 3 <;> simp [h]
  rw [e3]
  rcases hok with ⟨hk, h0, h3⟩ | ⟨hk, h0, h3⟩
  ·have hg : b.2.1[s.2.toNat]? = some b.2.1[s.2.toNat] := List.getElem?_eq_getElem (by omega)
   generalize b.2.1[s.2.toNat] = g at hg
   have e1 : y0 b s = [g.1] := by
    unfold y0
    rw [if_neg (by omega), hg]
   have e2 : List.flatMap (y0 b) [s] = [g.1] := by simp [e1]
   rw [bz (decide_eq_false (by omega)), if_neg (by omega), List.append_nil, e2, tC]
   rcases hk with hk | hk
   ·rw [bI (decide_eq_true hk), kJ h0 hg, bv hi (by omega)]
   ·rw [bz (decide_eq_false (by omega)), bI (decide_eq_true hk), kJ h0 hg, bv hi (by omega)]
  ·have hc : b.2.2.2.2.1[s.2.toNat]? = some b.2.2.2.2.1[s.2.toNat] := List.getElem?_eq_getElem (by omega)
   have hp := hs.piles b.2.2.2.2.1[s.2.toNat] (List.getElem_mem _)
   generalize b.2.2.2.2.1[s.2.toNat] = c at hc hp
   have e1 : y0 b s = c.2.2.1 ++ c.2.2.2.1 := by
    unfold y0
    rw [if_pos hk, hc]
   have e2 : List.flatMap (y0 b) [s] = c.2.2.1 ++ c.2.2.2.1 := by simp [e1]
   rw [bz (decide_eq_false (by omega)), bz (decide_eq_false (by omega)), bz (decide_eq_false (by omega)), dh (decide_eq_true hk), if_pos hk, e2, kJ h0 hc, kJ h0 hc, mV (by simp) (by simp; omega), aZ]
   rw [show ([c.2.2.1, c.2.2.2.1] : List (List Int)).flatten = c.2.2.1 ++ c.2.2.2.1 by simp]
   refine (cut_L1 (c.2.2.1 ++ c.2.2.2.1) (by simp; omega) _ _).trans ?_
   rw [tC, bv hi (by omega)]
 ·try dsimp only
  unfold vM
  rw [bX]
  dsimp only
  rw [List.take_length]
  refine (cut_L2 looks h2 _ _).trans ?_
  rw [show (ss.flatMap (y0 b) ++ looks.map fun n => n.1) = Jj b ss looks from rfl]
  unfold vV
  try dsimp only
  rw [dh (bD (by omega)), aZ]
  have ek : (List.filter (fun g => (pO (k := tI) (v := .bool) g.1 (JO (Jj b ss looks))).getD false) b.2.1) = b.2.1.filter fun g => (Jj b ss looks).contains g.1 := by
   refine List.filter_congr fun g _ => ?_
   rw [QE]
   cases (Jj b ss looks).contains g.1 <;> rfl
  rw [ek]
  unfold lv
  dsimp only
  refine (cut_L3 b.2.2.1 g2 _ _).trans ?_
  refine (cut_L4 b.2.2.2.1 g3 _ _).trans ?_
  refine (cut_L5 b.2.2.2.2.1 g4 hs.piles _ _).trans ?_
  rfl
end Go.Proofs.ZzM
end
noncomputable section
namespace Go.Proofs.ZzM
open Go Go.Am
theorem XN {α : Type} [DecidableEq α] {l m : List α} (hl : l.length = m.length) (h : fw (fun i a => if m[i]? = some a then none else some false) 0 l = none) : l = m := by
 have := kK.1 h
 refine List.ext_getElem hl fun i h1 h2 => ?_
 have h3 := this i l[i] (List.getElem?_eq_getElem h1)
 rw [Nat.zero_add] at h3
 split at h3
 ·rename_i h4
  rw [List.getElem?_eq_getElem h2] at h4
  exact (Option.some.inj h4).symm
 ·cases h3
theorem XM {α : Type} [DecidableEq α] {l m : List α} {b : Bool} (h : fw (fun i a => if m[i]? = some a then none else some false) 0 l = some b) : b = false ∧ l ≠ m := by
 constructor
 ·have : ∀ (k : Nat) (x : List α) (b : Bool), fw (fun i a => if m[i]? = some a then none else some false) k x = some b → b = false := by
   intro k x
   induction x generalizing k with
   | nil => intro b h; cases h
   | cons a t ih =>
     intro b h
     unfold fw at h
     split at h
     ·rename_i c hc
      split at hc
      ·cases hc
      ·cases hc; cases h; rfl
     ·exact ih _ _ h
  exact this _ _ _ h
 ·intro e
  subst e
  rw [kK.2 fun j a ha => by rw [Nat.zero_add, if_pos ha]] at h
  cases h
end Go.Proofs.ZzM
end
noncomputable section
namespace Go.Proofs.ZzM
open Go Go.Am
instance dec1 : DecidableEq ((Int × Int) × Int) := fun a b => instDecidableEqProd a b
instance dec2 : DecidableEq ((Int × Int) × ((Int × Int) × Int)) := fun a b => instDecidableEqProd a b
instance dec3 : DecidableEq (Int × (Int × Int) × ((Int × Int) × Int)) := fun a b => instDecidableEqProd a b
instance dec4 : DecidableEq (Int × Int × (Int × Int) × ((Int × Int) × Int)) := fun a b => instDecidableEqProd a b
instance decG : DecidableEq cg := fun a b => instDecidableEqProd a b
instance decL : DecidableEq Gk := fun a b => instDecidableEqProd a b
instance decI4 : DecidableEq (Int × (Int × (Int × Int))) := fun a b => instDecidableEqProd a b
instance decI5 : DecidableEq (List Int × Int × (Int × (Int × Int))) := fun a b => instDecidableEqProd a b
instance decI6 : DecidableEq (List Int × List Int × Int × (Int × (Int × Int))) := fun a b => instDecidableEqProd a b
instance decI7 : DecidableEq (Int × List Int × List Int × Int × (Int × (Int × Int))) := fun a b => instDecidableEqProd a b
instance decC : DecidableEq Cmp := fun a b => instDecidableEqProd a b
def Nk {α : Type} [DecidableEq α] (x : α) (l : List α) : Bool := l.any fun a => decide (x = a)
theorem Vl {α : Type} [DecidableEq α] {x : α} {l : List α} : Nk x l = true ↔ x ∈ l := by
 unfold Nk
 rw [List.any_eq_true]
 exact ⟨fun ⟨a, h1, h2⟩ => by rw [of_decide_eq_true h2]; exact h1, fun h => ⟨x, h, decide_eq_true rfl⟩⟩
theorem Tr {α : Type} [DecidableEq α] (l : List α) (x : α) : ige (match l.findIdx? (fun a => decide (x = a)) with | some j => (j : Int) | none => -1) 0 = Nk x l := by
 cases h : l.findIdx? (fun a => decide (x = a)) with
 | none =>
   have : Nk x l = false := by
    cases hm : Nk x l with
    | false => rfl
    | true => have := List.findIdx?_eq_none_iff.1 h x (Vl.1 hm); simp at this
   rw [this]
   rfl
 | some j =>
   obtain ⟨hj, hp, _⟩ := List.findIdx?_eq_some_iff_getElem.1 h
   have : x ∈ l := by rw [of_decide_eq_true hp]; exact List.getElem_mem _
   rw [Vl.2 this]
   exact decide_eq_true (by dsimp only; omega)
theorem Yg {ρ : Type} (o : Option Nat) (f : Int → Option ρ) : (match o with | some j => f (j : Int) | none => f (-1)) = f (match o with | some j => (j : Int) | none => -1) := by cases o <;> rfl
theorem SF {l : List (Int × Int)} (hl : l.length ≤ 1000000) (x : Int × Int) : cN l x = some (Nk x l) := by
 unfold cN eP fT fQ
 have e : bw (fun (v5 : Int) kk7 => cH l (bK l) x.1 x.2 v5 (fun u6 => kk7 u6) (fun z3 => some z3) (fun _ => some (-1 : Int))) (0 : Int) = some (match l.findIdx? (fun a => decide (x = a)) with | some j => (j : Int) | none => -1) := by
  refine (iq l (fun a => decide (x = a)) (fun z => some z) (some (-1)) (fun i a hi ha kn => ?_) (fun kn => ?_)).trans (Yg _ some)
  ·try dsimp only
   unfold cH
   have e : ((fo x.1 a.1) && ((fo x.2 a.2) && true)) = decide (x = a) := by
    rw [Bool.eq_iff_iff]; simp [fo, Prod.ext_iff]
   rw [bC hi, bt ha, bv hi (by omega), dA, e]
  ·try dsimp only
   unfold cH
   rw [bX]
 rw [e, aZ]
 exact congrArg some (Tr l x)
theorem PC {l : List Gk} (hl : l.length ≤ 1000000) (x : Gk) : cr l x = some (Nk x l) := by
 unfold cr ee fh ff
 have e : bw (fun (v5 : Int) kk7 => cq l (bK l) x.1 x.2.1.1 x.2.1.2 x.2.2 v5 (fun u6 => kk7 u6) (fun z3 => some z3) (fun _ => some (-1 : Int))) (0 : Int) = some (match l.findIdx? (fun a => decide (x = a)) with | some j => (j : Int) | none => -1) := by
  refine (iq l (fun a => decide (x = a)) (fun z => some z) (some (-1)) (fun i a hi ha kn => ?_) (fun kn => ?_)).trans (Yg _ some)
  ·try dsimp only
   unfold cq
   have e : ((fo x.1 a.1) && ((fo x.2.1.1 a.2.1.1) && ((fo x.2.1.2 a.2.1.2) && ((fo x.2.2 a.2.2) && true)))) = decide (x = a) := by
    rw [Bool.eq_iff_iff]; simp [fo, Prod.ext_iff, and_assoc]
   rw [bC hi, bt ha, bv hi (by omega), dA, e]
  ·try dsimp only
   unfold cq
   rw [bX]
 rw [e, aZ]
 exact congrArg some (Tr l x)
theorem SG {l : List cg} (hl : l.length ≤ 1000000) (x : cg) : cX l x = some (Nk x l) := by
 unfold cX dM eM eJ
 have e : bw (fun (v5 : Int) kk7 => cm l (bK l) x.1 x.2.1 x.2.2.1 x.2.2.2.1.1 x.2.2.2.1.2 x.2.2.2.2.1.1 x.2.2.2.2.1.2 x.2.2.2.2.2 v5 (fun u6 => kk7 u6) (fun z3 => some z3) (fun _ => some (-1 : Int))) (0 : Int) = some (match l.findIdx? (fun a => decide (x = a)) with | some j => (j : Int) | none => -1) := by
  refine (iq l (fun a => decide (x = a)) (fun z => some z) (some (-1)) (fun i a hi ha kn => ?_) (fun kn => ?_)).trans (Yg _ some)
  ·try dsimp only
   unfold cm
   have e : ((fo x.1 a.1) && ((fo x.2.1 a.2.1) && ((fo x.2.2.1 a.2.2.1) && ((fo x.2.2.2.1.1 a.2.2.2.1.1) && ((fo x.2.2.2.1.2 a.2.2.2.1.2) && ((fo x.2.2.2.2.1.1 a.2.2.2.2.1.1) && ((fo x.2.2.2.2.1.2 a.2.2.2.2.1.2) && ((fo x.2.2.2.2.2 a.2.2.2.2.2) && true)))))))) = decide (x = a) := by
    rw [Bool.eq_iff_iff]; simp [fo, Prod.ext_iff, and_assoc]
   rw [bC hi, bt ha, bv hi (by omega), dA, e]
  ·try dsimp only
   unfold cm
   rw [bX]
 rw [e, aZ]
 exact congrArg some (Tr l x)
def YJ (b : bH) : List Int := b.2.1.map fun g => g.1
def ke {α : Type} [DecidableEq α] (x y : List α) (w : α → Bool) : Bool := x.all fun a => !w a || Nk a y
def aas (s b : bH) : Bool :=
 ke s.2.2.2.2.1 b.2.2.2.2.1 (fun _ => true) && (decide (s.1 = b.1) && (ke s.2.1 b.2.1 (fun _ => true) && (ke s.2.2.1 b.2.2.1 (fun u => (YJ s).contains u.1) && (ke b.2.2.1 s.2.2.1 (fun u => (YJ s).contains u.1) &&
  (ke s.2.2.2.1 b.2.2.2.1 (fun u => (YJ s).contains u.1) && ke b.2.2.2.1 s.2.2.2.1 (fun u => (YJ s).contains u.1))))))
section
variable {ρ : Type}
theorem DK {α : Type} [DecidableEq α] (x y : List α) (w : α → Bool) (X Y KF : Option ρ) {f : Int → (Int → Option ρ) → Option ρ}
 (h : ∀ (i : Nat) (a : α), i < x.length → x[i]? = some a → ∀ kn, f i kn = if !(!w a || Nk a y) then (ifb (!(ige (i : Int) 0)) X KF) else kn ((i : Int) + 1))
 (hn : ∀ kn, f x.length kn = Y) : bw f 0 = if ke x y w then Y else KF := by
 refine (gK x (fun a => !(!w a || Nk a y)) (fun z => ifb (!(ige z 0)) X KF) KF Y (fun j => by rw [show ige (j : Int) 0 = true from decide_eq_true (by omega)]; rfl) h hn).trans ?_
 unfold ke
 rw [List.all_eq_not_any_not]
 cases x.any fun a => !(!w a || Nk a y) <;> rfl
theorem ach : @qZ ρ = @kz ρ := rfl
theorem Mb {x y : List Int} (hl : x.length = y.length) (hx : x.length ≤ 1000000) (k0 : Bool → Option ρ) (K : Option ρ) :
 bw (fun (v30 : Int) kk32 => kz x y (bK x) v30 (fun u31 => kk32 u31) k0 (fun _ => K)) (0 : Int) = if x = y then K else k0 false := by
 refine (qq x (fun i a => if y[i]? = some a then none else some false) k0 K (fun i a hi ha kn => ?_) (fun kn => ?_)).trans ?_
 ·try dsimp only
  unfold kz
  have hm : y[i]? = some y[i] := List.getElem?_eq_getElem (by omega)
  rw [bC hi, bt ha, bt hm, bv hi (by omega), hm, dA]
  by_cases h : a = y[i]
  ·simp [ine, h]
  ·have h' : ¬ y[i] = a := fun e => h e.symm
   simp [ine, h, h']
 ·try dsimp only
  unfold kz
  rw [bX]
 ·cases h : fw (fun i a => if y[i]? = some a then none else some false) 0 x with
  | none => rw [if_pos (XN hl h)]
  | some b =>
    obtain ⟨h1, h2⟩ := XM h
    rw [if_neg h2, h1]
theorem XO {l : List Cmp} (hl : l.length ≤ 1000) (c : Cmp) (hA : c.2.2.1.length ≤ 1000) (hB : c.2.2.2.1.length ≤ 1000) (k0 : Int → Option ρ) (K1 KF : Option ρ) (hk : ∀ j : Nat, k0 (j : Int) = K1) :
 bw (fun (v41 : Int) kk43 => np l (bK l) c.1 c.2.1 c.2.2.1 c.2.2.2.1 c.2.2.2.2.1 c.2.2.2.2.2.1 c.2.2.2.2.2.2.1 c.2.2.2.2.2.2.2 v41 (fun u42 => kk43 u42) k0 (fun _ => KF)) (0 : Int) = if Nk c l then K1 else KF := by
 refine (gK l (fun d => decide (c = d)) k0 K1 KF hk (fun i d hi hd kn => ?_) (fun kn => ?_)).trans rfl
 ·try dsimp only
  unfold np
  have hsplit : (c = d) ↔ (c.1 = d.1 ∧ c.2.1 = d.2.1 ∧ c.2.2.2.2.1 = d.2.2.2.2.1 ∧ c.2.2.2.2.2.1 = d.2.2.2.2.2.1 ∧ (c.2.2.2.2.2.2.1 = d.2.2.2.2.2.2.1 ∧ c.2.2.2.2.2.2.2 = d.2.2.2.2.2.2.2) ∧ c.2.2.1 = d.2.2.1 ∧ c.2.2.2.1 = d.2.2.2.1) := by
   simp only [Prod.ext_iff]
   constructor
   ·rintro ⟨a1, a2, a3, a4, a5, a6, a7, a8⟩; exact ⟨a1, a2, a5, a6, ⟨a7, a8⟩, a3, a4⟩
   ·rintro ⟨a1, a2, a5, a6, ⟨a7, a8⟩, a3, a4⟩; exact ⟨a1, a2, a3, a4, a5, a6, a7, a8⟩
  have hno : ∀ {P : Prop}, ¬ P → (c = d → P) → (if decide (c = d) = true then k0 (i : Int) else kn ((i : Int) + 1)) = kn ((i : Int) + 1) := fun h1 h2 => by
   rw [if_neg]
   intro h
   exact h1 (h2 (of_decide_eq_true h))
  rw [bC hi, bt hd, bv hi (by omega)]
  by_cases a1 : c.1 = d.1
  case neg => rw [hno a1 (fun e => (hsplit.1 e).1), bz (beq_eq_false_iff_ne.2 a1)]
  rw [bI (beq_iff_eq.2 a1)]
  by_cases a2 : c.2.1 = d.2.1
  case neg => rw [hno a2 (fun e => (hsplit.1 e).2.1), bz (beq_eq_false_iff_ne.2 a2)]
  rw [bI (beq_iff_eq.2 a2)]
  by_cases a3 : c.2.2.2.2.1 = d.2.2.2.2.1
  case neg => rw [hno a3 (fun e => (hsplit.1 e).2.2.1), bz (beq_eq_false_iff_ne.2 a3)]
  rw [bI (beq_iff_eq.2 a3)]
  by_cases a4 : c.2.2.2.2.2.1 = d.2.2.2.2.2.1
  case neg => rw [hno a4 (fun e => (hsplit.1 e).2.2.2.1), bz (beq_eq_false_iff_ne.2 a4)]
  rw [bI (beq_iff_eq.2 a4)]
  by_cases a5 : c.2.2.2.2.2.2.1 = d.2.2.2.2.2.2.1 ∧ c.2.2.2.2.2.2.2 = d.2.2.2.2.2.2.2
  case neg => rw [hno a5 (fun e => (hsplit.1 e).2.2.2.2.1), bz (by simp only [fo, Bool.and_true, Bool.and_eq_false_iff, decide_eq_false_iff_not]; exact Decidable.not_and_iff_or_not.1 a5)]
  rw [bI (by simp [fo, a5.1, a5.2]), bU, bU, bU, bU]
  have rest : ∀ X Y : Option ρ, (c.2.2.1 = d.2.2.1) → (if decide (c = d) = true then k0 (i : Int) else kn ((i : Int) + 1)) = (if c.2.2.2.1 = d.2.2.2.1 then k0 (i : Int) else kn ((i : Int) + 1)) := by
   intro _ _ h
   by_cases g : c.2.2.2.1 = d.2.2.2.1
   ·rw [if_pos (decide_eq_true (hsplit.2 ⟨a1, a2, a3, a4, a5, h, g⟩)), if_pos g]
   ·rw [if_neg g]; exact hno g (fun e => (hsplit.1 e).2.2.2.2.2.2)
  by_cases l1 : c.2.2.1.length = d.2.2.1.length
  case neg =>
   rw [hno l1 (fun e => by rw [e]), bI (bne_iff_ne.2 (by omega))]
  rw [bz (by rw [l1]; exact bne_self_eq_false' _)]
  have e3 := Mb (ρ := ρ) l1 (by omega)
  rw [bU] at e3
  rw [e3]
  by_cases g1 : c.2.2.1 = d.2.2.1
  case neg => rw [if_neg g1, b7, hno g1 (fun e => (hsplit.1 e).2.2.2.2.2.1)]
  rw [if_pos g1, rest none none g1]
  by_cases l2 : c.2.2.2.1.length = d.2.2.2.1.length
  case neg =>
   rw [bI (bne_iff_ne.2 (by omega)), if_neg (fun e => l2 (by rw [e]))]
  rw [bz (by rw [l2]; exact bne_self_eq_false' _), ach]
  have e4 := Mb (ρ := ρ) l2 (by omega)
  rw [bU] at e4
  rw [e4, b7]
 ·try dsimp only
  unfold np
  rw [bX]
theorem acg : @ky ρ = @jb ρ := rfl
theorem acf : @cF ρ = @dH ρ := rfl
theorem acY {x y : List cg} (hx : x.length ≤ 1000) (hy : y.length ≤ 1000) (X Y KF : Option ρ) : bw (fun (v225 : Int) kk227 => nl x (bK x) y v225 (fun u226 => kk227 u226) (fun z => ifb (!(ige z 0)) X KF) (fun _ => Y)) (0 : Int) = if ke x y (fun _ => true) then Y else KF := by
 refine DK x y (fun _ => true) X Y KF (fun i a hi ha kn => ?_) (fun kn => ?_)
 ·try dsimp only
  unfold nl
  rw [bC hi, bt ha, SG (by omega), aZ, bv hi (by omega), dA]
  simp
 ·try dsimp only
  unfold nl
  rw [bX]
theorem ZU {x y : List (Int × Int)} (hx : x.length ≤ 1000) (hy : y.length ≤ 1000) (ids : List Int) (X Y KF : Option ρ) : bw (fun (v225 : Int) kk227 => jb x (bK x) (JO ids) y v225 (fun u226 => kk227 u226) (fun z => ifb (!(ige z 0)) X KF) (fun _ => Y)) (0 : Int) = if ke x y (fun u => ids.contains u.1) then Y else KF := by
 refine DK x y (fun u => ids.contains u.1) X Y KF (fun i a hi ha kn => ?_) (fun kn => ?_)
 ·try dsimp only
  unfold jb
  rw [bC hi, bt ha, vd, SF (by omega), aZ]
  by_cases h : ids.contains a.1 = true
  ·rw [if_pos h, eD, bv hi (by omega), dA, h]
   simp
  ·rw [if_neg h, bv hi (by omega)]
   have h' := Bool.not_eq_true _ ▸ h
   rw [h']
   simp
 ·try dsimp only
  unfold jb
  rw [bX]
theorem ZT {x y : List Gk} (hx : x.length ≤ 1000) (hy : y.length ≤ 1000) (ids : List Int) (X Y KF : Option ρ) : bw (fun (v225 : Int) kk227 => dH x (bK x) (JO ids) y v225 (fun u226 => kk227 u226) (fun z => ifb (!(ige z 0)) X KF) (fun _ => Y)) (0 : Int) = if ke x y (fun u => ids.contains u.1) then Y else KF := by
 refine DK x y (fun u => ids.contains u.1) X Y KF (fun i a hi ha kn => ?_) (fun kn => ?_)
 ·try dsimp only
  unfold dH
  rw [bC hi, bt ha, vd, PC (by omega), aZ]
  by_cases h : ids.contains a.1 = true
  ·rw [if_pos h, eD, bv hi (by omega), dA, h]
   simp
  ·rw [if_neg h, bv hi (by omega)]
   have h' := Bool.not_eq_true _ ▸ h
   rw [h']
   simp
 ·try dsimp only
  unfold dH
  rw [bX]
theorem acX {x y : List Gk} (hx : x.length ≤ 1000) (hy : y.length ≤ 1000) (ids : List Int) (k : Bool → Option ρ) : bw (fun (v225 : Int) kk227 => dH x (bK x) (JO ids) y v225 (fun u226 => kk227 u226) (fun z => k (!(ige z 0))) (fun _ => k true)) (0 : Int) = k (ke x y (fun u => ids.contains u.1)) := by
 have h := ZT (ρ := ρ) hx hy ids (k true) (k true) (k false)
 have e : (fun z : Int => ifb (!(ige z 0)) (k true) (k false)) = fun z => k (!(ige z 0)) := by
  funext z
  cases (!(ige z 0)) <;> rfl
 rw [e] at h
 rw [h]
 cases ke x y (fun u => ids.contains u.1) <;> rfl
theorem acZ {x y : List Cmp} (hx : x.length ≤ 1000) (hp : ∀ c ∈ x, c.2.2.1.length ≤ 1000 ∧ c.2.2.2.1.length ≤ 1000) (hy : y.length ≤ 1000) (K : Option Bool) : bw (fun (v228 : Int) kk230 => nq x (bK x) y v228 (fun u229 => kk230 u229) (fun z44 => some z44) (fun _ => K)) (0 : Int) = if (x.all fun c => Nk c y) = true then K else some false := by
 refine (gK x (fun c => !Nk c y) (fun _ => some false) (some false) K (fun _ => rfl) (fun i c hi hc kn => ?_) (fun kn => ?_)).trans ?_
 rotate_left
 ·try dsimp only
  unfold nq
  rw [bX]
 ·rw [List.all_eq_not_any_not]
  cases x.any fun c => !Nk c y <;> rfl
 ·try dsimp only
  unfold nq
  have h := hp c (List.mem_of_getElem? hc)
  rw [bC hi, bt hc]
  refine (XO hy c h.1 h.2 _ (kn ((i : Int) + 1)) (some false) (fun j => by rw [show ige (j : Int) 0 = true from decide_eq_true (by omega), bv hi (by omega)]; rfl)).trans ?_
  cases Nk c y <;> rfl
end
theorem part_ok {s b : bH} (hs : jt s) (hb : jt b) : BB s b = some (aas s b) := by
 have g1 := hs.gauges; have g2 := hs.uses; have g3 := hs.loans; have g4 := hs.compares
 have b1 := hb.gauges; have b2 := hb.uses; have b3 := hb.loans; have b4 := hb.compares
 unfold BB ND aas
 rw [acg, acf]
 refine (cI s.2.1 (fun i => JO (YJ (s.1, s.2.1.take i, s.2.2))) (some _) rfl (fun i g hi hg kn => ?_) (fun kn => ?_))
 ·try dsimp only
  unfold rc
  rw [bC hi, bt hg, bv hi (by omega)]
  unfold YJ
  dsimp only
  rw [take_succ hg, List.map_append, List.map_singleton, tC]
 ·try dsimp only
  unfold rc
  rw [bX, List.take_length]
  try dsimp only
  rw [show YJ (s.1, s.2.1, s.2.2) = YJ s from rfl]
  refine (acZ g4 hs.piles b4 _).trans ?_
  rw [show (ke s.2.2.2.2.1 b.2.2.2.2.1 fun _ => true) = s.2.2.2.2.1.all fun c => Nk c b.2.2.2.2.1 from rfl]
  by_cases hc : (s.2.2.2.2.1.all fun c => Nk c b.2.2.2.2.1) = true
  case neg => rw [if_neg hc, Bool.eq_false_iff.2 hc]; rfl
  rw [if_pos hc, hc, Bool.true_and]
  by_cases hf : s.1 = b.1
  case neg =>
   have ef : (fo s.1.1 b.1.1 && (fo s.1.2 b.1.2 && true)) = false := by
    rw [Prod.ext_iff] at hf
    simp [fo]
    omega
   rw [ef, b7, decide_eq_false hf]
   rfl
  have ef : (fo s.1.1 b.1.1 && (fo s.1.2 b.1.2 && true)) = true := by simp [fo, hf]
  rw [ef, eD, decide_eq_true hf, Bool.true_and]
  refine (acY g1 b1 _ _ _).trans ?_
  cases ke s.2.1 b.2.1 fun _ => true
  case false => rfl
  rw [if_pos rfl, Bool.true_and]
  refine (ZU g2 b2 _ _ _ _).trans ?_
  cases ke s.2.2.1 b.2.2.1 fun u => (YJ s).contains u.1
  case false => rfl
  rw [if_pos rfl, Bool.true_and]
  refine (ZU b2 g2 _ _ _ _).trans ?_
  cases ke b.2.2.1 s.2.2.1 fun u => (YJ s).contains u.1
  case false => rfl
  rw [if_pos rfl, Bool.true_and]
  refine (ZT g3 b3 _ _ _ _).trans ?_
  cases ke s.2.2.2.1 b.2.2.2.1 fun u => (YJ s).contains u.1
  case false => rfl
  rw [if_pos rfl, Bool.true_and]
  exact acX b3 g3 _ some
end Go.Proofs.ZzM
end
noncomputable section
namespace Go.Proofs.ZzM
open Go Go.Am
def tf (x : List Int) (y : List Int) (l : Lk) : List Int := if gv x l.2.1 = fP then y else y.set l.1.toNat (min (gv y l.1) (l.2.2 + gv x l.2.1))
def Sd (L : List Lk) (N : Nat) (x : List Int) : List Int := L.foldl (tf x) (List.replicate N fP)
def exL (L : List Lk) (N : Nat) (to : Int) : Nat → List Int
 | 0 => (List.replicate N fP).set to.toNat 0
 | k + 1 => Sd L N (exL L N to k)
def mi (L : List Lk) (N : Nat) (to : Int) (most : Nat) : List (List Int) := (List.range (most + 1)).map (exL L N to)
section
variable {L : List Lk} {N : Nat}
theorem My (x y : List Int) (l : Lk) : (tf x y l).length = y.length := by unfold tf; split <;> simp
theorem Dv (x : List Int) : ∀ (M : List Lk) (y : List Int), (M.foldl (tf x) y).length = y.length
 | [], y => rfl
 | l :: M, y => by rw [List.foldl_cons, Dv x M, My]
theorem WN (x : List Int) : (Sd L N x).length = N := by unfold Sd; rw [Dv]; simp
theorem Ue (to : Int) (k : Nat) : (exL L N to k).length = N := by
 cases k with
 | zero => simp [exL]
 | succ k => exact WN _
def Lim (B : Int) (x : List Int) : Prop := ∀ v : Int, gv x v ≠ fP → -B ≤ gv x v ∧ gv x v ≤ B
theorem gv_out {x : List Int} {v : Int} (h : ¬ v.toNat < x.length) : gv x v = 0 := by
 unfold gv
 rw [List.getElem?_eq_none (by omega)]
 rfl
theorem YD {B : Int} (hB : 0 ≤ B) : Lim B (List.replicate N fP) := by
 intro v hv
 by_cases h : v.toNat < N
 ·exfalso; apply hv
  unfold gv
  rw [List.getElem?_replicate, if_pos h]
  rfl
 ·rw [gv_out (by simpa using h)]; omega
theorem YC {B : Int} {y : List Int} (hy : Lim B y) {u : Int} (hu : 0 ≤ u) (hl : u.toNat < y.length) {a : Int} (ha : a ≠ fP → -B ≤ a ∧ a ≤ B) : Lim B (y.set u.toNat a) := by
 intro v hv
 by_cases h : v.toNat = u.toNat
 ·have : gv (y.set u.toNat a) v = a := by
   unfold gv
   rw [h, List.getElem?_set_self hl]
   rfl
  rw [this] at hv ⊢
  exact ha hv
 ·have : gv (y.set u.toNat a) v = gv y v := by
   unfold gv
   rw [List.getElem?_set_ne (fun e => h e.symm)]
  rw [this] at hv ⊢
  exact hy v hv
theorem aaG (hS : fN L N) {B : Int} (hB : 0 ≤ B) (hB2 : B ≤ 1000000000000000000) {x y : List Int} (hx : Lim B x) (hy : Lim (B + 4503599627370496) y) (hl : y.length = N) {l : Lk} (hm : l ∈ L) : Lim (B + 4503599627370496) (tf x y l) := by
 unfold tf
 split
 ·exact hy
 ·rename_i hf
  have h1 := hS.inr l hm
  have h2 := hS.most l hm
  have h3 := hx _ hf
  refine YC hy h1.1.1 (by omega) fun ha => ?_
  by_cases h4 : gv y l.1 = fP
  ·rw [h4] at ha ⊢
   have : min fP (l.2.2 + gv x l.2.1) = l.2.2 + gv x l.2.1 := by unfold fP; omega
   rw [this]; omega
  ·have := hy _ h4
   omega
theorem Vp (hS : fN L N) {B : Int} (hB : 0 ≤ B) (hB2 : B ≤ 1000000000000000000) {x : List Int} (hx : Lim B x) : ∀ (M : List Lk), (∀ l ∈ M, l ∈ L) → ∀ y : List Int, y.length = N → Lim (B + 4503599627370496) y → Lim (B + 4503599627370496) (M.foldl (tf x) y)
 | [], _, y, _, hy => hy
 | l :: M, hM, y, hl, hy => by
   rw [List.foldl_cons]
   exact Vp hS hB hB2 hx M (fun m hm => hM m (by simp [hm])) _ (by rw [My, hl]) (aaG hS hB hB2 hx hy hl (hM l (by simp)))
theorem T5 (hS : fN L N) {to : Int} (ht : 0 ≤ to ∧ to < N) : ∀ k : Nat, k ≤ 200 → Lim (k * 4503599627370496) (exL L N to k)
 | 0, _ => by
   unfold exL
   exact YC (YD (by omega)) ht.1 (by simp; omega) (fun _ => by omega)
 | k + 1, hk => by
   have := Vp hS (B := k * 4503599627370496) (by omega) (by omega) (T5 hS ht k (by omega)) L (fun _ h => h) (List.replicate N fP) (by simp) (YD (by omega))
   unfold exL Sd
   have e : (((k + 1 : Nat) : Int) * 4503599627370496) = (k : Int) * 4503599627370496 + 4503599627370496 := by push_cast; omega
   rw [e]
   exact this
theorem R8 {ρ : Type} (hN : N ≤ 1000) (K : List Int → Option ρ) {f : Int × List Int → (Int × List Int → Option ρ) → Option ρ}
 (hf : ∀ (v : Int × List Int) kk, f v kk = vO (N : Int) v.1 v.2 (fun u34 u35 => kk (u34, u35)) K) : bw f ((0 : Int), List.replicate N (0 : Int)) = K (List.replicate N fP) := by
 refine cI (List.replicate N (0 : Int)) (fun i => List.replicate i fP ++ List.replicate (N - i) (0 : Int)) _ (by simp) (fun i a hi ha kn => ?_) (fun kn => ?_)
 ·rw [hf]
  dsimp only
  unfold vO
  rw [List.length_replicate] at hi
  have hlen : (List.replicate i fP ++ List.replicate (N - i) (0 : Int)).length = N := by simp; omega
  have e1 : ilt (i : Int) (N : Int) = true := decide_eq_true (by omega)
  rw [bI e1, show dz (List.replicate i fP ++ List.replicate (N - i) (0 : Int)) = (N : Int) by unfold dz; rw [hlen], ir (by omega) (by omega), i6 (by rw [hlen]; omega), bG (by omega) (by omega)]
  congr 2
  rw [Int.toNat_natCast]
  rw [List.set_append_right _ _ (by simp), List.length_replicate, Nat.sub_self]
  rw [show N - i = (N - (i + 1)) + 1 by omega, List.replicate_succ, List.set_cons_zero, List.replicate_succ']
  simp
 ·rw [hf]
  dsimp only
  unfold vO
  rw [List.length_replicate]
  have e1 : ilt (N : Int) (N : Int) = false := decide_eq_false (by omega)
  rw [bz e1]
  simp
theorem okN (hN : N ≤ 1000) {ρ : Type} (x : Option ρ) : ca ((ile (0 : Int) (N : Int)) && (bZ (Int.toNat (N : Int)))) x = x := by
 rw [dh]
 rw [Int.toNat_natCast, bD (by omega), Bool.and_true]
 exact decide_eq_true (by omega)
theorem YB {ρ : Type} (hS : fN L N) {B : Int} (hB : 0 ≤ B) (hB2 : B ≤ 1000000000000000000) {x : List Int} (hx : Lim B x) (hxl : x.length = N) (K : List Int → Option ρ) :
 bw (fun (v20 : (Val (.pair tI (.slice tI)))) kk23 => Ay x L (bK L) v20.1 v20.2 (fun u21 u22 => kk23 (u21, u22)) K) ((0 : Int), List.replicate N fP) = K (Sd L N x) := by
 have hl3 := hS.len
 refine cI L (fun i => (L.take i).foldl (tf x) (List.replicate N fP)) _ rfl (fun i l hi hl kn => ?_) (fun kn => ?_)
 ·try dsimp only
  unfold Ay
  have hm := List.mem_of_getElem? hl
  have h1 := hS.inr l hm
  have h2 := hS.most l hm
  rw [bC hi, bt hl, l7 h1.2.1 (by omega), take_succ hl, List.foldl_append, bv hi (by omega)]
  have hlen : ((L.take i).foldl (tf x) (List.replicate N fP)).length = N := by rw [Dv]; simp
  generalize (L.take i).foldl (tf x) (List.replicate N fP) = y at hlen ⊢
  by_cases hf : gv x l.2.1 = fP
  ·rw [bz (by rw [hf]; rfl)]
   simp only [List.foldl_cons, List.foldl_nil]
   unfold tf
   rw [if_pos hf]
  ·have h3 := hx _ hf
   rw [bI (bne_iff_ne.2 hf), show dz y = (N : Int) by unfold dz; rw [hlen], ir h1.1.1 h1.1.2, i6 (by omega), l7 h1.2.1 (by omega), bG (by omega) (by omega), ir h1.1.1 h1.1.2, i6 (by omega), bv hi (by omega)]
   simp only [List.foldl_cons, List.foldl_nil]
   unfold tf
   rw [if_neg hf, IT]
 ·try dsimp only
  unfold Ay
  rw [bX, List.take_length]
  rfl
theorem aaY {ρ : Type} : @NZ ρ = @vO ρ := rfl
theorem jq (to : Int) (m : Nat) : (mi L N to m).length = m + 1 := by simp [mi]
theorem Du {to : Int} {m k : Nat} (hk : k ≤ m) : (mi L N to m)[k]? = some (exL L N to k) := by
 unfold mi
 rw [List.getElem?_map, List.getElem?_range (by omega)]
 rfl
theorem aaX (hS : fN L N) {to : Int} (ht : 0 ≤ to ∧ to < N) {most : Nat} (hm : most ≤ 100) : vk ((N : Int), L) to (most : Int) = some (mi L N to most) := by
 have hN := hS.n60
 unfold vk HB
 dsimp only
 rw [okN (by omega), Int.toNat_natCast]
 refine (R8 (by omega) _ (fun v kk => by rw [bU, List.length_replicate])).trans ?_
 rw [show dz (List.replicate N fP) = (N : Int) by simp [dz], ir ht.1 ht.2, i6 (by simp; omega)]
 refine cI (List.replicate most ()) (fun i => mi L N to i) _ (by simp [mi, exL]) (fun i a hi ha kn => ?_) (fun kn => ?_)
 ·try dsimp only
  unfold F5
  rw [List.length_replicate] at hi
  have e1 : ilt (i : Int) (most : Int) = true := decide_eq_true (by omega)
  rw [bI e1, bU, jq]
  have e2 : (((i + 1 : Nat) : Int) - 1) = (i : Int) := by omega
  rw [e2, bG (by omega) (by omega), show dz (mi L N to i) = ((i + 1 : Nat) : Int) by unfold dz; rw [jq], ir (by omega) (by omega), Int.toNat_natCast, qQ (Du (Nat.le_refl i)), okN (by omega), Int.toNat_natCast]
  rw [aaY]
  refine (R8 (by omega) _ (fun v kk => by rw [bU, List.length_replicate])).trans ?_
  refine (YB hS (B := i * 4503599627370496) (by omega) (by omega) (T5 hS ht i (by omega)) (Ue _ _) _).trans ?_
  rw [dh (bD (by simp only [jq, List.length_singleton]; omega)), bG (by omega) (by omega)]
  congr 2
  unfold mi
  rw [List.range_succ (n := i + 1), List.map_append]
  rfl
 ·try dsimp only
  unfold F5
  rw [List.length_replicate]
  have e1 : ilt (most : Int) (most : Int) = false := decide_eq_false (by omega)
  rw [bz e1]
def JT (L : List Lk) (x : List Int) (good : Int → Bool) (u sum : Int) : Option Nat := L.findIdx? fun l => l.1 == u && (decide (gv x l.2.1 ≠ fP) && good (sum + l.2.2 + gv x l.2.1))
def pA (L : List Lk) (rest : Nat → List Int) (good : Int → Bool) : Nat → Int → Int → List Int → List Int
 | 0, _, _, out => out
 | k + 1, u, sum, out => match JT L (rest k) good u sum with
   | some i => pA L rest good k (L[i]?.getD (0, 0, 0)).2.1 (sum + (L[i]?.getD (0, 0, 0)).2.2) (out ++ [(i : Int)])
   | none => pA L rest good k u sum out
def folL {ρ : Type} (good : Int → Bool) (c0 : Int) (c1 : List (List Int)) (c2 : List Lk) (c3 : Int) (v0 : Int) (v1 : Int) (v2 : Int) (v3 : List Int) (kn : Int → Int → Int → List Int → Option ρ) (k0 : Int × Int × List Int → Option ρ) : Option ρ :=
 ifb (ilt v2 c3) (dn c2 v2 fun e7 => ifb (ieq e7.1 v0) (ck (c0 - (1 : Int)) fun n8 => dn c1 n8 fun e9 => dn e9 e7.2.1 fun e10 => ifb (ine e10 (1152921504606846976 : Int)) (ck (v1 + e7.2.2) fun n11 => ck (c0 - (1 : Int)) fun n12 => dn c1 n12 fun e13 => dn e13 e7.2.1 fun e14 => ck (n11 + e14) fun n15 => ifb (good n15) (ca (bZ ((List.length v3) + (List.length ([v2])))) (ck (v1 + e7.2.2) fun n16 => k0 (e7.2.1, n16, (v3 ++ ([v2]))))) (ck (v2 + (1 : Int)) fun n17 => kn v0 v1 n17 v3)) (ck (v2 + (1 : Int)) fun n18 => kn v0 v1 n18 v3)) (ck (v2 + (1 : Int)) fun n19 => kn v0 v1 n19 v3)) (k0 (v0, v1, v3))
theorem acz {ρ : Type} (hS : fN L N) (good : Int → Bool) {rest : List (List Int)} {k : Nat} {x : List Int} (hr : rest[k]? = some x) (hk : k ≤ 100) (hx : Lim 1000000000000000000 x) (hxl : x.length = N) {u sum : Int} (hs : -1000000000000000000 ≤ sum ∧ sum ≤ 1000000000000000000) {out : List Int} (ho : out.length ≤ 1000)
 (K : Int × Int × List Int → Option ρ) : bw (fun (v : Int × Int × Int × List Int) kk => folL good ((k + 1 : Nat) : Int) rest L (bK L) v.1 v.2.1 v.2.2.1 v.2.2.2 (fun a b c d => kk (a, b, c, d)) K) (u, sum, (0 : Int), out) =
  match JT L x good u sum with | some i => K ((L[i]?.getD (0, 0, 0)).2.1, sum + (L[i]?.getD (0, 0, 0)).2.2, out ++ [(i : Int)]) | none => K (u, sum, out) := by
 have hl3 := hS.len
 refine fK (fun v => ∃ i : Nat, i ≤ L.length ∧ v = (u, sum, (i : Int), out) ∧ ∀ j l, j < i → L[j]? = some l → (l.1 == u && (decide (gv x l.2.1 ≠ fP) && good (sum + l.2.2 + gv x l.2.1))) = false) (fun v => L.length - v.2.2.1.toNat) ?_ ⟨0, by omega, rfl, fun j l h => by omega⟩
 rintro v ⟨i, hi, rfl, hp⟩
 have e0 : (((k + 1 : Nat) : Int) - 1) = (k : Int) := by omega
 rcases Nat.lt_or_ge i L.length with h2 | h2
 ·have hl : L[i]? = some L[i] := List.getElem?_eq_getElem h2
  generalize L[i] = l at hl
  have hm := List.mem_of_getElem? hl
  have h1 := hS.inr l hm
  have h4 := hS.most l hm
  have hstep : (l.1 == u && (decide (gv x l.2.1 ≠ fP) && good (sum + l.2.2 + gv x l.2.1))) = false → ∃ y, (∃ i : Nat, i ≤ L.length ∧ y = (u, sum, (i : Int), out) ∧ ∀ j l, j < i → L[j]? = some l → (l.1 == u && (decide (gv x l.2.1 ≠ fP) && good (sum + l.2.2 + gv x l.2.1))) = false) ∧ (L.length - y.2.2.1.toNat < L.length - ((u, sum, (i : Int), out) : Int × Int × Int × List Int).2.2.1.toNat) ∧ y = (u, sum, (i : Int) + 1, out) := fun hf =>
   ⟨_, ⟨i + 1, h2, by rw [show ((i + 1 : Nat) : Int) = (i : Int) + 1 by push_cast; rfl], fun j m hj hm => by
    rcases Nat.lt_succ_iff_lt_or_eq.1 hj with h | rfl
    ·exact hp j m h hm
    ·rw [hl] at hm; cases hm; exact hf⟩, by simp; omega, rfl⟩
  by_cases hf : (l.1 == u && (decide (gv x l.2.1 ≠ fP) && good (sum + l.2.2 + gv x l.2.1))) = true
  ·refine .inl fun kn => ?_
   have hfi : JT L x good u sum = some i := by
    unfold JT
    rw [List.findIdx?_eq_some_iff_getElem]
    obtain ⟨hh, rfl⟩ := List.getElem?_eq_some_iff.1 hl
    exact ⟨h2, hf, fun j hj => by have := hp j _ hj (List.getElem?_eq_getElem (by omega)); rw [this]; simp⟩
   rw [hfi]
   simp only [Bool.and_eq_true, beq_iff_eq, decide_eq_true_eq] at hf
   have h5 := hx _ hf.2.1
   dsimp only
   unfold folL
   rw [bC h2, bt hl, bI (by simp [hf.1]), e0, bG (by omega) (by omega), bt hr, l7 h1.2.1 (by omega), bI (bne_iff_ne.2 hf.2.1), bG (by omega) (by omega), bG (by omega) (by omega), bt hr, l7 h1.2.1 (by omega), bG (by omega) (by omega), bI hf.2.2,
    dh (bD (by simp; omega)), bG (by omega) (by omega), hl]
   rfl
  ·have hf' := Bool.not_eq_true _ ▸ hf
   obtain ⟨y, hy1, hy2, rfl⟩ := hstep hf'
   refine .inr ⟨_, hy1, hy2, fun kn => ?_⟩
   dsimp only
   unfold folL
   rw [bC h2, bt hl, bv h2 (by omega)]
   by_cases g1 : l.1 = u
   ·rw [bI (by simp [g1]), e0, bG (by omega) (by omega), bt hr, l7 h1.2.1 (by omega)]
    by_cases g2 : gv x l.2.1 = fP
    ·rw [bz (by rw [g2]; rfl)]
    ·have h5 := hx _ g2
     have g3 : good (sum + l.2.2 + gv x l.2.1) = false := by simpa [g1, g2] using hf'
     rw [bI (bne_iff_ne.2 g2), bG (by omega) (by omega), bG (by omega) (by omega), bt hr, l7 h1.2.1 (by omega), bG (by omega) (by omega), bz g3]
   ·rw [bz (by simpa using g1)]
 ·refine .inl fun kn => ?_
  obtain rfl : i = L.length := by omega
  have hfi : JT L x good u sum = none := by
   unfold JT
   rw [List.findIdx?_eq_none_iff]
   intro l hl
   obtain ⟨j, hj, rfl⟩ := List.mem_iff_getElem.1 hl
   exact hp j _ hj (List.getElem?_eq_getElem hj)
  rw [hfi]
  dsimp only
  unfold folL
  rw [bX]
def acy {ρ : Type} (good : Int → Bool) (c0 : List (List Int)) (c6 : List Lk) (v0 : Int) (v1 : Int) (v2 : Int) (v3 : List Int) (kn : Int → Int → Int → List Int → Option ρ) (k0 : List Int → Option ρ) : Option ρ :=
 ifb (igt v1 (0 : Int)) (bw (fun (v22 : Int × Int × Int × List Int) kk27 => folL good v1 c0 c6 (bK c6) v22.1 v22.2.1 v22.2.2.1 v22.2.2.2 (fun u23 u24 u25 u26 => kk27 (u23, u24, u25, u26)) (fun z20 => ck (v1 - (1 : Int)) fun n21 => kn z20.1 n21 z20.2.1 z20.2.2)) (v0, v2, (0 : Int), v3)) (k0 v3)
theorem abd {ρ : Type} (c0 : List (List Int)) (c4 : Int) (c6 : List Lk) : @oC ρ c0 c4 c6 = acy (fun n => ieq n c4) c0 c6 := rfl
theorem acx {ρ : Type} (hS : fN L N) (good : Int → Bool) {rest : List (List Int)} {R : Nat → List Int} {k0 : Nat} (hk : k0 ≤ 100) (hr : ∀ k, k < k0 → rest[k]? = some (R k)) (hx : ∀ k, k < k0 → Lim 900000000000000000 (R k) ∧ (R k).length = N) (u : Int) (K : List Int → Option ρ) :
 bw (fun (v : Int × Int × Int × List Int) kk => acy good rest L v.1 v.2.1 v.2.2.1 v.2.2.2 (fun a b c d => kk (a, b, c, d)) K) (u, (k0 : Int), (0 : Int), []) = K (pA L R good k0 u 0 []) := by
 have key := qr (f := fun (v : Int × Int × Int × List Int) kk => acy good rest L v.1 v.2.1 v.2.2.1 v.2.2.2 (fun a b c d => kk (a, b, c, d)) K) (F := fun v => K (pA L R good v.2.1.toNat v.1 v.2.2.1 v.2.2.2))
  (fun v => ∃ k : Nat, v.2.1 = k ∧ k ≤ k0 ∧ (-(((k0 - k : Nat) : Int) * 4503599627370496) ≤ v.2.2.1 ∧ v.2.2.1 ≤ ((k0 - k : Nat) : Int) * 4503599627370496) ∧ v.2.2.2.length ≤ k0 - k) (fun v => v.2.1.toNat) (fun v hv kn hk => ?_) (x := (u, (k0 : Int), 0, [])) ⟨k0, rfl, Nat.le_refl _, by simp, by simp⟩
 ·rw [key]; simp
 ·obtain ⟨u, k', sum, out⟩ := v
  obtain ⟨k, e, h1, h2, h3⟩ := hv
  dsimp only at e h2 h3 hk ⊢
  subst e
  rw [Int.toNat_natCast] at hk ⊢
  unfold acy
  cases k with
  | zero =>
    rw [bz (by rfl)]
    rfl
  | succ k =>
    rw [bI (decide_eq_true (by omega))]
    have hh := hx k (by omega)
    have hlim : Lim 1000000000000000000 (R k) := fun v hv => by have := hh.1 v hv; omega
    refine (acz hS good (hr k (by omega)) (by omega) hlim hh.2 (by omega) (by omega) _).trans ?_
    unfold pA
    have e0 : (((k + 1 : Nat) : Int) - 1) = (k : Int) := by omega
    cases hn : JT L (R k) good u sum with
    | none =>
      dsimp only
      rw [e0, bG (by omega) (by omega), hk _ ⟨k, rfl, by omega, by dsimp only; omega, by dsimp only; omega⟩ (by simp)]
      simp
    | some i =>
      have hi : i < L.length := by
       unfold JT at hn
       exact (List.findIdx?_eq_some_iff_getElem.1 hn).1
      have hl : L[i]? = some L[i] := List.getElem?_eq_getElem hi
      have h4 := hS.most L[i] (List.getElem_mem _)
      dsimp only
      rw [hl]
      simp only [Option.getD_some]
      rw [e0, bG (by omega) (by omega), hk _ ⟨k, rfl, by omega, by dsimp only; omega, by simp; omega⟩ (by simp)]
      simp
def JK (L : List Lk) (N : Nat) (u v : Int) : List Int × Int :=
 if (gu L N u v).2 ≠ 0 then ([], (gu L N u v).2) else
 match (mi L N v N).findIdx? (fun x => gv x u == (gu L N u v).1) with
 | some k => (pA L (exL L N v) (fun n => ieq n (gu L N u v).1) k u 0 [], 0)
 | none => ([], 0)
theorem V2 (hS : fN L N) {u v : Int} (hu : 0 ≤ u ∧ u < N) (hv : 0 ≤ v ∧ v < N) : vn ((N : Int), L) u v = some (JK L N u v) := by
 have hN := hS.n60
 unfold vn HX JK
 rw [B3 hS hu hv, aZ]
 by_cases h : (gu L N u v).2 = 0
 ·rw [bz (by rw [h]; rfl), if_neg (by simp [h]), aaX hS hv (by omega), aZ]
  rw [abd]
  let k0 : Int → Option (List Int × Int) := fun j => bw (fun (v29 : Int × Int × Int × List Int) kk34 => acy (fun n => ieq n (gu L N u v).1) (mi L N v N) L v29.1 v29.2.1 v29.2.2.1 v29.2.2.2 (fun u30 u31 u32 u33 => kk34 (u30, u31, u32, u33)) (fun z28 => some ((z28, (0 : Int)) : List Int × Int))) (u, j, (0 : Int), [])
  refine (iq (mi L N v N) (fun x => gv x u == (gu L N u v).1) k0 (k0 (-1)) (fun i x hi hx kn => ?_) (fun kn => ?_)).trans ?_
  rotate_left
  ·try dsimp only
   unfold oD
   rw [bX]
  ·have hex : ∀ k, k < N + 1 → (mi L N v N)[k]? = some (exL L N v k) := fun k hk => Du (by omega)
   have hlim : ∀ k, k < N + 1 → Lim 900000000000000000 (exL L N v k) ∧ (exL L N v k).length = N := fun k hk => ⟨fun w hw => by
    have := T5 hS hv k (by omega) w hw; omega, Ue _ _⟩
   cases hf : (mi L N v N).findIdx? (fun x => gv x u == (gu L N u v).1) with
   | none =>
     have := qr (f := fun (v29 : Int × Int × Int × List Int) kk34 => acy (fun n => ieq n (gu L N u v).1) (mi L N v N) L v29.1 v29.2.1 v29.2.2.1 v29.2.2.2 (fun u30 u31 u32 u33 => kk34 (u30, u31, u32, u33)) (fun z28 => some ((z28, (0 : Int)) : List Int × Int))) (F := fun _ => some (([], 0) : List Int × Int)) (fun v => v.2.1 = -1 ∧ v.2.2.2 = []) (fun _ => 0) (fun x hx kn hk => by
      unfold acy
      rw [hx.1, hx.2]
      rfl) (x := (u, (-1 : Int), (0 : Int), [])) ⟨rfl, rfl⟩
     exact this
   | some k =>
     have hk := (List.findIdx?_eq_some_iff_getElem.1 hf).1
     rw [jq] at hk
     exact acx hS _ (R := exL L N v) (by omega) (fun j hj => hex j (by omega)) (fun j hj => hlim j (by omega)) u (fun z => some ((z, (0 : Int)) : List Int × Int))
  ·try dsimp only
   unfold oD
   have hxl : x.length = N := by
    have hi' := hi
    rw [jq] at hi'
    rw [Du (by omega)] at hx
    cases hx
    exact Ue _ _
   rw [jq] at hi
   rw [bU, jq, bI (decide_eq_true (by omega)), bt hx, l7 hu.1 (by omega), bG (by omega) (by omega), dA]
 ·rw [bI (bne_iff_ne.2 h), if_pos h]
end
end Go.Proofs.ZzM
end
noncomputable section
namespace Go.Proofs.ZzM
open Go Go.Am
def XI (f : Int → Int → Int) (z : Int) (l : List Int) (d : Int) : Int := match l with | [] => z | x :: _ => f x d
def BM (f : Int → Int → Int) (z : Int) (c : Cmp) : Int := XI f z (cB c.2.2.1 c.2.2.2.1) c.2.1 - XI f z (cB c.2.2.2.1 c.2.2.1) c.2.1
structure ac0 (b : bH) (f : Int → Int → Int) (z : Int) (g : cg) : Prop where
 hi : f g.1 g.2.1 ≤ z + (g.2.2.1 + g.2.2.2.1.2)
 lo : z + (g.2.2.1 + g.2.2.2.1.1) ≤ f g.1 g.2.1
 down : ∀ d e, g.2.1 ≤ d → d ≤ e → f g.1 e ≤ f g.1 d
 loss : ∀ d e, g.2.1 ≤ d → d ≤ e → f g.1 d ≤ f g.1 e + jf b g d e
structure SP (b : bH) (f : Int → Int → Int) (z : Int) : Prop where
 gauge : ∀ g ∈ b.2.1, ac0 b f z g
 cmp : ∀ c ∈ b.2.2.2.2.1, (f8 b c).1 ≤ BM f z c ∧ BM f z c ≤ (f8 b c).2
theorem R9 {b : bH} (h : cW b) {p : Int → Int} (hg : ∀ g ∈ b.2.1, nV b p g) : ∃ f : Int → Int → Int, (∀ g ∈ b.2.1, ac0 b f (p 0) g) ∧ ∀ g ∈ b.2.1, ∀ d ∈ bO b g, f g.1 d = p (fA b g.1 d) := by
 let f : Int → Int → Int := fun id d => match jT b id with | some g => fill b p g d | none => 0
 have hfv : ∀ g ∈ b.2.1, ∀ d, f g.1 d = fill b p g d := fun g hgm d => by
  show (match jT b g.1 with | some g => fill b p g d | none => 0) = _
  rw [yJ h.ids hgm]
 refine ⟨f, fun g hgm => ?_, fun g hgm d hd => by rw [hfv g hgm]; exact Gc h hgm (hg g hgm) hd⟩
 have gf := hg g hgm
 have e0 : f g.1 g.2.1 = p (fA b g.1 g.2.1) := by rw [hfv g hgm]; exact Gc h hgm gf (la g)
 refine ⟨by rw [e0]; exact gf.hi, by rw [e0]; exact gf.lo, fun d e h0 hde => ?_, fun d e h0 hde => ?_⟩
 ·rw [hfv g hgm, hfv g hgm]
  exact (Bz h hgm gf h0 hde).1
 ·rw [hfv g hgm, hfv g hgm]
  exact (Bz h hgm gf h0 hde).2
theorem PW {b : bH} {f : Int → Int → Int} {p : Int → Int} (hm : ∀ g ∈ b.2.1, ∀ d ∈ bO b g, f g.1 d = p (fA b g.1 d)) {l : List Int} {day : Int} (hl : ∀ x ∈ l, ∃ g ∈ b.2.1, g.1 = x ∧ day ∈ bO b g) : p (FM b l day) = XI f (p 0) l day := by
 cases l with
 | nil => rfl
 | cons x t =>
   obtain ⟨g, q1, rfl, q3⟩ := hl x (by simp)
   exact (hm g q1 day q3).symm
theorem Jg {b : bH} {f : Int → Int → Int} {p : Int → Int} (hm : ∀ g ∈ b.2.1, ∀ d ∈ bO b g, f g.1 d = p (fA b g.1 d)) {c : Cmp}
 (hl : ∀ x, x ∈ cB c.2.2.1 c.2.2.2.1 ∨ x ∈ cB c.2.2.2.1 c.2.2.1 → ∃ g ∈ b.2.1, g.1 = x ∧ c.2.1 ∈ bO b g) : p (cx b c) - p (cy b c) = BM f (p 0) c := by
 unfold BM
 rw [DA, Dz, PW hm (fun x hx => hl x (.inl hx)), PW hm (fun x hx => hl x (.inr hx))]
theorem LB {b : bH} (h : cW b) (f : Int → Int → Int) (z : Int) {l : List Int} {day : Int} (hl : ∀ x ∈ l, ∃ g ∈ b.2.1, g.1 = x ∧ day ∈ bO b g) : LC b f z (FM b l day) = XI f z l day := by
 rw [DI h f z hl]
 unfold XI
 cases l <;> rfl
theorem GI {b : bH} (h : cW b) {f : Int → Int → Int} {z : Int} {c : Cmp} (hl : ∀ x, x ∈ cB c.2.2.1 c.2.2.2.1 ∨ x ∈ cB c.2.2.2.1 c.2.2.1 → ∃ g ∈ b.2.1, g.1 = x ∧ c.2.1 ∈ bO b g) : LC b f z (cx b c) - LC b f z (cy b c) = BM f z c := by
 unfold BM
 rw [DA, Dz, LB h f z (fun x hx => hl x (.inl hx)), LB h f z (fun x hx => hl x (.inr hx))]
theorem LA {b : bH} (h : cW b) {f : Int → Int → Int} {z : Int} {g : cg} (hg : g ∈ b.2.1) (hh : ac0 b f z g) : nV b (LC b f z) g := by
 have q : ∀ d ∈ bO b g, LC b f z (fA b g.1 d) = f g.1 d := fun d hd => zf h f z hg hd
 have e0 := q g.2.1 (la g)
 refine ⟨?_, ?_, fun d e hd he hde => ?_, fun d e hd he hde => ?_⟩
 ·rw [e0, m6]; exact hh.hi
 ·rw [e0, m6]; exact hh.lo
 ·rw [q d hd, q e he]; exact hh.down d e (h.day hg hd).1 hde
 ·rw [q d hd, q e he]; exact hh.loss d e (h.day hg hd).1 hde
section
variable {b : bH} {c : Cmp}
theorem aap (h : cW b) {p : Int → Int} (hp : Pot (bB b) p) : ∃ f, SP b f (p 0) ∧ ∀ g ∈ b.2.1, ∀ d ∈ bO b g, f g.1 d = p (fA b g.1 d) := by
 obtain ⟨hg, hc⟩ := (M3 h).1 hp
 obtain ⟨f, hf, hm⟩ := R9 h hg
 refine ⟨f, ⟨hf, fun c hcm => ?_⟩, hm⟩
 have := Jg hm (c := c) (fun x hx => my h hcm hx)
 have := hc c hcm
 omega
theorem aaO (h : cW b) {f : Int → Int → Int} {z : Int} (hh : SP b f z) : Pot (bB b) (LC b f z) := by
 refine (M3 h).2 ⟨fun g hg => LA h hg (hh.gauge g hg), fun c hc => ?_⟩
 have := GI (f := f) (z := z) h (c := c) (fun x hx => my h hc hx)
 have := hh.cmp c hc
 omega
theorem VH (h : cW b) {d : Cmp} (hd : d ∈ b.2.2.2.2.1) : ∀ x, x ∈ cB d.2.2.1 d.2.2.2.1 ∨ x ∈ cB d.2.2.2.1 d.2.2.1 → ∃ g ∈ (bQ b c).2.1, g.1 = x ∧ d.2.1 ∈ bO (bQ b c) g := by
 intro x hx
 obtain ⟨g, q1, q2, q3⟩ := my h hd hx
 exact ⟨g, q1, q2, qF q3⟩
theorem YM (h : cW b) (h' : cW (bQ b c)) {p : Int → Int} (hp : Pot (b8 (bQ b c)) p) : ∃ f, SP b f (p 0) ∧ p (cx (bQ b c) c) - p (cy (bQ b c) c) = BM f (p 0) c := by
 obtain ⟨hg, hc⟩ := (Ga h').1 hp
 obtain ⟨f, hf, hm⟩ := R9 h' hg
 refine ⟨f, ⟨fun g hgm => ?_, fun d hd => ?_⟩, Jg hm fun x hx => my h' vJ hx⟩
 ·have := hf g hgm
  exact ⟨this.hi, this.lo, this.down, this.loss⟩
 ·have := Jg hm (c := d) (VH h hd)
  have := hc d hd
  omega
theorem YL (h : cW b) (h' : cW (bQ b c)) {f : Int → Int → Int} {z : Int} (hh : SP b f z) : Pot (b8 (bQ b c)) (LC (bQ b c) f z) ∧ LC (bQ b c) f z (cx (bQ b c) c) - LC (bQ b c) f z (cy (bQ b c) c) = BM f z c := by
 refine ⟨(Ga h').2 ⟨fun g hg => LA h' hg ?_, fun d hd => ?_⟩, GI h' fun x hx => my h' vJ hx⟩
 ·have := hh.gauge g hg
  exact ⟨this.hi, this.lo, this.down, this.loss⟩
 ·have := GI (f := f) (z := z) h' (c := d) (VH h hd)
  have := hh.cmp d hd
  omega
theorem Qz (h : cW b) : dC (bB b) ((bm b).length + 1) = true ↔ ∃ f z, SP b f z := by
 have := h.sys.n60
 rw [d9 h.sys.links (by omega)]
 constructor
 ·rintro ⟨p, hp⟩
  obtain ⟨f, hf, _⟩ := aap h hp
  exact ⟨f, _, hf⟩
 ·rintro ⟨f, z, hh⟩
  exact ⟨_, aaO h hh⟩
theorem d_max (h : cW b) (h' : cW (bQ b c)) {f : Int → Int → Int} {z : Int} (hh : SP b f z) : dLo b c ≤ BM f z c ∧ BM f z c ≤ dHi b c := by
 have ho : dC (b8 (bQ b c)) ((bm (bQ b c)).length + 1) = true := by rw [nz h h']; exact (Qz h).2 ⟨f, z, hh⟩
 obtain ⟨hp, hd⟩ := YL h h' hh
 have a1 := sj (iE h') (iT h') ho (xy h') (xx h') hp
 have a2 := sj (iE h') (iT h') ho (xx h') (xy h') hp
 unfold dLo dHi
 omega
theorem d_all (h : cW b) (h' : cW (bQ b c)) (ho : dC (bB b) ((bm b).length + 1) = true) {t : Int} (h1 : dLo b c ≤ t) (h2 : t ≤ dHi b c) : ∃ f z, SP b f z ∧ BM f z c = t := by
 rw [← nz h h'] at ho
 obtain ⟨p, hp, hd⟩ := Y6 (iE h') (iT h') ho (xy h') (xx h') h1 h2
 obtain ⟨f, hf, he⟩ := YM h h' hp
 exact ⟨f, _, hf, by rw [← he]; exact hd⟩
theorem acG (h : cW b) (h' : cW (bQ b c)) (ho : dC (bB b) ((bm b).length + 1) = true) : dLo b c ≤ dHi b c := by
 rw [← nz h h'] at ho
 exact BL (iE h') (iT h') ho (xy h') (xx h')
structure Pred (b : bH) (c : Cmp) (s : Int × Int) : Prop where
 good : cW b
 good2 : cW (bQ b (bj c))
 order : T3 b c ≤ yI b c
 has : ∃ f z, SP b f z
 ends : s.1 - T3 b c ≤ s.2 - yI b c
 bd : -9007199254740992 ≤ s.1 - T3 b c ∧ s.2 - yI b c ≤ 9007199254740992
 all : ∀ f z, SP b f z → s.1 - T3 b c ≤ BM f z c ∧ BM f z c ≤ s.2 - yI b c
 each : ∀ t, s.1 - T3 b c ≤ t → t ≤ s.2 - yI b c → ∃ f z, SP b f z ∧ BM f z c = t
theorem Qb (hp : (dv b c).2 = 0) : Pred b c (dv b c).1 := by
 obtain ⟨h, h'⟩ := mH hp
 rw [JI h h'] at hp ⊢
 by_cases ho : dC (bB b) ((bm b).length + 1) = true
 ·rw [if_pos ho] at hp ⊢
  obtain ⟨h1, h2⟩ := S0 hp
  rw [h2]
  have e1 : T3 b (bj c) = T3 b c := rfl
  have e2 : yI b (bj c) = yI b c := rfl
  rw [e1, e2] at *
  have s1 : dLo b (bj c) + T3 b c - T3 b c = dLo b (bj c) := by omega
  have s2 : dHi b (bj c) + yI b c - yI b c = dHi b (bj c) := by omega
  refine ⟨h, h', h1, (Qz h).1 ho, ?_, ?_, fun f z hh => ?_, fun t t1 t2 => ?_⟩
  ·simp only
   rw [s1, s2]
   exact acG h h' ho
  ·simp only
   rw [s1, s2]
   rw [← nz h h'] at ho
   have a1 := VG (iE h') (iT h') ho (xy h') (xx h')
   have a2 := VG (iE h') (iT h') ho (xx h') (xy h')
   unfold dLo dHi
   omega
  ·simp only
   rw [s1, s2]
   exact d_max (c := bj c) h h' hh
  ·simp only at t1 t2
   rw [s1] at t1
   rw [s2] at t2
   exact d_all (c := bj c) h h' ho t1 t2
 ·rw [if_neg ho] at hp
  simp at hp
end
end Go.Proofs.ZzM
end
noncomputable section
namespace Go.Proofs.ZzM
open Go Go.Am
theorem MP {b : bH} (h : cW b) : (eN b).length = (bB b).length := by
 have g0 : ∀ i, ((b.2.1.take i).mapIdx (dr b)).flatten.length = ((b.2.1.take i).flatMap (de b)).length := by
  intro i
  induction i with
  | zero => simp
  | succ i ih =>
    rcases Nat.lt_or_ge i b.2.1.length with hi | hi
    ·have hg : b.2.1[i]? = some b.2.1[i] := List.getElem?_eq_getElem hi
     rw [ki _ hg, take_succ hg, List.flatMap_append, List.flatten_append, List.length_append, List.length_append, ih]
     congr 1
     unfold dr de
     simp only [List.flatMap_cons, List.flatMap_nil, List.append_nil, List.flatten_cons, List.flatten_nil, List.length_append]
     rw [i0 _ _ (fun _ => rfl), i0 _ _ (fun _ => rfl)]
     rfl
    ·rw [List.take_of_length_le (by omega)] at ih ⊢
     exact ih
 have c0 := Xb (b := b) b.2.2.2.2.1.length (Nat.le_refl _)
 have g1 := g0 b.2.1.length
 rw [List.take_length] at c0 g1
 unfold eN bB
 rw [List.length_append, List.length_append, g1, c0.1, c0.2]
theorem RZ {b : bH} : ∀ s ∈ (b.2.1.mapIdx (dr b)).flatten, (s.1 = 1 ∨ s.1 = 2) ∧ 0 ≤ s.2 ∧ s.2 < b.2.1.length := by
 intro s hs
 obtain ⟨l, hl, hm⟩ := List.mem_flatten.1 hs
 obtain ⟨i, hi, rfl⟩ := List.mem_iff_getElem.1 hl
 rw [List.length_mapIdx] at hi
 rw [List.getElem_mapIdx] at hm
 unfold dr at hm
 rcases List.mem_append.1 hm with h | h
 ·simp at h; subst h; exact ⟨.inl rfl, by dsimp only; omega, by dsimp only; omega⟩
 ·obtain ⟨_, _, h⟩ := List.mem_flatMap.1 h
  simp at h; subst h; exact ⟨.inr rfl, by dsimp only; omega, by dsimp only; omega⟩
theorem Si {l : List Cmp} : ∀ s ∈ (l.mapIdx fun i (_ : Cmp) => [((3 : Int), (i : Int)), ((3 : Int), (i : Int))]).flatten, s.1 = 3 ∧ 0 ≤ s.2 ∧ s.2 < l.length := by
 intro s hs
 obtain ⟨m, hl, hm⟩ := List.mem_flatten.1 hs
 obtain ⟨i, hi, rfl⟩ := List.mem_iff_getElem.1 hl
 rw [List.length_mapIdx] at hi
 rw [List.getElem_mapIdx] at hm
 simp at hm; subst hm
 exact ⟨rfl, by dsimp only; omega, by dsimp only; omega⟩
theorem aaB (b : bH) (c : Cmp) : ∃ S : List (Int × Int), eN (bQ b c) = S ++ [(3, (b.2.2.2.2.1.length : Int)), (3, (b.2.2.2.2.1.length : Int))] ∧ ∀ s ∈ S, ¬ (s.1 = 3 ∧ s.2 = (b.2.2.2.2.1.length : Int)) := by
 refine ⟨((bQ b c).2.1.mapIdx (dr (bQ b c))).flatten ++ (b.2.2.2.2.1.mapIdx fun i (_ : Cmp) => [((3 : Int), (i : Int)), ((3 : Int), (i : Int))]).flatten, ?_, fun s hs => ?_⟩
 ·unfold eN
  rw [show (bQ b c).2.2.2.2.1 = b.2.2.2.2.1 ++ [c] from rfl, List.mapIdx_append, List.flatten_append, List.append_assoc]
  simp
 ·rcases List.mem_append.1 hs with h | h
  ·have := RZ s h; omega
  ·have := Si s h; omega
theorem Mc (b : bH) (c : Cmp) (h : cW (bQ b c)) : bB (bQ b c) = b8 (bQ b c) ++ [(cy (bQ b c) c, cx (bQ b c) c, (f8 (bQ b c) c).2), (cx (bQ b c) c, cy (bQ b c) c, -(f8 (bQ b c) c).1)] := by
 rw [Ub]
 unfold bB
 rw [show (bQ b c).2.2.2.2.1 = b.2.2.2.2.1 ++ [c] from rfl, List.flatMap_append, List.append_assoc]
 simp [cu]
def abJ (b : bH) (c : Cmp) (s t : Int) : Int := dst (b8 (bQ b c)) ((bm (bQ b c)).length + 1) s t
abbrev End : Type := Int × Int × Int
abbrev DL : Type := (Int × Int) × End × End
def endP (b : bH) (c : Cmp) (s t : Int) : End :=
 (abJ b c s t, abJ b c s (cy (bQ b c) c) + (f8 b c).2 + abJ b c (cx (bQ b c) c) t, abJ b c s (cx (bQ b c) c) - (f8 b c).1 + abJ b c (cy (bQ b c) c) t)
def worth0 : DL := ((0, 0), (0, 0, 0), (0, 0, 0))
def PG (b : bH) (n : Int × Int) (c : Cmp) : DL :=
 ((dv b c).1, endP b (bj c) 0 (lT (bQ b (bj c)) n.1 n.2), endP b (bj c) (lT (bQ b (bj c)) n.1 n.2) 0)
def O2 (b : bH) (n : Int × Int) (c : Cmp) : DL × Int := if (dv b c).2 ≠ 0 then (worth0, (dv b c).2) else (PG b n c, 0)
theorem DY {b : bH} {c : Cmp} (h : (dv b c).2 = 0) : dC (bB b) ((bm b).length + 1) = true := by
 obtain ⟨g1, g2⟩ := mH h
 rw [JI g1 g2] at h
 by_cases ho : dC (bB b) ((bm b).length + 1) = true
 ·exact ho
 ·rw [if_neg ho] at h; cases h
section
variable {b : bH} {c : Cmp} (h : cW b) (h' : cW (bQ b c)) (ho : dC (bB b) ((bm b).length + 1) = true)
include h h' ho
theorem pz {s t : Int} (hs : 0 ≤ s ∧ s < ((bm (bQ b c)).length + 1 : Nat)) (ht : 0 ≤ t ∧ t < ((bm (bQ b c)).length + 1 : Nat)) : -9007199254740992 ≤ abJ b c s t ∧ abJ b c s t ≤ 9007199254740992 :=
 VG (iE h') (iT h') (by rw [nz h h']; exact ho) hs ht
theorem qv (B : bH) {s t : Int} (hs : 0 ≤ s ∧ s < ((bm (bQ b c)).length + 1 : Nat)) (ht : 0 ≤ t ∧ t < ((bm (bQ b c)).length + 1 : Nat)) : cp (B, (((bm (bQ b c)).length : Int) + 1, b8 (bQ b c))) t s = some (abJ b c s t) := by
 rw [show (((bm (bQ b c)).length : Int) + 1) = (((bm (bQ b c)).length + 1 : Nat) : Int) by push_cast; rfl, Sx (iE h') ht hs, qL (iE h') (iT h') hs ht, if_pos (by rw [nz h h']; exact ho)]
 rfl
theorem XL : (-4503599627370496 ≤ (f8 b c).1 ∧ (f8 b c).1 ≤ 4503599627370496) ∧ (-4503599627370496 ≤ (f8 b c).2 ∧ (f8 b c).2 ≤ 4503599627370496) := by
 have hs := h'.sys
 have e := Mc b c h'
 have m1 := hs.most (cy (bQ b c) c, cx (bQ b c) c, (f8 (bQ b c) c).2) (by rw [e]; simp)
 have m2 := hs.most (cx (bQ b c) c, cy (bQ b c) c, -(f8 (bQ b c) c).1) (by rw [e]; simp)
 have e2 : f8 (bQ b c) c = f8 b c := rfl
 rw [e2] at m1 m2
 dsimp only at m1 m2
 omega
theorem VD (B : bH) {s t : Int} (hs : 0 ≤ s ∧ s < ((bm (bQ b c)).length + 1 : Nat)) (ht : 0 ≤ t ∧ t < ((bm (bQ b c)).length + 1 : Nat)) :
 lL t s (B, (((bm (bQ b c)).length : Int) + 1, b8 (bQ b c))) (cy (bQ b c) c) (f8 b c) (cx (bQ b c) c) = some (endP b c s t) := by
 have hx := xy h'
 have hy := xx h'
 have b1 := pz h h' ho hs ht
 have b2 := pz h h' ho hs hy
 have b3 := pz h h' ho hx ht
 have b4 := pz h h' ho hs hx
 have b5 := pz h h' ho hy ht
 have b6 := XL h h' ho
 unfold lL ug
 rw [qv h h' ho B hs ht, aZ, qv h h' ho B hs hy, aZ, bG (by omega) (by omega), qv h h' ho B hx ht, aZ, bG (by omega) (by omega), qv h h' ho B hs hx, aZ, bG (by omega) (by omega), qv h h' ho B hy ht, aZ, bG (by omega) (by omega)]
 rfl
end
theorem Qd {B : bH} (h : cW B) (hn : ∀ g ∈ B.2.1, I64 g.2.2.2.2.1.1) (s : Sys) (l : List Int) (c : Cmp) : lM l (B, s) c = some (atP (bm B) l c.2.1) := by
 unfold lM uh
 cases l with
 | nil => rw [bU]; rfl
 | cons x t =>
   rw [bU, bz (beq_eq_false_iff_ne.2 (by simp; omega)), show (0 : Int) = ((0 : Nat) : Int) from rfl, bt (show (x :: t)[0]? = some x from rfl), EY h hn, aZ]
   rfl
theorem YQ {ρ : Type} {b : bH} {c : Cmp} (h : cW (bQ b c)) (K : List Lk → Option ρ) :
 bw (fun (v17 : Val bq) kk20 => jN (b.2.2.2.2.1.length : Int) (eN (bQ b c)) (bB (bQ b c)) (bK (bB (bQ b c))) v17.1 v17.2 (fun u18 u19 => kk20 (u18, u19)) K) ((0 : Int), []) = K (b8 (bQ b c)) := by
 have hl3 := h.sys.len
 have hsl := MP h
 obtain ⟨S, hS, hSk⟩ := aaB b c
 have hL := Mc b c h
 have hSl : S.length = (b8 (bQ b c)).length := by
  rw [hS, hL, List.length_append, List.length_append] at hsl
  simpa using hsl
 generalize b8 (bQ b c) = H at hL hSl ⊢
 rw [hS]
 generalize bB (bQ b c) = L at hL hsl hl3 ⊢
 have hLl : L.length = H.length + 2 := by rw [hL]; simp
 refine cI L (fun i => (L.take i).take H.length) _ (by simp) (fun i l hi hl kn => ?_) (fun kn => ?_)
 ·try dsimp only
  unfold jN
  rw [bC hi, bt hl]
  rcases Nat.lt_or_ge i H.length with h1 | h1
  ·have hs : (S ++ [((3 : Int), (b.2.2.2.2.1.length : Int)), (3, (b.2.2.2.2.1.length : Int))])[i]? = some S[i] := by
    rw [List.getElem?_append_left (by omega), List.getElem?_eq_getElem]
   have hk := hSk S[i] (List.getElem_mem _)
   have e : ((fo (S[i]).1 (3 : Int)) && ((fo (S[i]).2 (b.2.2.2.2.1.length : Int)) && true)) = false := by
    simp [fo]; omega
   have e1 : (L.take i).take H.length = L.take i := List.take_of_length_le (by rw [List.length_take]; omega)
   have e2 : (L.take (i + 1)).take H.length = L.take (i + 1) := List.take_of_length_le (by rw [List.length_take]; omega)
   rw [bt hs, e, bI (by rfl), e1, e2, dh (bD (by rw [List.length_take]; simp; omega)), bv hi (by omega), take_succ hl]
  ·have hs : (S ++ [((3 : Int), (b.2.2.2.2.1.length : Int)), (3, (b.2.2.2.2.1.length : Int))])[i]? = some ((3 : Int), (b.2.2.2.2.1.length : Int)) := by
    rw [List.getElem?_append_right (by omega)]
    have : i - S.length = 0 ∨ i - S.length = 1 := by omega
    rcases this with e | e <;> rw [e] <;> rfl
   have e : ((fo (3 : Int) (3 : Int)) && ((fo (b.2.2.2.2.1.length : Int) (b.2.2.2.2.1.length : Int)) && true)) = true := by simp [fo]
   have e1 : (L.take i).take H.length = (L.take (i + 1)).take H.length := by
    rw [List.take_take, List.take_take]
    congr 1
    omega
   rw [bt hs]
   dsimp only
   rw [e, bz (by rfl), bv hi (by omega), e1]
 ·try dsimp only
  unfold jN
  rw [bX, List.take_length, hL]
  simp
theorem RO {B : bH} (hr : ZP B) (n : Int × Int) {c : Cmp} (hA : c.2.2.1.length ≤ 1000) (hB : c.2.2.2.1.length ≤ 1000) : qz (B, JM B) n c = some (O2 B n c) := by
 unfold qz Ct O2
 have hs := hr.good.size
 rw [show (B, JM B).1 = B from rfl, Xh hs hr.num hA hB, aZ]
 by_cases hp : (dv B c).2 = 0
 ·obtain ⟨g1, g2⟩ := mH hp
  have ho := DY hp
  have e1 : vz B (bj c) = (bQ B (bj c), 0) := by
   unfold vz
   rw [if_neg (by simp [(bE B).2 g1]), if_neg (by simp [(bE _).2 g2])]
  have hn2 : ∀ g ∈ (bQ B (bj c)).2.1, I64 g.2.2.2.2.1.1 := hr.num
  have hC := g2.nC
  have hw : (((bQ B (bj c)).2.2.2.2.1.length : Int) - 1) = (B.2.2.2.2.1.length : Int) := by simp [bQ]
  have hSays : abw (bQ B (bj c)) (B.2.2.2.2.1.length : Int) = (f8 B (bj c), 0) := by
   have e : pG (bQ B (bj c)) (B.2.2.2.2.1.length : Int) = (bj c, 0) := by
    unfold pG
    rw [if_neg (by simp [(bE _).2 g2]), if_neg (by simp [bQ]; omega)]
    simp [bQ]
   unfold abw
   rw [e, if_neg (by simp)]
   rfl
  have hCancel : JL c.2.2.1 c.2.2.2.1 = (cB c.2.2.1 c.2.2.2.1, cB c.2.2.2.1 c.2.2.1, 0) := by
   have hnu := (jF _).1 (g2.nums (vJ (c := bj c)))
   have h6 : mo c.2.2.1 = true ∧ mo c.2.2.2.1 = true := ⟨hnu.2.2.2.2.2.1, hnu.2.2.2.2.2.2⟩
   unfold JL
   rw [h6.1, h6.2]
   rfl
  rw [bz (by rw [hp]; rfl), if_neg (by simp [hp]), show mD B (c.1, c.2.1, c.2.2.1, c.2.2.2.1, (0 : Int), c.2.2.2.2.2) = mD B (bj c) from rfl, ZN hs hr.num (c := bj c) hA hB, aZ, e1]
  dsimp only
  rw [bz (by rfl), bU, hw, bG (by omega) (by omega), acU (g2.inn hn2), aZ, hSays, SI (by omega) (by omega), aZ, hCancel, nS (g2.inn hn2), aZ, ix g2]
  dsimp only
  refine (YQ g2 _).trans ?_
  have ex : cx (bQ B (bj c)) (bj c) = atP (bm (bQ B (bj c))) (cB c.2.2.1 c.2.2.2.1) c.2.1 := rfl
  have ey : cy (bQ B (bj c)) (bj c) = atP (bm (bQ B (bj c))) (cB c.2.2.2.1 c.2.2.1) c.2.1 := rfl
  rw [Qd g2 hn2, aZ, Qd g2 hn2, aZ, EY g2 hn2, aZ, ← ex, ← ey, VD g1 g2 ho _ (eo _) (di _ n), aZ, VD g1 g2 ho _ (di _ n) (eo _), aZ]
  rfl
 ·rw [bI (bne_iff_ne.2 hp), if_pos hp]
  rfl
end Go.Proofs.ZzM
end
noncomputable section
namespace Go.Proofs.ZzM
open Go Go.Am
abbrev abA : Type := bH × (Int × Int) × Bool × Int × List Int
def Zk : abA := (kP, (0, 0), false, 0, [])
def xE (L : List Lk) : Int → Int → List Int → Int × Int × Bool
 | u, s, [] => (u, s, true)
 | u, s, i :: t => if (L[i.toNat]?.getD (0, 0, 0)).1 = u then xE L (L[i.toNat]?.getD (0, 0, 0)).2.1 (s + (L[i.toNat]?.getD (0, 0, 0)).2.2) t else (0, 0, false)
def Sz (L : List Lk) (i : Int) : Bool := decide (i < 0) || decide ((L.length : Int) ≤ i)
def jR (L : List Lk) (l : List Int) : Int := if 80 < l.length then 2 else if l.any (Sz L) then 1 else 0
def fk (L : List Lk) (u v : Int) (l : List Int) : Int × Int :=
 if jR L l ≠ 0 then (0, jR L l) else if (xE L u 0 l).2.2 = true ∧ (xE L u 0 l).1 = v then ((xE L u 0 l).2.1, 0) else (0, 8)
def abR (u : Int) (w : Int × Int × Bool) : Int := if w.2.2 = true ∧ w.1 = u ∧ w.2.1 < 0 then 0 else 8
def su (L : List Lk) (l : List Int) : Int :=
 if jR L l ≠ 0 then jR L l else match l with
 | [] => 8
 | i :: _ => abR (L[i.toNat]?.getD (0, 0, 0)).1 (xE L (L[i.toNat]?.getD (0, 0, 0)).1 0 l)
section
variable {L : List Lk} {N : Nat}
theorem Mk (N : Int) (hL : L.length ≤ 1000) (l : List Int) : nM (N, L) l = some (jR L l) := by
 unfold nM yo jR
 dsimp only
 rw [bU]
 by_cases h : 80 < l.length
 ·rw [bI (decide_eq_true (by omega)), if_pos h]
 ·rw [bz (decide_eq_false (by omega)), if_neg h, ← bU l]
  refine (gK l (Sz L) (fun z => ifb (ige z 0) (some 1) (some 0)) (some 1) (some 0) (fun j => by rw [show ige (j : Int) 0 = true from decide_eq_true (by omega)]; rfl) (fun i a hi ha kn => ?_) (fun kn => ?_)).trans ?_
  ·try dsimp only
   unfold kV Sz
   rw [bC hi, bt ha, bv hi (by omega), bU, dA, dA]
   by_cases h1 : a < 0
   ·simp [ilt, h1]
   ·by_cases h2 : (L.length : Int) ≤ a
    ·simp [ilt, ige, h1, h2]
    ·simp [ilt, ige, h1, h2]
  ·try dsimp only
   unfold kV
   rw [bX]
  ·cases l.any (Sz L) <;> rfl
theorem Ua {l : List Int} (h : jR L l = 0) : l.length ≤ 80 ∧ ∀ i ∈ l, 0 ≤ i ∧ i.toNat < L.length := by
 unfold jR at h
 split at h
 ·omega
 ·rename_i h1
  split at h
  ·omega
  ·rename_i h2
   refine ⟨by omega, fun i hi => ?_⟩
   have := List.any_eq_false.1 (Bool.eq_false_iff.2 h2) i hi
   simp [Sz] at this
   omega
theorem Xv (hS : fN L N) (u : Int) {l : List Int} (h : jR L l = 0) : BH ((N : Int), L) u l = some (xE L u 0 l) := by
 obtain ⟨hl, hi⟩ := Ua h
 unfold BH NX
 dsimp only
 have := qr (f := fun (v7 : Int × Int × Int) kk11 => rr l (bK l) L v7.1 v7.2.1 v7.2.2 (fun u8 u9 u10 => kk11 (u8, u9, u10)) (fun z5 => some (z5.1, z5.2.1, z5.2.2)) (fun z6 => some (z6.1, z6.2, true)))
  (F := fun v => some (xE L v.1 v.2.1 (l.drop v.2.2.toNat))) (fun v => ∃ i : Nat, v.2.2 = i ∧ i ≤ l.length ∧ (-(i * 4503599627370496) ≤ v.2.1 ∧ v.2.1 ≤ i * 4503599627370496)) (fun v => l.length - v.2.2.toNat) (fun v hv kn hk => ?_) (x := (u, (0 : Int), (0 : Int))) ⟨0, rfl, by omega, by simp⟩
 ·exact this
 ·obtain ⟨w, s, n⟩ := v
  obtain ⟨i, e, h1, h2⟩ := hv
  dsimp only at e h2 hk ⊢
  subst e
  rw [Int.toNat_natCast] at hk ⊢
  unfold rr
  rcases Nat.lt_or_ge i l.length with h3 | h3
  ·have ha : l[i]? = some l[i] := List.getElem?_eq_getElem h3
   have hd : l.drop i = l[i] :: l.drop (i + 1) := List.drop_eq_getElem_cons h3
   rw [hd]
   have hx := hi l[i] (List.getElem_mem _)
   generalize l[i] = a at ha hx
   have hg : L[a.toNat]? = some L[a.toNat] := List.getElem?_eq_getElem hx.2
   have hm := hS.most _ (List.mem_of_getElem? hg)
   generalize L[a.toNat] = x at hg hm
   rw [bC h3, bt ha, kJ hx.1 hg]
   unfold xE
   rw [hg]
   simp only [Option.getD_some]
   by_cases hc : x.1 = w
   ·rw [bz (by rw [hc]; exact bne_self_eq_false' _), if_pos hc, bG (by omega) (by omega), bv h3 (by omega), hk _ ⟨i + 1, by push_cast; rfl, h3, by dsimp only; push_cast; omega⟩ (by simp; omega)]
    simp
   ·rw [bI (bne_iff_ne.2 hc), if_neg hc]
  ·obtain rfl : i = l.length := by omega
   rw [bX, List.drop_length]
   rfl
theorem Xw (hS : fN L N) : ∀ (l : List Int) (u s B : Int), -B ≤ s ∧ s ≤ B → -(B + l.length * 4503599627370496) ≤ (xE L u s l).2.1 ∧ (xE L u s l).2.1 ≤ B + l.length * 4503599627370496
 | [], u, s, B, h => by simp [xE]; omega
 | i :: t, u, s, B, h => by
   unfold xE
   have hm : -4503599627370496 ≤ (L[i.toNat]?.getD (0, 0, 0)).2.2 ∧ (L[i.toNat]?.getD (0, 0, 0)).2.2 ≤ 4503599627370496 := by
    cases hg : L[i.toNat]? with
    | none => simp
    | some x => exact hS.most x (List.mem_of_getElem? hg)
   split
   ·have := Xw hS t (L[i.toNat]?.getD (0, 0, 0)).2.1 (s + (L[i.toNat]?.getD (0, 0, 0)).2.2) (B + 4503599627370496) (by omega)
    rw [List.length_cons]
    push_cast
    omega
   ·dsimp only
    omega
theorem B0 (hS : fN L N) {u v : Int} (hu : 0 ≤ u ∧ u < N) (hv : 0 ≤ v ∧ v < N) (l : List Int) : iV ((N : Int), L) u v l = some (fk L u v l) := by
 have hl3 := hS.len
 unfold iV pp fk
 have e1 : (decide (0 ≤ u) && decide (u < (N : Int))) = true := by simp [hu.1, hu.2]
 have e2 : (decide (0 ≤ v) && decide (v < (N : Int))) = true := by simp [hv.1, hv.2]
 rw [iI hS, aZ, bz (by rfl), GY, aZ, e1, bz (by rfl), GY, aZ, e2, bz (by rfl), Mk _ (by omega), aZ]
 by_cases h : jR L l = 0
 ·rw [bz (by rw [h]; rfl), if_neg (by simp [h]), Xv hS u h, aZ]
  cases h1 : (xE L u 0 l).2.2 with
  | false => rw [bI (by rfl), if_neg (by simp)]
  | true =>
    rw [bz (by rfl)]
    by_cases h2 : (xE L u 0 l).1 = v
    ·rw [bz (by rw [h2]; exact bne_self_eq_false' _), if_pos ⟨rfl, h2⟩]
    ·rw [bI (bne_iff_ne.2 h2), if_neg (fun h => h2 h.2)]
 ·rw [bI (bne_iff_ne.2 h), if_pos h]
theorem IU {ρ α : Type} (x : α) (t : List α) (f : α → Option ρ) : dn (x :: t) (0 : Int) f = f x := rfl
theorem Lm (hS : fN L N) (l : List Int) : kY ((N : Int), L) l = some (su L l) := by
 have hl3 := hS.len
 unfold kY po su
 rw [iI hS, aZ, bz (by rfl), Mk _ (by omega), aZ]
 by_cases h : jR L l = 0
 ·rw [bz (by rw [h]; rfl), if_neg (by simp [h])]
  cases l with
  | nil => rw [bU]; rfl
  | cons i t =>
    have hx := (Ua h).2 i (by simp)
    have hg : L[i.toNat]? = some L[i.toNat] := List.getElem?_eq_getElem hx.2
    generalize L[i.toNat] = x at hg
    rw [bU, bz (beq_eq_false_iff_ne.2 (by simp; omega)), IU, kJ hx.1 hg, Xv hS x.1 h, aZ]
    dsimp only
    rw [hg]
    dsimp only [Option.getD_some]
    generalize xE L x.1 0 (i :: t) = w
    obtain ⟨e, sum, ok⟩ := w
    unfold abR
    dsimp only
    cases ok with
    | false => rw [bI (by rfl), if_neg (by simp)]
    | true =>
      rw [bz (by rfl)]
      by_cases h2 : e = x.1
      ·rw [bz (by rw [h2]; exact bne_self_eq_false' _)]
       by_cases h3 : sum < 0
       ·rw [bz (decide_eq_false (by omega)), if_pos ⟨rfl, h2, h3⟩]
       ·rw [bI (decide_eq_true (by omega)), if_neg (fun h => h3 h.2.2)]
      ·rw [bI (bne_iff_ne.2 h2), if_neg (fun h => h2 h.2.1)]
 ·rw [bI (bne_iff_ne.2 h), if_pos h]
end
def mW (c : abA) : Int :=
 if bN c.1 ≠ 0 then bN c.1 else if lT c.1 c.2.1.1 c.2.1.2 = 0 then 5 else
 if c.2.2.1 then (if fk (bB c.1) 0 (lT c.1 c.2.1.1 c.2.1.2) c.2.2.2.2 = (c.2.2.2.1, 0) then 0 else 8)
 else (if fk (bB c.1) (lT c.1 c.2.1.1 c.2.1.2) 0 c.2.2.2.2 = (-c.2.2.2.1, 0) then 0 else 8)
def nX (c : abA) : Int :=
 if bN c.1 ≠ 0 then bN c.1 else if c.2.1 ≠ (0, 0) ∨ c.2.2.1 = true ∨ c.2.2.2.1 ≠ 0 then 1 else if su (bB c.1) c.2.2.2.2 = 0 then 0 else 8
def UD (b : bH) (c : abA) : Bool × Int :=
 if bN b ≠ 0 then (false, bN b) else
 if c.2.1 = (0, 0) then (if nX c ≠ 0 then (false, nX c) else (aas c.1 b, 0)) else (if mW c ≠ 0 then (false, mW c) else (aas c.1 b, 0))
theorem wr_neg {n : Int} (h : I64 n) : abY (0 - n) = if n = -9223372036854775808 then n else -n := by
 have e : abY (0 - n) = if (0 - n) % 18446744073709551616 ≥ 9223372036854775808 then (0 - n) % 18446744073709551616 - 18446744073709551616 else (0 - n) % 18446744073709551616 := by
  simp [abY, IntKind.wrap, IntKind.bits, IntKind.signed]
 rw [e]
 unfold I64 at h
 split <;> split <;> omega
theorem EZ {c : abA} (hI : In c.1) (hv : I64 c.2.2.2.1) : jW c = some (mW c) := by
 unfold jW rl mW
 rw [gQ hI.size hI.num, aZ]
 by_cases hc : bN c.1 = 0
 ·have hg := (bE c.1).1 hc
  rw [bz (by simp [ine, hc]), if_neg (show ¬ (bN c.1 ≠ 0) from fun h => h hc), qK hI, aZ, nT hg, nS hI, aZ, ix hg]
  dsimp only
  by_cases h0 : lT c.1 c.2.1.1 c.2.1.2 = 0
  ·rw [if_pos h0, if_pos h0]; rfl
  ·have hN := hg.sys
   have hr := di c.1 c.2.1
   have hz := eo c.1
   rw [if_neg h0, if_neg h0, bz (by rfl), show (((bm c.1).length : Int) + 1) = (((bm c.1).length + 1 : Nat) : Int) by push_cast; rfl]
   dsimp only
   rw [show (∀ f : Int → Option Int, ck (0 - c.2.2.2.1) f = f (abY (0 - c.2.2.2.1))) from fun f => rfl, wr_neg hv]
   have key : ∀ (u v : Int) (t t' : Int), (t' = t ∨ (t' = -9223372036854775808 ∧ t = 9223372036854775808)) → (ifb (ine (fk (bB c.1) u v c.2.2.2.2).2 0) (some (8 : Int)) (ifb (ine (fk (bB c.1) u v c.2.2.2.2).1 t') (some 8) (some 0))) = some (if fk (bB c.1) u v c.2.2.2.2 = (t, 0) then 0 else 8) := by
    intro u v t t' ht
    have hb : -9000000000000000000 ≤ (fk (bB c.1) u v c.2.2.2.2).1 ∧ (fk (bB c.1) u v c.2.2.2.2).1 ≤ 9000000000000000000 := by
     unfold fk
     split
     ·simp
     ·rename_i hi
      split
      ·have := Xw hN c.2.2.2.2 u 0 0 (by simp)
       have := (Ua (by simpa using hi)).1
       dsimp only
       omega
      ·simp
    generalize fk (bB c.1) u v c.2.2.2.2 = p at hb ⊢
    by_cases h2 : p.2 = 0
    ·rw [bz (by rw [h2]; rfl)]
     by_cases h1 : p.1 = t'
     ·have : p = (t, 0) := Prod.ext (by rcases ht with h | h <;> omega) h2
      rw [bz (by rw [h1]; exact bne_self_eq_false' _), if_pos this]
     ·have : ¬ p = (t, 0) := fun e => by
       have e1 : p.1 = t := by rw [e]
       rcases ht with h | h <;> omega
      rw [bI (bne_iff_ne.2 h1), if_neg this]
    ·have : ¬ p = (t, 0) := fun e => h2 (by rw [e])
     rw [bI (bne_iff_ne.2 h2), if_neg this]
   unfold I64 at hv
   cases c.2.2.1 with
   | true =>
     rw [eD, B0 hN hz hr, aZ, key _ _ _ _ (.inl rfl)]
     rfl
   | false =>
     rw [b7, B0 hN hr hz, aZ, key _ _ (-c.2.2.2.1) _ (by split <;> omega)]
     rfl
 ·rw [bI (by simp [ine, hc]), if_pos hc]
theorem PD {c : abA} (hI : In c.1) : kX c = some (nX c) := by
 unfold kX pj nX
 rw [gQ hI.size hI.num, aZ]
 by_cases hc : bN c.1 = 0
 ·have hg := (bE c.1).1 hc
  rw [bz (by simp [ine, hc]), if_neg (show ¬ (bN c.1 ≠ 0) from fun h => h hc)]
  by_cases h1 : c.2.1 = (0, 0)
  ·have e1 : (!((fo c.2.1.1 0) && ((fo c.2.1.2 0) && true))) = false := by rw [h1]; rfl
   rw [e1, b7]
   cases h2 : c.2.2.1 with
   | true => rw [eD, if_pos (.inr (.inl rfl))]
   | false =>
     rw [b7]
     by_cases h3 : c.2.2.2.1 = 0
     ·rw [bz (by rw [h3]; rfl), if_neg (by simp [h1, h3]), nS hI, aZ, ix hg, show (((bm c.1).length : Int) + 1) = (((bm c.1).length + 1 : Nat) : Int) by push_cast; rfl]
      dsimp only
      rw [Lm hg.sys, aZ]
      by_cases h4 : su (bB c.1) c.2.2.2.2 = 0
      ·rw [bz (by rw [h4]; rfl), if_pos h4]
      ·rw [bI (bne_iff_ne.2 h4), if_neg h4]
     ·rw [bI (bne_iff_ne.2 h3), if_pos (.inr (.inr h3))]
  ·have e1 : (!((fo c.2.1.1 0) && ((fo c.2.1.2 0) && true))) = true := by
    rw [Prod.ext_iff] at h1
    simp [fo]
    dsimp only at h1
    omega
   rw [e1, eD, if_pos (.inl h1)]
 ·rw [bI (by simp [ine, hc]), if_pos hc]
theorem ZO {b : bH} {c : abA} (hb : In b) (hI : In c.1) (hv : I64 c.2.2.2.1) : wa b c = some (UD b c) := by
 unfold wa Cy UD
 rw [gQ hb.size hb.num, aZ]
 by_cases hc : bN b = 0
 ·rw [bz (by simp [ine, hc]), if_neg (show ¬ (bN b ≠ 0) from fun h => h hc)]
  by_cases h1 : c.2.1 = (0, 0)
  ·have e1 : ((fo c.2.1.1 0) && ((fo c.2.1.2 0) && true)) = true := by rw [h1]; rfl
   rw [e1, eD, if_pos h1, PD hI, aZ]
   by_cases h2 : nX c = 0
   ·rw [bz (by rw [h2]; rfl), if_neg (by simp [h2]), part_ok hI.size hb.size, aZ]
   ·rw [bI (bne_iff_ne.2 h2), if_pos h2]
  ·have e1 : ((fo c.2.1.1 0) && ((fo c.2.1.2 0) && true)) = false := by
    rw [Prod.ext_iff] at h1
    simp [fo]
    dsimp only at h1
    omega
   rw [e1, b7, if_neg h1, EZ hI hv, aZ]
   by_cases h2 : mW c = 0
   ·rw [bz (by rw [h2]; rfl), if_neg (by simp [h2]), part_ok hI.size hb.size, aZ]
   ·rw [bI (bne_iff_ne.2 h2), if_pos h2]
 ·rw [bI (by simp [ine, hc]), if_pos hc]
end Go.Proofs.ZzM
end
noncomputable section
namespace Go.Proofs.ZzM
open Go Go.Am
def Gu (b : bH) (l : List Int) : List (Int × Int) := l.map fun i => (eN b)[i.toNat]?.getD (0, 0)
theorem V8 {b : bH} (hg : cW b) (hn : ∀ g ∈ b.2.1, I64 g.2.2.2.2.1.1) {l : List Int} (hl : l.length ≤ 1000) (hi : ∀ i ∈ l, 0 ≤ i ∧ i.toNat < (bB b).length) : nH b l = some (Gu b l) := by
 unfold nH yd
 rw [nS (hg.inn hn), aZ, ix hg]
 refine cI l (fun i => Gu b (l.take i)) _ rfl (fun i a hlt ha kn => ?_) (fun kn => ?_)
 ·try dsimp only
  unfold kT
  have hx := hi a (List.mem_of_getElem? ha)
  have hs : (eN b)[a.toNat]? = some ((eN b)[a.toNat]'(by rw [MP hg]; exact hx.2)) := List.getElem?_eq_getElem _
  generalize (eN b)[a.toNat]'(by rw [MP hg]; exact hx.2) = x at hs
  have hlen : (Gu b (l.take i)).length ≤ 1000 := by unfold Gu; rw [List.length_map, List.length_take]; omega
  rw [bC hlt, bt ha, kJ hx.1 hs, dh (show bZ ((Gu b (l.take i)).length + [x].length) = true from bD (show (Gu b (l.take i)).length + 1 ≤ 4294967296 by omega)), bv hlt (by omega), take_succ ha]
  unfold Gu
  rw [List.map_append, List.map_singleton, hs]
  rfl
 ·try dsimp only
  unfold kT
  rw [bX, List.take_length]
theorem src_ok {b : bH} : ∀ s ∈ eN b, acT b s := by
 intro s hs
 unfold eN at hs
 rcases List.mem_append.1 hs with h | h
 ·have := RZ s h; exact .inl this
 ·have := Si s h; exact .inr this
theorem aad {b : bH} (hg : cW b) {l : List Int} (hi : ∀ i ∈ l, 0 ≤ i ∧ i.toNat < (bB b).length) : ∀ s ∈ Gu b l, acT b s := by
 intro s hs
 obtain ⟨i, h1, rfl⟩ := List.mem_map.1 hs
 have hx := hi i h1
 have hsx : (eN b)[i.toNat]? = some ((eN b)[i.toNat]'(by rw [MP hg]; exact hx.2)) := List.getElem?_eq_getElem _
 rw [hsx]
 exact src_ok _ (List.getElem_mem _)
section
variable {L : List Lk} {N : Nat}
theorem Dr (R : Nat → List Int) (good : Int → Bool) : ∀ (k : Nat) (u sum : Int) (out : List Int), (∀ i ∈ out, 0 ≤ i ∧ i.toNat < L.length) → (∀ i ∈ pA L R good k u sum out, 0 ≤ i ∧ i.toNat < L.length) ∧ (pA L R good k u sum out).length ≤ out.length + k
 | 0, u, sum, out, h => ⟨h, by simp [pA]⟩
 | k + 1, u, sum, out, h => by
   unfold pA
   cases hn : JT L (R k) good u sum with
   | none =>
     have := Dr R good k u sum out h
     exact ⟨this.1, by have := this.2; dsimp only; omega⟩
   | some i =>
     have hi : i < L.length := by
      unfold JT at hn
      exact (List.findIdx?_eq_some_iff_getElem.1 hn).1
     have := Dr R good k (L[i]?.getD (0, 0, 0)).2.1 (sum + (L[i]?.getD (0, 0, 0)).2.2) (out ++ [(i : Int)]) (fun j hj => by
      rcases List.mem_append.1 hj with h1 | h1
      ·exact h j h1
      ·simp at h1; subst h1; simp; exact hi)
     exact ⟨this.1, by have := this.2; simp at this; dsimp only; omega⟩
theorem Sl (N : Nat) (u v : Int) : (∀ i ∈ (JK L N u v).1, 0 ≤ i ∧ i.toNat < L.length) ∧ (JK L N u v).1.length ≤ N := by
 unfold JK
 split
 ·simp
 ·cases h : (mi L N v N).findIdx? (fun x => gv x u == (gu L N u v).1) with
  | none => simp
  | some k =>
    have hk := (List.findIdx?_eq_some_iff_getElem.1 h).1
    rw [jq] at hk
    have := Dr (L := L) (exL L N v) (fun n => ieq n (gu L N u v).1) k u 0 [] (by simp)
    exact ⟨this.1, by have := this.2; simp at this; dsimp only; omega⟩
end
def EU (B : bH) (n : Int × Int) (upper : Bool) : List Int :=
 if upper then (JK (bB B) ((bm B).length + 1) 0 (lT B n.1 n.2)).1 else (JK (bB B) ((bm B).length + 1) (lT B n.1 n.2) 0).1
def tJ (B : bH) (n : Int × Int) (upper : Bool) : bH := cutP B (Gu B (EU B n upper)) [n]
def certR (B : bH) (n : Int × Int) (upper : Bool) : abA := (tJ B n upper, n, upper, (if upper then (ivR B n).2 else (ivR B n).1), EU (tJ B n upper) n upper)
def mI (b : bH) (n : Int × Int) (upper : Bool) : abA × Int :=
 if (dg b [n]).2 ≠ 0 then (Zk, (dg b [n]).2) else
 if bN (tJ (dg b [n]).1 n upper) ≠ 0 then (Zk, bN (tJ (dg b [n]).1 n upper)) else
 if dC (bB (tJ (dg b [n]).1 n upper)) ((bm (tJ (dg b [n]).1 n upper)).length + 1) then (certR (dg b [n]).1 n upper, 0) else (Zk, 9)
theorem W4 {ρ : Type} : @pl ρ = @cn ρ := rfl
theorem X5 {ρ : Type} (K : Option ρ) : bw (fun (v23 : Int) kk25 => pk (0 : Int) v23 (fun u24 => kk25 u24) (fun _ => K)) (0 : Int) = K := by
 refine fK (fun x => x = 0) (fun _ => 0) (fun x hx => .inl fun kn => ?_) rfl
 rw [hx]
 rfl
theorem UM {B : bH} (h : cW B) (hn : ∀ g ∈ B.2.1, I64 g.2.2.2.2.1.1) (n : Int × Int) (upper : Bool) : jX (B, JM B) n upper = some (EU B n upper) := by
 unfold jX ro EU
 rw [EY h hn, aZ, show (B, JM B).2 = JM B from rfl, B6]
 cases upper with
 | true => rw [eD, V2 h.sys (eo B) (di B n), aZ]; rfl
 | false => rw [b7, V2 h.sys (di B n) (eo B), aZ]; rfl
theorem WZ {B : bH} (h : cW B) (n : Int × Int) (upper : Bool) : (∀ i ∈ EU B n upper, 0 ≤ i ∧ i.toNat < (bB B).length) ∧ (EU B n upper).length ≤ 60 := by
 have hN := h.sys.n60
 unfold EU
 split
 ·have := Sl (L := bB B) ((bm B).length + 1) 0 (lT B n.1 n.2)
  exact ⟨this.1, by have := this.2; omega⟩
 ·have := Sl (L := bB B) ((bm B).length + 1) (lT B n.1 n.2) 0
  exact ⟨this.1, by have := this.2; omega⟩
theorem IK (w : List Int) : ∀ (l : List Cmp) (i : Nat), ∀ c ∈ yG w i l, c ∈ l
 | [], i, c, h => by simp [yG] at h
 | a :: l, i, c, h => by
   simp only [yG] at h
   split at h
   ·rcases List.mem_cons.1 h with h | h
    ·rw [h]; simp
    ·exact List.mem_cons_of_mem _ (IK w l (i + 1) c h)
   ·exact List.mem_cons_of_mem _ (IK w l (i + 1) c h)
theorem abN {b : bH} (h : In b) (ss : List (Int × Int)) {looks : List (Int × Int)} (hl : looks.length ≤ 1000) : In (cutP b ss looks) := by
 obtain ⟨hs, hn⟩ := h
 have g1 := hs.gauges; have g2 := hs.uses; have g3 := hs.loans; have g4 := hs.compares
 unfold cutP
 refine ⟨⟨?_, ?_, ?_, ?_, hl, fun c hc => hs.piles c (IK _ _ _ c hc)⟩, fun g hg => hn g (List.mem_filter.1 hg).1⟩
 ·exact Nat.le_trans (List.length_filter_le _ _) g1
 ·exact Nat.le_trans (List.length_filter_le _ _) g2
 ·exact Nat.le_trans (List.length_filter_le _ _) g3
 ·exact Nat.le_trans (IL _ _ _) g4
theorem Xk {b : bH} (hI : In b) (n : Int × Int) (upper : Bool) : se b n upper = some (mI b n upper) := by
 unfold se ym mI
 rw [W4]
 refine (ob hI (ns := [n]) (by simp) (fun e => some (Zk, e)) (fun e he => by rw [dh (by simp [ine, he])]; rfl) (fun z he => by rw [dh (by simp [ine, he])]; rfl) (fun _ _ _ => rfl)).trans ?_
 split
 ·rfl
 ·rename_i e
  have hr := (jE hI (by simpa using e)).1
  dsimp only
  generalize (dg b [n]).1 = B at hr ⊢
  have hci := WZ hr.good n upper
  have hpi : In (tJ B n upper) := abN (hr.good.inn hr.num) _ (by simp)
  rw [sd, show ((((bm B).length : Int) + 1, bB B) : Sys) = JM B from rfl, UM hr.good hr.num, aZ, V8 hr.good hr.num (by omega) hci.1, aZ,
   cut_ok hr.good.size (by unfold Gu; rw [List.length_map]; omega) (by simp) (aad hr.good hci.1), aZ, show cutP B (Gu B (EU B n upper)) [n] = tJ B n upper from rfl, gQ hpi.size hpi.num, aZ]
  by_cases hc : bN (tJ B n upper) = 0
  ·have hg := (bE _).1 hc
   rw [bz (by simp [ine, hc]), if_neg (show ¬ (bN (tJ B n upper) ≠ 0) from fun h => h hc)]
   refine (X5 _).trans ?_
   rw [nS hpi, aZ, ix hg, bz (by rfl)]
   dsimp only
   rw [show ((((bm (tJ B n upper)).length : Int) + 1, bB (tJ B n upper)) : Sys) = JM (tJ B n upper) from rfl, B6 (tJ B n upper), BZ hg.sys, aZ]
   cases ho : dC (bB (tJ B n upper)) ((bm (tJ B n upper)).length + 1) with
   | false => rw [if_neg (by simp)]; rfl
   | true =>
     rw [if_pos rfl, ← B6 (tJ B n upper), bz (by rfl), Me hr, aZ, UM hg hpi.num, aZ]
     cases upper with
     | true => rw [eD, Bw hr, aZ]; rfl
     | false => rfl
  ·rw [bI (by simp [ine, hc]), if_pos hc, bI (by simp [ine, hc])]
   rfl
theorem WW {L : List Lk} {N : Nat} (h : fN L N) (ho : dC L N = true) : vm ((N : Int), L) = some ([], 5) := by
 have hN := h.n60
 unfold vm HQ
 rw [iI h, aZ, bz (by rfl), qN h.links h.n1 (by omega), aZ, if_pos ho]
 rfl
theorem Ta {b : bH} (hg : cW b) (hn : ∀ g ∈ b.2.1, I64 g.2.2.2.2.1.1) (ho : dC (bB b) ((bm b).length + 1) = true) : BG b = some (Zk, 5) := by
 unfold BG Hw
 rw [nS (hg.inn hn), aZ, ix hg, bz (by rfl), show ((((bm b).length : Int) + 1, bB b), eN b, (0 : Int)).1 = JM b from rfl, B6, WW hg.sys ho, aZ]
 rfl
end Go.Proofs.ZzM
end
noncomputable section
namespace Go.Proofs.ZzM
open Go Go.Am
theorem gv_bd {x : List Int} {m : Int} (hm : 0 ≤ m) (h : ∀ a ∈ x, -m ≤ a ∧ a ≤ m) (v : Int) : -m ≤ gv x v ∧ gv x v ≤ m := by
 unfold gv
 cases hv : x[v.toNat]? with
 | none => simp only [Option.getD_none]; omega
 | some a => simp only [Option.getD_some]; exact h a (List.mem_of_getElem? hv)
end Go.Proofs.ZzM
end
noncomputable section
namespace Go.Proofs.ZzM
open Go Go.Am
section
variable {b : bH} {c d : Cmp} {s : Int × Int}
theorem acb (h : Pred b c s) : -10000000000000000 ≤ s.1 ∧ s.1 ≤ s.2 ∧ s.2 ≤ 10000000000000000 := by
 have q := h.good2.cmp (vJ (c := bj c))
 obtain ⟨_, _, b1, b2, b3⟩ := DW (b := b) h.good.film (c := bj c) ⟨q.nums, q.r1, q.r2⟩
 have e1 : T3 b c = Jq (dN b (bj c)).1 + (jo b (bj c)).1 - (bj c).2.2.2.2.2.1 := rfl
 have e2 : yI b c = (dN b (bj c)).2.1 / (dN b (bj c)).2.2 + (jo b (bj c)).2 + (bj c).2.2.2.2.2.1 := rfl
 have o := h.order
 have n := h.ends
 have bd := h.bd
 omega
end
end Go.Proofs.ZzM
end
noncomputable section
namespace Go.Proofs.ZzM
open Go Go.Am
def fX (e : End) : List Int := [e.1 - e.2.1, e.2.2 - e.1, Int.tdiv (e.2.2 - e.2.1) 2, Int.tdiv (e.2.2 - e.2.1) 2 - 1, Int.tdiv (e.2.2 - e.2.1) 2 + 1]
def pP (e : End) (n : Int) : List Int := [n - e.2.1, e.2.2 - n]
def atE (e : End) (d : Int) : Int := min e.1 (min (e.2.1 + d) (e.2.2 - d))
def Gw (w : DL) (d : Int) : Int × Int := (-(atE w.2.2 d), atE w.2.1 d)
def WJ (r : Int × Int) (n : Int) : List Int := [n - 2, n - 1, n, n + 1, n + 2].filter fun d => decide (r.1 < d) && decide (d < r.2)
def JU (r : Int × Int) (l : List Int) : List Int := [r.1, r.2] ++ l.flatMap (WJ r)
def UL (w : DL) (l : List Int) : Int := l.foldl (fun m d => max m ((Gw w d).2 - (Gw w d).1)) (-1)
def Xt (w : DL) : Int := UL w (JU w.1 (fX w.2.1 ++ fX w.2.2))
def Sm (n : Int) : Prop := -100000000000000000 ≤ n ∧ n ≤ 100000000000000000
structure PB (e : End) : Prop where
 s : Sm e.1
 u : Sm e.2.1
 d : Sm e.2.2
structure Pw (w : DL) : Prop where
 lo : Sm w.1.1
 hi : Sm w.1.2
 high : PB w.2.1
 low : PB w.2.2
theorem PO (n : Int) : -1 ≤ n - 2 * Int.tdiv n 2 ∧ n - 2 * Int.tdiv n 2 ≤ 1 := by
 have h1 := Int.tmod_add_mul_tdiv n 2
 have h2 := Int.tmod_two_eq n
 omega
theorem FS {e : End} (h : PB e) : gM e = some (fX e) := by
 obtain ⟨⟨a1, a2⟩, ⟨b1, b2⟩, c1, c2⟩ := h
 have h2 := PO (e.2.2 - e.2.1)
 unfold gM rd
 rw [bG (by omega) (by omega), bG (by omega) (by omega), bG (by omega) (by omega), bG (by omega) (by omega), bG (by omega) (by omega), bG (by omega) (by omega)]
 rfl
theorem F3 {e : End} (h : PB e) {n : Int} (hn : -1000000000000000000 ≤ n ∧ n ≤ 1000000000000000000) : gN e n = some (pP e n) := by
 obtain ⟨⟨a1, a2⟩, ⟨b1, b2⟩, c1, c2⟩ := h
 unfold gN re
 rw [bG (by omega) (by omega), bG (by omega) (by omega)]
 rfl
theorem abW {e : End} (h : PB e) {d : Int} (hd : Sm d) : qA e d = some (atE e d) := by
 obtain ⟨⟨a1, a2⟩, ⟨b1, b2⟩, c1, c2⟩ := h
 obtain ⟨d1, d2⟩ := hd
 unfold qA Cw
 rw [bG (by omega) (by omega), bG (by omega) (by omega), IT, IT]
 unfold atE
 congr 1
 omega
theorem ZK {e : End} (h : PB e) {d : Int} (hd : Sm d) : -200000000000000000 ≤ atE e d ∧ atE e d ≤ 100000000000000000 := by
 obtain ⟨⟨a1, a2⟩, ⟨b1, b2⟩, c1, c2⟩ := h
 obtain ⟨d1, d2⟩ := hd
 unfold atE
 omega
theorem XG {w : DL} (h : Pw w) {d : Int} (hd : Sm d) : dY w d = some (Gw w d) := by
 unfold dY oY
 have b1 := ZK h.low hd
 rw [abW h.low hd, aZ, bG (by omega) (by omega), abW h.high hd, aZ]
 unfold Gw
 rw [Int.zero_sub]
theorem aaS (r : Int × Int) (n : Int) : (WJ r n).length ≤ 5 := List.length_filter_le _ _
theorem I3 (r : Int × Int) : ∀ l : List Int, (l.flatMap (WJ r)).length ≤ l.length * 5
 | [] => by simp
 | n :: l => by
   have h1 := aaS r n
   have h2 := I3 r l
   rw [List.flatMap_cons, List.length_append, List.length_cons]
   omega
theorem aco {ρ : Type} (r : Int × Int) {n : Int} (hn : -4000000000000000000 ≤ n ∧ n ≤ 4000000000000000000) {out : List Int} (ho : out.length ≤ 1000) (K : List Int → Option ρ) :
 bw (fun (v9 : (Val (.pair tI (.slice tI)))) kk12 => gk n r.1 r.2 v9.1 v9.2 (fun u10 u11 => kk12 (u10, u11)) K) (n - 2, out) = K (out ++ WJ r n) := by
 let five : List Int := [n - 2, n - 1, n, n + 1, n + 2]
 have hg : ∀ (i : Nat), i < 5 → five[i]? = some (n - 2 + i) := by
  intro i hi
  have : i = 0 ∨ i = 1 ∨ i = 2 ∨ i = 3 ∨ i = 4 := by omega
  rcases this with rfl | rfl | rfl | rfl | rfl <;> simp only [five, List.getElem?_cons_zero, List.getElem?_cons_succ] <;> congr 1 <;> omega
 refine fK (fun v => ∃ i : Nat, i ≤ 5 ∧ v = (n - 2 + (i : Int), out ++ (five.take i).filter fun d => decide (r.1 < d) && decide (d < r.2))) (fun v => (n + 3 - v.1).toNat) ?_ ⟨0, by omega, by simp⟩
 rintro v ⟨i, hi, rfl⟩
 rcases Nat.lt_or_ge i 5 with h5 | h5
 ·refine .inr ⟨(n - 2 + ((i + 1 : Nat) : Int), out ++ (five.take (i + 1)).filter fun d => decide (r.1 < d) && decide (d < r.2)), ⟨i + 1, h5, rfl⟩, by dsimp only; omega, fun kn => ?_⟩
  have hl : ((five.take i).filter fun d => decide (r.1 < d) && decide (d < r.2)).length ≤ 5 := nA _ five i
  dsimp only
  unfold gk
  rw [bG (by omega) (by omega), bI (decide_eq_true (by omega)), take_succ (hg i h5), List.filter_append]
  have e0 : n - 2 + (i : Int) + 1 = n - 2 + ((i + 1 : Nat) : Int) := by push_cast; omega
  by_cases h1 : r.1 < n - 2 + (i : Int)
  ·rw [bI (show igt (n - 2 + (i : Int)) r.1 = true from decide_eq_true h1)]
   by_cases h2 : n - 2 + (i : Int) < r.2
   ·rw [bI (show ilt (n - 2 + (i : Int)) r.2 = true from decide_eq_true h2), dh (bD (by rw [List.length_append]; simp only [List.length_singleton]; omega)), bG (by omega) (by omega), e0]
    simp [h1, h2]
   ·rw [bz (show ilt (n - 2 + (i : Int)) r.2 = false from decide_eq_false h2), bG (by omega) (by omega), e0]
    simp [h1, h2]
  ·rw [bz (show igt (n - 2 + (i : Int)) r.1 = false from decide_eq_false h1), bG (by omega) (by omega), e0]
   simp [h1]
 ·refine .inl fun kn => ?_
  obtain rfl : i = 5 := by omega
  dsimp only
  unfold gk
  rw [bG (by omega) (by omega), bz (decide_eq_false (by omega))]
  rfl
theorem Ye (w : DL) {l : List Int} (hl : l.length ≤ 100) (hn : ∀ n ∈ l, -2000000000000000000 ≤ n ∧ n ≤ 2000000000000000000) : iU w l = some (JU w.1 l) := by
 unfold iU oZ
 refine cI l (fun i => [w.1.1, w.1.2] ++ (l.take i).flatMap (WJ w.1)) _ rfl (fun i n hi ha kn => ?_) (fun kn => ?_)
 ·try dsimp only
  unfold iC
  have hb := hn n (List.mem_of_getElem? ha)
  have h5 := I3 w.1 (l.take i)
  have ht : (l.take i).length ≤ 100 := by rw [List.length_take]; omega
  rw [bC hi, bt ha, bG (by omega) (by omega)]
  refine (aco w.1 (by omega) (by rw [List.length_append]; simp only [List.length_cons, List.length_nil]; omega) _).trans ?_
  rw [bv hi (by omega), take_succ ha, List.flatMap_append, List.append_assoc]
  simp
 ·try dsimp only
  unfold iC
  rw [bX, List.take_length]
  rfl
theorem aaA {r : Int × Int} {l : List Int} {d : Int} : d ∈ JU r l ↔ d = r.1 ∨ d = r.2 ∨ (r.1 < d ∧ d < r.2 ∧ ∃ n ∈ l, n - 2 ≤ d ∧ d ≤ n + 2) := by
 unfold JU WJ
 simp only [List.mem_append, List.mem_cons, List.not_mem_nil, or_false, List.mem_flatMap, List.mem_filter, Bool.and_eq_true, decide_eq_true_eq]
 constructor
 ·rintro ((h | h) | ⟨n, hn, h, h1, h2⟩)
  ·exact .inl h
  ·exact .inr (.inl h)
  ·exact .inr (.inr ⟨h1, h2, n, hn, by omega, by omega⟩)
 ·rintro (h | h | ⟨h1, h2, n, hn, h3, h4⟩)
  ·exact .inl (.inl h)
  ·exact .inl (.inr h)
  ·exact .inr ⟨n, hn, by omega, h1, h2⟩
theorem Vk (r : Int × Int) {l : List Int} (hl : l.length ≤ 100) : (JU r l).length ≤ 600 := by
 have := I3 r l
 unfold JU
 rw [List.length_append]
 simp only [List.length_cons, List.length_nil]
 omega
theorem Yd {w : DL} (h : Pw w) {l : List Int} : ∀ d ∈ JU w.1 l, Sm d := by
 intro d hd
 obtain ⟨a1, a2⟩ := h.lo
 obtain ⟨b1, b2⟩ := h.hi
 rcases aaA.1 hd with h | h | ⟨h1, h2, _⟩
 ·rw [h]; exact ⟨a1, a2⟩
 ·rw [h]; exact ⟨b1, b2⟩
 ·exact ⟨by omega, by omega⟩
theorem FT {e : End} (h : PB e) : ∀ n ∈ fX e, -1000000000000000000 ≤ n ∧ n ≤ 1000000000000000000 := by
 obtain ⟨⟨a1, a2⟩, ⟨b1, b2⟩, c1, c2⟩ := h
 have h2 := PO (e.2.2 - e.2.1)
 intro n hn
 unfold fX at hn
 simp only [List.mem_cons, List.not_mem_nil, or_false] at hn
 omega
theorem Z4 {w : DL} (h : Pw w) : jU w = some (Xt w) := by
 unfold jU nh
 have hl : ([fX w.2.1, fX w.2.2] : List (List Int)).flatten = fX w.2.1 ++ fX w.2.2 := by simp
 have hll : (fX w.2.1 ++ fX w.2.2).length = 10 := rfl
 rw [FS h.high, aZ, FS h.low, aZ, mV (by simp) (by rw [hl, hll]; omega), aZ, hl, Ye w (by rw [hll]; omega) (fun n hn => by
  rcases List.mem_append.1 hn with hn | hn
  ·have := FT h.high n hn; omega
  ·have := FT h.low n hn; omega), aZ]
 have hnl := Vk w.1 (l := fX w.2.1 ++ fX w.2.2) (by rw [hll]; omega)
 have hsm := Yd h (l := fX w.2.1 ++ fX w.2.2)
 unfold Xt
 generalize JU w.1 (fX w.2.1 ++ fX w.2.2) = l at hnl hsm ⊢
 refine fK (fun v => ∃ i : Nat, i ≤ l.length ∧ v = (UL w (l.take i), (i : Int))) (fun v => l.length - v.2.toNat) ?_ ⟨0, by omega, rfl⟩
 rintro v ⟨i, hi, rfl⟩
 rcases Nat.lt_or_ge i l.length with h2 | h2
 ·have ha : l[i]? = some l[i] := List.getElem?_eq_getElem h2
  have hs := hsm l[i] (List.getElem_mem _)
  generalize l[i] = d at ha hs
  refine .inr ⟨(UL w (l.take (i + 1)), ((i + 1 : Nat) : Int)), ⟨i + 1, h2, rfl⟩, by dsimp only; omega, fun kn => ?_⟩
  dsimp only
  unfold hO
  have b1 := ZK h.low hs
  have b2 := ZK h.high hs
  rw [bC h2, bt ha, show dY ((w.1.1, w.1.2), (w.2.1.1, w.2.1.2.1, w.2.1.2.2), w.2.2.1, w.2.2.2.1, w.2.2.2.2) d = dY w d from rfl, XG h hs, aZ, bG (by unfold Gw; dsimp only; omega) (by unfold Gw; dsimp only; omega), bv h2 (by omega), T9, take_succ ha]
  unfold UL
  rw [List.foldl_append]
  rfl
 ·refine .inl fun kn => ?_
  obtain rfl : i = l.length := by omega
  dsimp only
  unfold hO
  rw [bX, List.take_length]
theorem UK {b : bH} {n : Int × Int} {c : Cmp} (hp : (dv b c).2 = 0) : Pw (PG b n c) := by
 obtain ⟨g1, g2⟩ := mH hp
 have ho := DY hp
 have hb := acb (Qb hp)
 have hx := xy g2
 have hy := xx g2
 have b6 := XL g1 g2 ho
 have key : ∀ {s t : Int}, 0 ≤ s ∧ s < ((bm (bQ b (bj c))).length + 1 : Nat) → 0 ≤ t ∧ t < ((bm (bQ b (bj c))).length + 1 : Nat) → PB (endP b (bj c) s t) := by
  intro s t hs ht
  have b1 := pz g1 g2 ho hs ht
  have b2 := pz g1 g2 ho hs hy
  have b3 := pz g1 g2 ho hx ht
  have b4 := pz g1 g2 ho hs hx
  have b5 := pz g1 g2 ho hy ht
  unfold endP
  exact ⟨⟨by dsimp only; omega, by dsimp only; omega⟩, ⟨by dsimp only; omega, by dsimp only; omega⟩, by dsimp only; omega, by dsimp only; omega⟩
 exact ⟨⟨by show _ ≤ (dv b c).1.1; omega, by show (dv b c).1.1 ≤ _; omega⟩, ⟨by show _ ≤ (dv b c).1.2; omega, by show (dv b c).1.2 ≤ _; omega⟩, key (eo _) (di _ n), key (di _ n) (eo _)⟩
def VX (b : bH) (n : Int × Int) (c : Cmp) : Int × Int :=
 if (dg b [n]).2 ≠ 0 then (0, (dg b [n]).2) else if (dv (dg b [n]).1 c).2 ≠ 0 then (0, (dv (dg b [n]).1 c).2) else (Xt (PG (dg b [n]).1 n c), 0)
theorem Z5 {ρ : Type} : @un ρ = @cn ρ := rfl
theorem abv {b : bH} (hI : In b) (n : Int × Int) {c : Cmp} (hA : c.2.2.1.length ≤ 1000) (hB : c.2.2.2.1.length ≤ 1000) : vj b n c = some (VX b n c) := by
 unfold vj Hp VX
 rw [Z5]
 refine (ob hI (ns := [n]) (by simp) (fun e => some ((0 : Int), e)) (fun e he => by rw [dh (by simp [ine, he])]) (fun z he => by rw [dh (by simp [ine, he])]) (fun _ _ _ => rfl)).trans ?_
 split
 ·rfl
 ·rename_i e
  have hr := (jE hI (by simpa using e)).1
  dsimp only
  rw [sd, show ((((bm (dg b [n]).1).length : Int) + 1, bB (dg b [n]).1) : Sys) = JM (dg b [n]).1 from rfl, RO hr n hA hB, aZ]
  unfold O2
  by_cases hp : (dv (dg b [n]).1 c).2 = 0
  ·rw [if_neg (by simp [hp]), if_neg (by simp [hp]), bz (by rfl), Z4 (UK hp), aZ]
  ·rw [if_pos hp, if_pos hp, bI (bne_iff_ne.2 hp)]
def Xm (x : Int) : Int := max (-288230376151711744) (min x 288230376151711744)
def xH (w : DL) (l : Int × Int) : List Int := (fX w.2.1 ++ fX w.2.2) ++ (pP w.2.1 l.1 ++ pP w.2.2 (-l.1)) ++ (pP w.2.1 l.2 ++ pP w.2.2 (-l.2))
def UY (w : DL) (l : Int × Int) : Bool := (JU w.1 (xH w l)).all fun d => nZ (Gw w d) l != 3
def Gj (b : bH) (n l : Int × Int) (c : Cmp) : Bool × Int :=
 if (dg b [n]).2 ≠ 0 then (false, (dg b [n]).2) else if l.2 < l.1 then (false, 1) else if (dv (dg b [n]).1 c).2 ≠ 0 then (false, (dv (dg b [n]).1 c).2) else (UY (PG (dg b [n]).1 n c) (Xm l.1, Xm l.2), 0)
theorem V9 {ρ : Type} : @pd ρ = @cn ρ := rfl
theorem abM (x : Int) : jV x = some (Xm x) := by
 unfold jV rh Xm
 rw [IT, T9]
theorem F4 {e : End} (h : PB e) {n : Int} (hn : -300000000000000000 ≤ n ∧ n ≤ 300000000000000000) : ∀ m ∈ pP e n, -1000000000000000000 ≤ m ∧ m ≤ 1000000000000000000 := by
 obtain ⟨⟨a1, a2⟩, ⟨b1, b2⟩, c1, c2⟩ := h
 intro m hm
 unfold pP at hm
 simp only [List.mem_cons, List.not_mem_nil, or_false] at hm
 omega
theorem Xg {b : bH} (hI : In b) (n l : Int × Int) {c : Cmp} (hA : c.2.2.1.length ≤ 1000) (hB : c.2.2.2.1.length ≤ 1000) : nI b n l c = some (Gj b n l c) := by
 unfold nI yj Gj
 rw [V9]
 refine (ob hI (ns := [n]) (by simp) (fun e => some (false, e)) (fun e he => by rw [bI (by simp [ine, he])]) (fun z he => by rw [bI (by simp [ine, he])]) (fun _ _ _ => rfl)).trans ?_
 split
 ·rfl
 ·rename_i e
  have hr := (jE hI (by simpa using e)).1
  dsimp only
  by_cases hl : l.2 < l.1
  ·rw [bI (by simp [igt, hl]), if_pos hl]
  ·rw [bz (by simp [igt]; omega), if_neg hl, sd, show ((((bm (dg b [n]).1).length : Int) + 1, bB (dg b [n]).1) : Sys) = JM (dg b [n]).1 from rfl, RO hr n hA hB, aZ]
   unfold O2
   by_cases hp : (dv (dg b [n]).1 c).2 = 0
   ·rw [if_neg (by simp [hp]), if_neg (by simp [hp]), bz (by rfl)]
    have hw := UK (n := n) hp
    dsimp only
    generalize PG (dg b [n]).1 n c = w at hw ⊢
    have f1 : -300000000000000000 ≤ Xm l.1 ∧ Xm l.1 ≤ 300000000000000000 := by unfold Xm; omega
    have f2 : -300000000000000000 ≤ Xm l.2 ∧ Xm l.2 ≤ 300000000000000000 := by unfold Xm; omega
    have q1 : ([fX w.2.1, fX w.2.2] : List (List Int)).flatten = fX w.2.1 ++ fX w.2.2 := by simp
    have q2 : ∀ x y z : List Int, ([x, y, z] : List (List Int)).flatten = x ++ (y ++ z) := by intro x y z; simp
    rw [FS hw.high, aZ, FS hw.low, aZ, mV (by simp) (by rw [q1]; simp [fX]), aZ, q1, abM, aZ, abM, aZ]
    generalize Xm l.1 = l1 at f1 ⊢
    generalize Xm l.2 = l2 at f2 ⊢
    rw [F3 hw.high (by omega), aZ, bG (by omega) (by omega), Int.zero_sub, F3 hw.low (by omega), aZ, mV (by simp) (by rw [q2]; simp [fX, pP]), aZ, q2,
     F3 hw.high (by omega), aZ, bG (by omega) (by omega), Int.zero_sub, F3 hw.low (by omega), aZ, mV (by simp) (by rw [q2]; simp [fX, pP]), aZ, q2]
    have hll : (xH w (l1, l2)).length = 18 := rfl
    have qs : fX w.2.1 ++ fX w.2.2 ++ (pP w.2.1 l1 ++ pP w.2.2 (-l1)) ++ (pP w.2.1 l2 ++ pP w.2.2 (-l2)) = xH w (l1, l2) := rfl
    rw [qs, Ye w (by rw [hll]; omega) (fun m hm => by
     unfold xH at hm
     simp only [List.mem_append] at hm
     rcases hm with ((hm | hm) | (hm | hm)) | (hm | hm)
     ·have := FT hw.high m hm; omega
     ·have := FT hw.low m hm; omega
     ·have := F4 hw.high f1 m hm; omega
     ·have := F4 hw.low (n := -l1) (by omega) m hm; omega
     ·have := F4 hw.high f2 m hm; omega
     ·have := F4 hw.low (n := -l2) (by omega) m hm; omega), aZ]
    have hnl := Vk w.1 (l := xH w (l1, l2)) (by rw [hll]; omega)
    have hsm := Yd hw (l := xH w (l1, l2))
    unfold UY
    generalize JU w.1 (xH w (l1, l2)) = ds at hnl hsm ⊢
    refine (gK ds (fun d => nZ (Gw w d) (l1, l2) == 3) (fun z30 => some ((!(ige z30 (0 : Int))), (0 : Int))) (some (false, 0)) (some (true, 0)) (fun j => by rw [show ige (j : Int) 0 = true from decide_eq_true (by omega)]; rfl) (fun i d hi hd kn => ?_) (fun kn => ?_)).trans ?_
    ·try dsimp only
     unfold kU
     rw [bC hi, bt hd, show dY ((w.1.1, w.1.2), (w.2.1.1, w.2.1.2.1, w.2.1.2.2), w.2.2.1, w.2.2.2.1, w.2.2.2.2) d = dY w d from rfl, XG hw (hsm d (List.mem_of_getElem? hd)), aZ, Ln, aZ, bv hi (by omega), dA]
    ·try dsimp only
     unfold kU
     rw [bX]
    ·rw [show (fun d => nZ (Gw w d) (l1, l2) != 3) = (fun d => !(nZ (Gw w d) (l1, l2) == 3)) from rfl, ← List.not_any_eq_all_not]
     cases ds.any fun d => nZ (Gw w d) (l1, l2) == 3 <;> rfl
   ·rw [if_pos hp, if_pos hp, bI (bne_iff_ne.2 hp)]
end Go.Proofs.ZzM
end
noncomputable section
namespace Go.Proofs.ZzM
open Go Go.Am
theorem W0 {b : bH} (h : In b) (n : Int × Int) (upper : Bool) : In (mI b n upper).1.1 := by
 have h0 : In kP := ⟨⟨by simp [kP], by simp [kP], by simp [kP], by simp [kP], by simp [kP], by simp [kP]⟩, by simp [kP]⟩
 unfold mI
 by_cases e : (dg b [n]).2 = 0
 ·rw [if_neg (by simp [e])]
  have hr := (jE h e).1
  split
  ·exact h0
  ·split
   ·exact abN (hr.good.inn hr.num) _ (by simp)
   ·exact h0
 ·rw [if_pos e]; exact h0
theorem y1 : vA exB (2, 10) = ((984, 1011), 0) := by decide +kernel
theorem y2 : vA exB (1, 30) = ((964, 1005), 0) := by decide +kernel
theorem y3 : Gm exB (1, 10) (2, 10) = ((-6, 11), 0) := by decide +kernel
theorem y4 : acW exB 10 [1, 2] = ((1979, 2018), 0) := by decide +kernel
theorem y5 : ZV exB (2, 0) (990, 1010) = (3, 0) := by decide +kernel
theorem y6 : (mI exB (2, 10) true).2 = 0 ∧ (mI exB (2, 10) true).1.2.2.2.1 = 1011 := by decide +kernel
theorem y7 : VX exB (2, 10) exC = (10, 0) := by decide +kernel
theorem y8 : Gj exB (2, 10) (900, 1100) exC = (true, 0) := by decide +kernel
theorem y9 : UD exB (mI exB (2, 10) true).1 = (true, 0) := by decide +kernel
theorem y10 : bN exB = 0 ∧ dC (bB exB) ((bm exB).length + 1) = true := by decide +kernel
theorem y11 : mW (mI exB (2, 10) true).1 = 0 := by decide +kernel
theorem Wc : gL = some true := by
 unfold gL xW vi tU
 have hc := W0 vq (2, 10) true
 have hv : I64 (mI exB (2, 10) true).1.2.2.2.1 := by rw [y6.2]; unfold I64; omega
 rw [aZ]
 rw [show ((((0 : Int), (2 : Int)), [((1 : Int), (0 : Int), (1000 : Int), ((-5 : Int), (5 : Int)), ((1 : Int), (10 : Int)), (1 : Int)), ((2 : Int), (0 : Int), (1000 : Int), ((-50 : Int), (50 : Int)), ((1 : Int), (4 : Int)), (0 : Int))], [((1 : Int), (10 : Int))], [((1 : Int), ((20 : Int), (29 : Int)), (3 : Int))], [((7 : Int), (10 : Int), [(1 : Int)], [(2 : Int)], (-20 : Int), (1 : Int), (100 : Int), (200 : Int))], ([] : List (Int × Int))) : bH) = exB from rfl]
 rw [yU vq, aZ, yU vq, aZ, ML vq, aZ, acV vq _ (by decide), aZ, aby vq, aZ, Xk vq, aZ, y1, y2, y3, y4, y5, y6.1, y6.2]
 rw [show vj exB ((2 : Int), (10 : Int)) ((8 : Int), (10 : Int), [(1 : Int)], [(2 : Int)], (0 : Int), (0 : Int), (0 : Int), (0 : Int)) = some (VX exB (2, 10) exC) from abv vq _ (c := exC) (by decide) (by decide),
  show nI exB ((2 : Int), (10 : Int)) ((900 : Int), (1100 : Int)) ((8 : Int), (10 : Int), [(1 : Int)], [(2 : Int)], (0 : Int), (0 : Int), (0 : Int), (0 : Int)) = some (Gj exB (2, 10) (900, 1100) exC) from Xg vq _ _ (c := exC) (by decide) (by decide),
  ZO vq hc hv, Ta ((bE _).1 y10.1) vq.num y10.2, EZ hc hv, y7, y8, y9, y11]
 rfl
end Go.Proofs.ZzM
end
noncomputable section
namespace Go.Proofs.ZzM
open Go Go.Am
def BX (b : bH) (n : Int × Int) : Prop := ∃ g ∈ b.2.1, g.1 = n.1 ∧ n.2 ∈ bO b g
theorem vW {b : bH} (h : cW b) {n : Int × Int} : lT b n.1 n.2 ≠ 0 ↔ BX b n := by
 unfold lT
 constructor
 ·intro hne
  cases hx : iN (bm b) n.1 n.2 with
  | none => rw [hx] at hne; simp at hne
  | some j =>
    have hm := List.mem_of_getElem? (jj hx).2
    unfold bm at hm
    obtain ⟨g, hg, hd⟩ := List.mem_flatMap.1 hm
    obtain ⟨d, hd, e⟩ := List.mem_map.1 hd
    simp only [Prod.mk.injEq] at e
    obtain ⟨e1, rfl⟩ := e
    exact ⟨g, hg, e1, hd⟩
 ·rintro ⟨g, hg, e, hd⟩
  obtain ⟨i, hi, rfl⟩ := List.mem_iff_getElem.1 hg
  obtain ⟨k, hk, e2⟩ := List.mem_iff_getElem.1 hd
  rw [← e, Ng h (List.getElem?_eq_getElem hi) (by rw [List.getElem?_eq_getElem hk, e2])]
  dsimp only
  omega
theorem Y9 (b : bH) (n : Int × Int) (g : cg) {d : Int} (hd : d ∈ bO b g) : d ∈ bO (jx b n) g := by
 unfold bO at hd ⊢
 rw [vH] at hd ⊢
 unfold Pd jx at *
 simp only [List.mem_append, List.mem_map, List.mem_filter] at hd ⊢
 rcases hd with (h | h) | ⟨m, ⟨h1, h2⟩, h3⟩
 ·exact .inl (.inl h)
 ·exact .inl (.inr h)
 ·exact .inr ⟨m, ⟨.inl h1, h2⟩, h3⟩
theorem Yt {b : bH} (n : Int × Int) (h' : cW (jx b n)) : BX (jx b n) n := by
 have hu := h'.looks n (by simp [jx])
 unfold aaa at hu
 split at hu
 ·omega
 obtain ⟨g, hg, _⟩ := Ck h' hu
 obtain ⟨hm, e⟩ := oP hg
 refine ⟨g, hm, e, ?_⟩
 unfold bO
 rw [vH]
 unfold Pd jx
 simp only [List.mem_append, List.mem_map, List.mem_filter]
 exact .inr ⟨n, ⟨.inr (by simp), by simp [e]⟩, rfl⟩
theorem Gs {b : bH} {n : Int × Int} (e : (ic b n).2 = 0) : (ic b n = (b, 0) ∧ lT b n.1 n.2 ≠ 0) ∨ (ic b n = (jx b n, 0) ∧ cW (jx b n) ∧ lT b n.1 n.2 = 0) := by
 unfold ic at e ⊢
 split
 ·rename_i h; exact .inl ⟨rfl, h⟩
 ·rename_i h1
  rw [if_neg h1] at e
  split
  ·rename_i h2; rw [if_pos h2] at e; exact absurd e h2
  ·rename_i h2; exact .inr ⟨rfl, (bE _).1 (by simpa using h2), by simpa using h1⟩
theorem P1 : ∀ {ns : List (Int × Int)} {b : bH}, (eO b ns).2 = 0 → ∀ n, BX b n → BX (eO b ns).1 n
 | [], b, _, n, hn => hn
 | m :: t, b, e, n, hn => by
   unfold eO at e ⊢
   split
   ·rename_i h1; rw [if_pos h1] at e; exact absurd e h1
   ·rename_i h1
    rw [if_neg h1] at e
    refine P1 e n ?_
    rcases Gs (by simpa using h1) with ⟨h, _⟩ | ⟨h, _, _⟩
    ·rw [h]; exact hn
    ·rw [h]
     obtain ⟨g, hg, e1, hd⟩ := hn
     exact ⟨g, hg, e1, Y9 b m g hd⟩
theorem GD : ∀ {ns : List (Int × Int)} {b : bH}, cW b → (eO b ns).2 = 0 → ∀ n ∈ ns, BX (eO b ns).1 n
 | [], b, _, _, n, hn => by simp at hn
 | m :: t, b, hg, e, n, hn => by
   unfold eO at e ⊢
   split
   ·rename_i h1; rw [if_pos h1] at e; exact absurd e h1
   ·rename_i h1
    rw [if_neg h1] at e
    have h1' : (ic b m).2 = 0 := by simpa using h1
    rcases List.mem_cons.1 hn with rfl | hn
    ·refine P1 e n ?_
     rcases Gs h1' with ⟨h, h2⟩ | ⟨h, h2, _⟩
     ·rw [h]; exact (vW hg).1 h2
     ·rw [h]; exact Yt n h2
    ·exact GD (PQ hg h1') e n hn
theorem Yu {b : bH} {n : Int × Int} {f : Int → Int → Int} {z : Int} : SP (jx b n) f z ↔ SP b f z :=
 ⟨fun h => ⟨fun g hg => by have := h.gauge g hg; exact ⟨this.hi, this.lo, this.down, this.loss⟩, h.cmp⟩, fun h => ⟨fun g hg => by have := h.gauge g hg; exact ⟨this.hi, this.lo, this.down, this.loss⟩, h.cmp⟩⟩
theorem P2 : ∀ {ns : List (Int × Int)} {b : bH}, (eO b ns).2 = 0 → ∀ {f : Int → Int → Int} {z : Int}, SP (eO b ns).1 f z ↔ SP b f z
 | [], b, _, f, z => Iff.rfl
 | m :: t, b, e, f, z => by
   unfold eO at e ⊢
   split
   ·rename_i h1; rw [if_pos h1] at e; exact absurd e h1
   ·rename_i h1
    rw [if_neg h1] at e
    rw [P2 e]
    rcases Gs (by simpa using h1) with ⟨h, _⟩ | ⟨h, _, _⟩
    ·rw [h]
    ·rw [h]; exact Yu
section
variable {B : bH} (h : ZP B)
include h
end
structure Asked (b : bH) (ns : List (Int × Int)) (B : bH) : Prop where
 room : ZP B
 nodes : ∀ n ∈ ns, BX B n
 hist : ∀ {f : Int → Int → Int} {z : Int}, SP B f z ↔ SP b f z
 good : cW b
 gauges : B.2.1 = b.2.1
theorem Wj {b : bH} (hI : In b) {ns : List (Int × Int)} (e : (dg b ns).2 = 0) : Asked b ns (dg b ns).1 := by
 obtain ⟨h1, h2, h3, h4⟩ := jE hI e
 exact ⟨h1, by rw [h2]; exact GD h4 h3, by rw [h2]; exact P2 h3, h4, by rw [h2]; exact mZ h3⟩
def ME (c : Cmp) : Bool := decide (c.2.2.1.length ≤ 10) && decide (c.2.2.2.1.length ≤ 10)
theorem ZB (c : Cmp) : vZ c = some (ME c) := by
 unfold vZ Cn ME
 rw [bU, bU, dA]
 by_cases h : c.2.2.1.length ≤ 10
 ·rw [if_pos (by simp [ile]; omega)]
  simp [ile, h]
  omega
 ·rw [if_neg (by simp [ile]; omega)]
  simp [h]
def fewP (b : bH) : Bool :=
 !((b.2.2.2.2.1.take 50).any fun c => !ME c) && (decide (b.2.1.length ≤ 14) && (decide (b.2.2.1.length ≤ 45) && (decide (b.2.2.2.1.length ≤ 14) && (decide (b.2.2.2.2.1.length ≤ 42) && decide (b.2.2.2.2.2.length ≤ 12)))))
theorem few_ok (b : bH) : Gd b = some (fewP b) := by
 unfold Gd Nq
 have last : (ifb (ile (bK b.2.1) (14 : Int)) (ifb (ile (bK b.2.2.1) (45 : Int)) (ifb (ile (bK b.2.2.2.1) (14 : Int)) (ifb (ile (bK b.2.2.2.2.1) (42 : Int)) (some (ile (bK b.2.2.2.2.2) (12 : Int))) (some false)) (some false)) (some false)) (some false)) =
  some (decide (b.2.1.length ≤ 14) && (decide (b.2.2.1.length ≤ 45) && (decide (b.2.2.2.1.length ≤ 14) && (decide (b.2.2.2.2.1.length ≤ 42) && decide (b.2.2.2.2.2.length ≤ 12))))) := by
  have e : ∀ (n m : Nat), ile (n : Int) (m : Int) = decide (n ≤ m) := fun n m => by simp [ile]
  rw [bU, bU, bU, bU, bU, show (14 : Int) = ((14 : Nat) : Int) from rfl, show (45 : Int) = ((45 : Nat) : Int) from rfl, show (42 : Int) = ((42 : Nat) : Int) from rfl, show (12 : Int) = ((12 : Nat) : Int) from rfl, e, e, e, e, e]
  generalize decide (b.2.1.length ≤ 14) = x1
  generalize decide (b.2.2.1.length ≤ 45) = x2
  generalize decide (b.2.2.2.1.length ≤ 14) = x3
  generalize decide (b.2.2.2.2.1.length ≤ 42) = x4
  cases x1 <;> cases x2 <;> cases x3 <;> cases x4 <;> rfl
 rw [last]
 refine Eq.trans (gK (b.2.2.2.2.1.take 50) (fun c => !ME c) (fun _ => some false) (some false) (some (decide (b.2.1.length ≤ 14) && (decide (b.2.2.1.length ≤ 45) && (decide (b.2.2.2.1.length ≤ 14) && (decide (b.2.2.2.2.1.length ≤ 42) && decide (b.2.2.2.2.2.length ≤ 12)))))) (fun _ => rfl) (fun i c hi hc kn => ?_) (fun kn => ?_)) ?_
 ·try dsimp only
  unfold qT
  rw [List.length_take] at hi
  have hc' : b.2.2.2.2.1[i]? = some c := by rw [List.getElem?_take] at hc; split at hc <;> simp_all
  rw [bC (show i < b.2.2.2.2.1.length by omega), bI (decide_eq_true (by omega)), bt hc', ZB, aZ, bG (by omega) (by omega), dA]
 ·try dsimp only
  unfold qT
  rw [List.length_take, dA]
  split
  ·rename_i h
   have h' : 50 < b.2.2.2.2.1.length := by rw [bU] at h; simp [ilt] at h; omega
   rw [bz (decide_eq_false (by omega))]
  ·rfl
 ·unfold fewP
  cases List.any (List.take 50 b.2.2.2.2.1) (fun c => !ME c) <;> rfl
theorem aaW {b : bH} (h : fewP b = true) : jt b := by
 simp only [fewP, Bool.and_eq_true, Bool.not_eq_true', decide_eq_true_eq] at h
 obtain ⟨h0, h1, h2, h3, h4, h5⟩ := h
 refine ⟨by omega, by omega, by omega, by omega, by omega, fun c hc => ?_⟩
 rw [List.take_of_length_le (by omega)] at h0
 have := List.any_eq_false.1 h0 c hc
 simp [ME] at this
 omega
end Go.Proofs.ZzM
end
noncomputable section
namespace Go.Proofs.ZzM
open Go Go.Am
theorem Se {b : bH} (h : cW b) {y : List Int} (hy : y.length = (bm b).length + 1) (h0 : gv y 0 = 0) (hp : Pot (bB b) (gv y)) : wF b (y.drop 1) = (true, 0) := by
 have e : 0 :: y.drop 1 = y := by
  cases y with
  | nil => simp at hy
  | cons a t =>
    have : a = 0 := h0
    rw [this]; rfl
 rw [nW]
 refine ⟨h, EM.2 ⟨by simp; omega, fun n hn => ?_⟩, ?_⟩
 ·obtain ⟨i, hi, rfl⟩ := List.mem_iff_getElem.1 hn
  rw [List.length_drop] at hi
  have := aao h hp (v := ((1 + i : Nat) : Int)) (by omega) (by omega)
  rw [h0] at this
  unfold gv at this
  rw [Int.toNat_natCast, List.getElem?_eq_getElem (by omega)] at this
  rw [List.getElem_drop]
  simp only [Option.getD_some] at this
  omega
 ·unfold WK
  rw [e]
  exact By.2 hp
theorem YW {b : bH} (h : cW b) {x : List Int} (hf : WK b x = true) : dC (bB b) ((bm b).length + 1) = true := by
 have := h.sys.n60
 exact (d9 h.sys.links (by omega)).2 ⟨_, By.1 (show O9 (bB b) (0 :: x) = true from hf)⟩
end Go.Proofs.ZzM
end
noncomputable section
namespace Go.Proofs.ZzM
open Go Go.Am
theorem FV (L : List Lk) (N : Nat) : (PE L N).length = N := by unfold PE dP; rw [List.length_map, dp, ce]
theorem SY {L : List Lk} {N : Nat} {v : Int} (h0 : 0 ≤ v) (h1 : v < N) : gv (PE L N) v = gv (dP L N) v - gv (dP L N) 0 := by
 have hl : (dP L N).length = N := by unfold dP; rw [dp, ce]
 have h2 : v.toNat < (dP L N).length := by omega
 unfold PE
 generalize gv (dP L N) 0 = z
 unfold gv
 rw [List.getElem?_map, List.getElem?_eq_getElem h2]
 rfl
theorem aah {L : List Lk} {N : Nat} (h : fN L N) (ho : dC L N = true) : Pot L (gv (PE L N)) ∧ gv (PE L N) 0 = 0 := by
 have h2 := h.n60
 have h1 := h.n1
 obtain ⟨p, hp⟩ := (d9 h.links (by omega)).1 ho
 refine ⟨fun u v m hl => ?_, by rw [SY (by omega) (by omega)]; omega⟩
 have hr := h.inr _ hl
 have hlen : (dP L N).length = N := by unfold dP; rw [dp, ce]
 have hu : gv (dP L N) u ≤ 0 := (UW h.links (by omega) ho _ (List.mem_of_getElem? (Ml (by omega)))).2
 have := (vF h.links (by omega) hp).pot h.inr hl (by show gv (dP L N) u ≠ fP; unfold fP; omega)
 have e1 := SY (L := L) hr.1.1 hr.1.2
 have e2 := SY (L := L) hr.2.1 hr.2.2
 dsimp only at e1 e2
 have e : gv (dP L N) v ≤ gv (dP L N) u + m := this
 omega
section
variable {B : bH} (h : ZP B)
include h
theorem VE {v : Int} (hv : 0 ≤ v ∧ v < ((bm B).length + 1 : Nat)) : (-4503599627370496 ≤ yW B 0 v ∧ yW B 0 v ≤ 4503599627370496) ∧ (-4503599627370496 ≤ yW B v 0 ∧ yW B v 0 ≤ 4503599627370496) := by
 have a1 : yW B 0 v ≤ 4503599627370496 := Xd h.good.sys h.good.tied h.op hv.1 hv.2
 have a2 : yW B v 0 ≤ 4503599627370496 := Xc h.good.sys h.good.tied h.op hv.1 hv.2
 have a3 : -(yW B v 0) ≤ yW B 0 v := BL h.good.sys h.good.tied h.op hv (eo B)
 omega
def jB (B : bH) (u v : Int) : List Lk := bB B ++ [(v, u, -(yW B u v))]
theorem GH {u v : Int} (hu : 0 ≤ u ∧ u < ((bm B).length + 1 : Nat)) (hv : 0 ≤ v ∧ v < ((bm B).length + 1 : Nat)) (hne : v ≠ u) (hb : -4503599627370496 ≤ yW B u v ∧ yW B u v ≤ 4503599627370496) : fN (jB B u v) ((bm B).length + 1) := by
 have hs := h.good.sys
 have hl := II h.good
 have hn := h.good.nodes
 have hc := h.good.nC
 have q : ∀ l ∈ jB B u v, l ∈ bB B ∨ l = (v, u, -(yW B u v)) := by
  intro l hl
  rcases List.mem_append.1 hl with h | h
  ·exact .inl h
  ·exact .inr (List.mem_singleton.1 h)
 refine ⟨hs.n1, hs.n60, by unfold jB; rw [List.length_append, hl]; simp only [List.length_singleton]; omega, fun l hl => ?_, fun l hl => ?_, fun l hl => ?_⟩
 ·rcases q l hl with h | rfl
  ·exact hs.inr l h
  ·exact ⟨hv, hu⟩
 ·rcases q l hl with h | rfl
  ·exact hs.noloop l h
  ·exact hne
 ·rcases q l hl with h | rfl
  ·exact hs.most l h
  ·dsimp only; omega
theorem Lz {u v : Int} (hu : 0 ≤ u ∧ u < ((bm B).length + 1 : Nat)) (hv : 0 ≤ v ∧ v < ((bm B).length + 1 : Nat)) (hs : fN (jB B u v) ((bm B).length + 1)) : dC (jB B u v) ((bm B).length + 1) = true := by
 have hN := hs.n60
 have ho := BL h.good.sys h.good.tied h.op hv hu
 obtain ⟨p, hp, e⟩ := Y6 h.good.sys h.good.tied h.op hv hu (t := yW B u v) ho (Int.le_refl _)
 refine (d9 hs.links (by omega)).2 ⟨p, fun a b m hl => ?_⟩
 rcases List.mem_append.1 hl with h1 | h1
 ·exact hp a b m h1
 ·rw [List.mem_singleton] at h1
  cases h1
  omega
theorem P5 {u v : Int} (hu : 0 ≤ u ∧ u < ((bm B).length + 1 : Nat)) (hv : 0 ≤ v ∧ v < ((bm B).length + 1 : Nat)) (hne : v ≠ u) (hb : -4503599627370496 ≤ yW B u v ∧ yW B u v ≤ 4503599627370496) :
 vl (JM B) u v = some (PE (jB B u v) ((bm B).length + 1), 0) := by
 have hs := GH h hu hv hne hb
 have hl := h.good.sys.len
 unfold vl HK
 rw [B6, B3 h.good.sys hu hv, aZ, qL h.good.sys h.good.tied hu hv, if_pos h.op]
 dsimp only
 rw [bz (by rfl), dh (bD (by omega)), show dst (bB B) ((bm B).length + 1) u v = yW B u v from rfl, bG (by omega) (by omega), dh (bD (by simp only [List.length_singleton]; omega)), Int.zero_sub,
  show bB B ++ [(v, u, -(yW B u v))] = jB B u v from rfl, qN hs.links hs.n1 (by have := hs.n60; omega), if_pos (Lz h hu hv hs), aZ]
theorem P6 {u v : Int} (hu : 0 ≤ u ∧ u < ((bm B).length + 1 : Nat)) (hv : 0 ≤ v ∧ v < ((bm B).length + 1 : Nat)) (hs : fN (jB B u v) ((bm B).length + 1)) :
 Pot (bB B) (gv (PE (jB B u v) ((bm B).length + 1))) ∧ gv (PE (jB B u v) ((bm B).length + 1)) 0 = 0 ∧ gv (PE (jB B u v) ((bm B).length + 1)) v - gv (PE (jB B u v) ((bm B).length + 1)) u = yW B u v := by
 obtain ⟨h1, h2⟩ := aah hs (Lz h hu hv hs)
 have h3 : Pot (bB B) (gv (PE (jB B u v) ((bm B).length + 1))) := fun a b m hl => h1 a b m (List.mem_append.2 (.inl hl))
 have h4 := sj h.good.sys h.good.tied h.op hu hv h3
 have h5 := h1 v u _ (List.mem_append.2 (.inr (List.mem_singleton.2 rfl)))
 refine ⟨h3, h2, ?_⟩
 unfold yW at h5 ⊢
 omega
def hZ (B : bH) (n : Int × Int) (upper : Bool) : List Int :=
 (if upper then PE (jB B 0 (lT B n.1 n.2)) ((bm B).length + 1) else PE (jB B (lT B n.1 n.2) 0) ((bm B).length + 1)).drop 1
theorem RY {n : Int × Int} (hn : BX B n) (upper : Bool) : wF B (hZ B n upper) = (true, 0) ∧ gv (0 :: hZ B n upper) (lT B n.1 n.2) = (if upper then (ivR B n).2 else (ivR B n).1) ∧ (hZ B n upper).length = (bm B).length := by
 have hr := di B n
 have hz := eo B
 have hne := (vW h.good).2 hn
 have hd := VE h hr
 have key : ∀ y : List Int, y.length = (bm B).length + 1 → gv y 0 = 0 → 0 :: y.drop 1 = y := by
  intro y hy h0
  cases y with
  | nil => simp at hy
  | cons a t =>
    have : a = 0 := h0
    rw [this]; rfl
 unfold hZ
 cases upper with
 | true =>
   rw [if_pos rfl, if_pos rfl]
   have hs := GH h hz hr hne hd.1
   obtain ⟨p1, p2, p3⟩ := P6 h hz hr hs
   have hl := FV (jB B 0 (lT B n.1 n.2)) ((bm B).length + 1)
   refine ⟨Se h.good hl p2 p1, ?_, by rw [List.length_drop, hl]; omega⟩
   rw [key _ hl p2]
   unfold ivR
   omega
 | false =>
   rw [if_neg (by simp), if_neg (by simp)]
   have hs := GH h hr hz (fun e => hne e.symm) hd.2
   obtain ⟨p1, p2, p3⟩ := P6 h hr hz hs
   have hl := FV (jB B (lT B n.1 n.2) 0) ((bm B).length + 1)
   refine ⟨Se h.good hl p2 p1, ?_, by rw [List.length_drop, hl]; omega⟩
   rw [key _ hl p2]
   unfold ivR
   dsimp only
   omega
end
theorem WI {ρ : Type} : @ph ρ = @cn ρ := rfl
def Pz (b : bH) (n : Int × Int) (upper : Bool) : List Int × Int := if (dg b [n]).2 ≠ 0 then ([], (dg b [n]).2) else (hZ (dg b [n]).1 n upper, 0)
theorem Xj {b : bH} (hI : In b) (n : Int × Int) (upper : Bool) : gO b n upper = some (Pz b n upper) := by
 unfold gO yl Pz
 rw [WI]
 refine (ob hI (ns := [n]) (by simp) (fun e => some ([], e)) (fun e he => by rw [dh (by simp [ine, he])]) (fun z he => by rw [dh (by simp [ine, he])]) (fun _ _ _ => rfl)).trans ?_
 split
 ·rfl
 ·rename_i e
  have hA := Wj hI (by simpa using e)
  have hr := hA.room
  have hn := hA.nodes n (by simp)
  dsimp only
  generalize (dg b [n]).1 = B at hr hn ⊢
  have hd := VE hr (di B n)
  have hne := (vW hr.good).2 hn
  rw [sd, show ((((bm B).length : Int) + 1, bB B) : Sys) = JM B from rfl, EY hr.good hr.num, aZ]
  unfold hZ
  cases upper with
  | true =>
    rw [eD, P5 hr (eo B) (di B n) hne hd.1, aZ, bz (by rfl), dh (decide_eq_true (by show (1 : Int) ≤ ((PE (jB B 0 (lT B n.1 n.2)) ((bm B).length + 1)).length : Int); rw [FV]; omega))]
    rfl
  | false =>
    rw [b7, P5 hr (di B n) (eo B) (fun e => hne e.symm) hd.2, aZ, bz (by rfl), dh (decide_eq_true (by show (1 : Int) ≤ ((PE (jB B (lT B n.1 n.2) 0) ((bm B).length + 1)).length : Int); rw [FV]; omega))]
    rfl
theorem Mj (n : Int) (s : Int × Int) : nD n s = some (decide (s.1 ≤ n) && decide (n ≤ s.2)) := by
 unfold nD xX
 rw [dA]
 by_cases h : s.1 ≤ n
 ·rw [if_pos (by simpa [ige] using h)]; simp [h]
 ·rw [if_neg (by simpa [ige] using h)]; simp [h]
def U6 (b : bH) (n : Int × Int) : Int := if (tg b n).2 ≠ 0 then -1 else (tg b n).1 - 1
theorem U5 {b : bH} (hI : In b) (n : Int × Int) : qy b n = some (U6 b n) := by
 unfold qy Cl U6
 rw [qK hI, aZ]
 by_cases h : (tg b n).2 = 0
 ·rw [bz (by rw [h]; rfl), if_neg (by simp [h])]
  have hl := Cj hI.size
  have hr := di b n
  have hb : 0 ≤ (tg b n).1 ∧ (tg b n).1 ≤ 3000000 := by
   unfold tg
   split
   ·simp
   ·split
    ·simp
    ·dsimp only; omega
  rw [bG (by omega) (by omega)]
 ·rw [bI (bne_iff_ne.2 h), if_pos h]
theorem GK {b : bH} (h : cW b) (n : Int × Int) : U6 b n = lT b n.1 n.2 - 1 := by
 unfold U6
 rw [nT h]
 by_cases h0 : lT b n.1 n.2 = 0
 ·rw [if_pos h0, h0]; rfl
 ·rw [if_neg h0]; rfl
def P3 : bH → List (Int × Int) → bH × Bool
 | b, [] => (b, true)
 | b, n :: t => if (ic b n).2 ≠ 0 then (b, false) else P3 (ic b n).1 t
theorem U2 : ∀ (ns : List (Int × Int)) (b : bH), (P3 b ns).2 = decide ((eO b ns).2 = 0) ∧ ((eO b ns).2 = 0 → P3 b ns = ((eO b ns).1, true))
 | [], b => ⟨rfl, fun _ => rfl⟩
 | n :: t, b => by
   unfold P3 eO
   by_cases h : (ic b n).2 = 0
   ·rw [if_neg (by simp [h]), if_neg (by simp [h])]
    exact U2 t _
   ·rw [if_pos h, if_pos h]
    exact ⟨by simp [h], fun e => absurd e h⟩
abbrev ac1 : Type := Int × Int × List cg × List (Int × Int) × List Gk × List Cmp × List (Int × Int) × Flat
def bk2 (s : ac1) : bH := ((s.1, s.2.1), s.2.2.1, s.2.2.2.1, s.2.2.2.2.1, s.2.2.2.2.2.1, s.2.2.2.2.2.2.1)
theorem Xu {b : bH} (hg : cW b) (hn : ∀ g ∈ b.2.1, I64 g.2.2.2.2.1.1) {ns : List (Int × Int)} (hl : ns.length ≤ 1000) : nB b ns = some (P3 b ns) := by
 unfold nB zE
 refine F8 ns (fun (i : Nat) (s : ac1) (t : List (Int × Int)) => some (P3 (bk2 s) t)) (fun i s => cW (bk2 s) ∧ ∀ g ∈ (bk2 s).2.1, I64 g.2.2.2.2.1.1) (fun s hs kn => ?_) (fun i n t s hd hi ha hs kn hk => ?_) (s := (b.1.1, b.1.2, b.2.1, b.2.2.1, b.2.2.2.1, b.2.2.2.2.1, b.2.2.2.2.2, 0, 0, [], [], [], [], [])) ⟨hg, hn⟩
 ·dsimp only
  unfold lj
  rw [bX]
  rfl
 ·dsimp only
  unfold lj
  obtain ⟨hs1, hs2⟩ := hs
  have hin : In (bk2 s) := hs1.inn hs2
  rw [bC hi, bt ha, bt ha]
  rw [show dc ((s.1, s.2.1), s.2.2.1, s.2.2.2.1, s.2.2.2.2.1, s.2.2.2.2.2.1, s.2.2.2.2.2.2.1) n = dc (bk2 s) n from rfl, qK hin, aZ]
  rw [show fm ((s.1, s.2.1), s.2.2.1, s.2.2.2.1, s.2.2.2.2.1, s.2.2.2.2.2.1, s.2.2.2.2.2.2.1) n = fm (bk2 s) n from rfl, UF hin, aZ, nT hs1]
  have hu : P3 (bk2 s) (n :: t) = if (ic (bk2 s) n).2 ≠ 0 then (bk2 s, false) else P3 (ic (bk2 s) n).1 t := rfl
  rw [hu]
  by_cases h0 : lT (bk2 s) n.1 n.2 = 0
  ·rw [if_pos h0, bz (by rfl)]
   by_cases h2 : bN (jx (bk2 s) n) = 0
   ·have e : ic (bk2 s) n = (jx (bk2 s) n, 0) := by unfold ic; rw [if_neg (by simp [h0]), if_neg (by simp [h2])]
    have e2 : FO (bk2 s) n = (jx (bk2 s) n, 0) := by unfold FO; rw [if_neg (by simp [(bE (bk2 s)).2 hs1]), if_neg (by simp [h2])]
    rw [e2, e, bz (by rfl), bv hi (by omega), if_neg (show ¬ ((0 : Int) ≠ 0) by simp)]
    exact hk (s.1, s.2.1, s.2.2.1, s.2.2.2.1, s.2.2.2.2.1, s.2.2.2.2.2.1, s.2.2.2.2.2.2.1 ++ [n], s.2.2.2.2.2.2.2) ⟨(bE _).1 h2, hs2⟩
   ·have e : ic (bk2 s) n = (kP, bN (jx (bk2 s) n)) := by unfold ic; rw [if_neg (by simp [h0]), if_pos h2]
    have e2 : FO (bk2 s) n = (kP, bN (jx (bk2 s) n)) := by unfold FO; rw [if_neg (by simp [(bE (bk2 s)).2 hs1]), if_pos h2]
    rw [e2, e, bI (bne_iff_ne.2 h2), if_pos h2]
    rfl
  ·have e : ic (bk2 s) n = (bk2 s, 0) := by unfold ic; rw [if_pos h0]
   rw [if_neg h0, bI (by rfl), bv hi (by omega), e, if_neg (show ¬ ((0 : Int) ≠ 0) by simp)]
   exact hk s ⟨hs1, hs2⟩
theorem Z7 {b : bH} (hI : In b) (hc : bN b ≠ 0) (n : Int × Int) (t : List (Int × Int)) (hl : (n :: t).length ≤ 1000) : nB b (n :: t) = some (b, false) := by
 unfold nB zE
 refine fK (fun (v : Int × ac1) => v = (0, b.1.1, b.1.2, b.2.1, b.2.2.1, b.2.2.2.1, b.2.2.2.2.1, b.2.2.2.2.2, 0, 0, [], [], [], [], [])) (fun _ => 0) (fun v hv => .inl fun kn => ?_) rfl
 subst hv
 dsimp only
 unfold lj
 have e1 : tg b n = (0, bN b) := by unfold tg; rw [if_pos hc]
 have e2 : FO b n = (kP, bN b) := by unfold FO; rw [if_pos hc]
 rw [bU, bI (decide_eq_true (by rw [List.length_cons]; omega)), IU, IU, show dc ((b.1.1, b.1.2), b.2.1, b.2.2.1, b.2.2.2.1, b.2.2.2.2.1, b.2.2.2.2.2) n = dc b n from rfl, qK hI, aZ,
  show fm ((b.1.1, b.1.2), b.2.1, b.2.2.1, b.2.2.2.1, b.2.2.2.2.1, b.2.2.2.2.2) n = fm b n from rfl, UF hI, aZ, e1, e2, bz (beq_eq_false_iff_ne.2 hc), bI (bne_iff_ne.2 hc)]
theorem Z6 {b : bH} (hI : In b) {ns : List (Int × Int)} (hl : ns.length ≤ 1000) (h0 : ns ≠ []) : ∃ y : bH × Bool, nB b ns = some y ∧ (y.2 = true ↔ cW b ∧ (eO b ns).2 = 0) ∧ (y.2 = true → y = ((eO b ns).1, true)) := by
 by_cases hc : bN b = 0
 ·have hg := (bE b).1 hc
  have hr := U2 ns b
  refine ⟨_, Xu hg hI.num hl, ⟨fun h => ⟨hg, by rw [hr.1] at h; exact of_decide_eq_true h⟩, fun h => by rw [hr.1]; exact decide_eq_true h.2⟩, fun h => hr.2 (by rw [hr.1] at h; exact of_decide_eq_true h)⟩
 ·cases ns with
  | nil => exact absurd rfl h0
  | cons n t => exact ⟨_, Z7 hI hc n t hl, ⟨fun h => (Bool.noConfusion h), fun h => absurd ((bE b).2 h.1) hc⟩, fun h => Bool.noConfusion h⟩
theorem LK {b : bH} (hg : cW b) : ∀ {ns : List (Int × Int)}, (∀ n ∈ ns, BX b n) → eO b ns = (b, 0)
 | [], _ => rfl
 | n :: t, h => by
   have e : ic b n = (b, 0) := by unfold ic; rw [if_pos ((vW hg).2 (h n (by simp)))]
   unfold eO
   rw [e, if_neg (by simp)]
   exact LK hg fun m hm => h m (by simp [hm])
theorem JJ {b : bH} (hg : cW b) {ns : List (Int × Int)} (h : ∀ n ∈ ns, BX b n) : dg b ns = if dC (bB b) ((bm b).length + 1) then (b, 0) else (kP, 9) := by
 unfold dg
 rw [if_neg (by simp [(bE b).2 hg]), LK hg h, if_neg (by simp)]
end Go.Proofs.ZzM
end
noncomputable section
namespace Go.Proofs.ZzM
open Go Go.Am
theorem aaP {x : List Int} {k : Int} (h1 : 1 ≤ k) : gv (0 :: x) k = gv x (k - 1) := by
 rw [acu _ _ (by omega), if_neg (by omega)]
theorem Bt {ρ : Type} {x : List Int} {k : Int} (h1 : 1 ≤ k) (h2 : k ≤ x.length) (f : Int → Option ρ) : dn x (k - 1) f = f (gv (0 :: x) k) := by
 rw [l7 (by omega) (by omega), aaP h1]
theorem acA {B : bH} (h : ZP B) {x : List Int} (hx : wF B x = (true, 0)) (n : Int × Int) : (ivR B n).1 ≤ gv (0 :: x) (lT B n.1 n.2) ∧ gv (0 :: x) (lT B n.1 n.2) ≤ (ivR B n).2 := by
 obtain ⟨_, _, hf⟩ := nW.1 hx
 have hp : Pot (bB B) (gv (0 :: x)) := By.1 hf
 have a1 := sj h.good.sys h.good.tied h.op (di B n) (eo B) hp
 have a2 := sj h.good.sys h.good.tied h.op (eo B) (di B n) hp
 have e : gv (0 :: x) 0 = 0 := rfl
 rw [e] at a1 a2
 unfold ivR yW
 dsimp only
 omega
theorem acB {B : bH} (h : ZP B) {x : List Int} (hx : wF B x = (true, 0)) (m n : Int × Int) : (btR B m n).1 ≤ gv (0 :: x) (lT B m.1 m.2) - gv (0 :: x) (lT B n.1 n.2) ∧ gv (0 :: x) (lT B m.1 m.2) - gv (0 :: x) (lT B n.1 n.2) ≤ (btR B m n).2 := by
 obtain ⟨_, _, hf⟩ := nW.1 hx
 have hp : Pot (bB B) (gv (0 :: x)) := By.1 hf
 have a1 := sj h.good.sys h.good.tied h.op (di B m) (di B n) hp
 have a2 := sj h.good.sys h.good.tied h.op (di B n) (di B m) hp
 unfold btR yW
 dsimp only
 omega
theorem YV {B : bH} (hn : ∀ g ∈ B.2.1, I64 g.2.2.2.2.1.1) {x : List Int} (hx : wF B x = (true, 0)) : ZP B :=
 ⟨(nW.1 hx).1, YW (nW.1 hx).1 (nW.1 hx).2.2, hn⟩
theorem YK {b : bH} (hn : ∀ g ∈ b.2.1, I64 g.2.2.2.2.1.1) (m n : Int × Int) (x : List Int) : nE b m n x = some true := by
 unfold nE nf
 rw [few_ok, aZ, Wc]
 by_cases hf : fewP b = true
 case neg => rw [Bool.eq_false_iff.2 hf]; rfl
 have hI : In b := ⟨aaW hf, hn⟩
 rw [hf, bz (by rfl), bU]
 by_cases hx7 : 70 < x.length
 ·rw [bI (decide_eq_true (by omega)), aZ]
 rw [bz (decide_eq_false (by omega))]
 obtain ⟨y, hy, hy1, hy2⟩ := Z6 hI (ns := [m, n]) (by simp) (by simp)
 rw [hy, aZ]
 by_cases hok : y.2 = true
 case neg => rw [Bool.eq_false_iff.2 hok]; rfl
 obtain ⟨hg0, hr⟩ := hy1.1 hok
 rw [hy2 hok]
 have hg := ze hg0 hr
 have hN : ∀ g ∈ (eO b [m, n]).1.2.1, I64 g.2.2.2.2.1.1 := by rw [mZ hr]; exact hn
 have hnode := GD hg0 hr
 generalize (eO b [m, n]).1 = B at hg hN hnode ⊢
 have hIB := hg.inn hN
 have nm := hnode m (by simp)
 have nn := hnode n (by simp)
 have q1 : dg B [m] = if dC (bB B) ((bm B).length + 1) then (B, 0) else (kP, 9) := JJ hg (fun k hk => by simp at hk; subst hk; exact nm)
 have q2 : dg B [m, n] = if dC (bB B) ((bm B).length + 1) then (B, 0) else (kP, 9) := JJ hg hnode
 have im := (vW hg).2 nm
 have in_ := (vW hg).2 nn
 have rm := di B m
 have rn := di B n
 dsimp only
 rw [bz (by rfl), yU hIB, aZ, ML hIB, aZ, U5 hIB, aZ, U5 hIB, aZ, GK hg, GK hg]
 unfold vA Gm
 rw [q1, q2]
 by_cases ho : dC (bB B) ((bm B).length + 1) = true
 ·have hR : ZP B := ⟨hg, ho, hN⟩
  rw [if_pos ho]
  dsimp only
  rw [if_neg (by simp), if_neg (by simp), bz (by rfl)]
  have hist : ∀ u : Bool, gO B m u = some (hZ B m u, 0) := by
   intro u
   rw [Xj hIB]
   unfold Pz
   rw [q1, if_pos ho, if_neg (by simp)]
  have side : ∀ u : Bool, wF B (hZ B m u) = (true, 0) ∧ gv (0 :: hZ B m u) (lT B m.1 m.2) = (if u then (ivR B m).2 else (ivR B m).1) ∧ (hZ B m u).length = (bm B).length := fun u => RY hR nm u
  refine fK (fun v => v = 0 ∨ v = 1 ∨ v = 2) (fun v => (2 - v).toNat) (fun v hv => ?_) (.inl rfl)
  rcases hv with rfl | rfl | rfl
  ·refine .inr ⟨1, .inr (.inl rfl), by decide, fun kn => ?_⟩
   unfold ew
   obtain ⟨s1, s2, s3⟩ := side false
   rw [if_neg (by simp)] at s2
   rw [bI (by rfl), bI (by rfl), show gO ((B.1.1, B.1.2), B.2.1, B.2.2.1, B.2.2.2.1, B.2.2.2.2.1, B.2.2.2.2.2) (m.1, m.2) (ieq (0 : Int) 1) = gO B m false from rfl, hist, aZ,
    show mE ((B.1.1, B.1.2), B.2.1, B.2.2.1, B.2.2.2.1, B.2.2.2.2.1, B.2.2.2.2.2) (hZ B m false, (0 : Int)).1 = mE B (hZ B m false) from rfl, PA hIB.size hIB.num, aZ, s1]
   dsimp only
   rw [bz (by rfl), bz (by rfl), bz (by rfl), bz (decide_eq_false (by omega)), bU, s3, bz (decide_eq_false (by omega)), bI (by rfl), Bt (by omega) (by rw [s3]; omega), s2, bz (bne_self_eq_false' _), bz (by rfl), bG (by omega) (by omega)]
   rfl
  ·refine .inr ⟨2, .inr (.inr rfl), by decide, fun kn => ?_⟩
   unfold ew
   obtain ⟨s1, s2, s3⟩ := side true
   rw [if_pos rfl] at s2
   rw [bI (by rfl), bI (by rfl), show gO ((B.1.1, B.1.2), B.2.1, B.2.2.1, B.2.2.2.1, B.2.2.2.2.1, B.2.2.2.2.2) (m.1, m.2) (ieq (1 : Int) 1) = gO B m true from rfl, hist, aZ,
    show mE ((B.1.1, B.1.2), B.2.1, B.2.2.1, B.2.2.2.1, B.2.2.2.2.1, B.2.2.2.2.2) (hZ B m true, (0 : Int)).1 = mE B (hZ B m true) from rfl, PA hIB.size hIB.num, aZ, s1]
   dsimp only
   rw [bz (by rfl), bz (by rfl), bz (by rfl), bz (decide_eq_false (by omega)), bU, s3, bz (decide_eq_false (by omega)), bz (by rfl), bI (by rfl), Bt (by omega) (by rw [s3]; omega), s2, bz (bne_self_eq_false' _), bG (by omega) (by omega)]
   rfl
  ·refine .inl fun kn => ?_
   unfold ew
   rw [bz (by rfl), PA hIB.size hIB.num, aZ]
   by_cases e1 : (wF B x).2 = 0
   case neg => rw [bI (bne_iff_ne.2 e1), aZ]
   rw [bz (by rw [e1]; rfl)]
   cases e2 : (wF B x).1 with
   | false => rfl
   | true =>
     have hx : wF B x = (true, 0) := Prod.ext e2 e1
     obtain ⟨_, lx, _⟩ := nW.1 hx
     obtain ⟨lx, bx⟩ := EM.1 lx
     have i1 := acA hR hx m
     have i2 := acB hR hx m n
     have g : ∀ k : Int, -4503599627370496 ≤ gv (0 :: x) k ∧ gv (0 :: x) k ≤ 4503599627370496 := gv_bd (by omega) (fun a ha => by
      rcases List.mem_cons.1 ha with rfl | ha
      ·omega
      ·exact bx a ha)
     have g1 := g (lT B m.1 m.2)
     have g2 := g (lT B n.1 n.2)
     rw [bz (by rfl), bz (by rfl), bz (decide_eq_false (by omega)), bz (decide_eq_false (by omega)), bz (decide_eq_false (by omega)), bz (decide_eq_false (by omega)), aZ, eD, Bt (by omega) (by omega), Mj, aZ, decide_eq_true i1.1, decide_eq_true i1.2, bI (by rfl),
      Bt (by omega) (by omega), Bt (by omega) (by omega), bG (by omega) (by omega), Mj, aZ, decide_eq_true i2.1, decide_eq_true i2.2]
     rfl
 ·rw [if_neg ho]
  dsimp only
  rw [if_pos (by simp), if_pos (by simp), bz (by rfl)]
  refine fK (fun v => v = 0) (fun v => 0) (fun v hv => .inl fun kn => ?_) rfl
  subst hv
  unfold ew
  rw [bI (by rfl), bz (by rfl), PA hIB.size hIB.num, aZ]
  by_cases e1 : (wF B x).2 = 0
  case neg => rw [bI (bne_iff_ne.2 e1), aZ]
  rw [bz (by rw [e1]; rfl)]
  cases e2 : (wF B x).1 with
  | false => rfl
  | true => exact absurd (YV hN (show wF B x = (true, 0) from Prod.ext e2 e1)).op ho
end Go.Proofs.ZzM
end