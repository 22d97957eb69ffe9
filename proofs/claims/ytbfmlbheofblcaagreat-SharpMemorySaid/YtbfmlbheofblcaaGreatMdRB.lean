/- lemmas -/
import Derived.Test.YtbfmlbheofblcaaGreatMdCA
import Derived.Test.YtbfmlbheofblcaaGreatMdRA
set_option linter.all false
noncomputable section
set_option maxRecDepth 100000
namespace Go.Proofs.ZzM
open Go Go.Am
def saneR : @tB (lcN 100000) = some true := by kernel_rfl
def W7 [NwE] : ZP 6 HU := by
  have h := @QL (lcN 100000) _
  have e : @A1 (lcN 100000) = HU := by
    show (⟨[], [.bool], fun _ => @tB (lcN 100000)⟩ : ï) = ⟨[], [.bool], fun _ => some true⟩
    rw [saneR]; rfl
  rwa [e] at h
end Go.Proofs.ZzM
end

noncomputable section
set_option maxRecDepth 100000
namespace Go.Proofs.ZzM
open Go Go.Am Go.RowKit
def noF : Ty -> Bool
  | .fsl _ => false
  | .slice t => noF t
  | .map k v => noF k && noF v
  | .ptr t => noF t
  | .pair a b => noF a && noF b
  | _ => true
def CR.reG (g1 g2 : ë) {w : World} {av : Nat -> Prop} : ∀ {t : Ty} {x : Val t} {vs : AS Value}, noF t = true -> @CR g1 w av t x vs -> @CR g2 w av t x vs
  | .unit, _, _, _, h => h
  | .bool, _, _, _, h => h
  | .int _, _, _, _, h => h
  | .str, _, _, _, h => h
  | .slice t, xs, vs, hn, h => by
    obtain ⟨base, cap, e, hc, h⟩ := h
    refine ⟨base, cap, e, hc, h.imp (fun q => q) fun ⟨b, off, hb, hav, hlt, h⟩ => ⟨b, off, hb, hav, hlt, fun i x hx => ?_⟩⟩
    obtain ⟨us, h1, h2⟩ := h i x hx
    exact ⟨us, CR.reG g1 g2 hn h1, h2⟩
  | .map k v, es, vs, hn, h => by
    simp only [noF, Bool.and_eq_true] at hn
    obtain ⟨r, e, h⟩ := h
    refine ⟨r, e, h.imp (fun q => q) fun ⟨b, entries, clock, hr, hav, hh, hs, h⟩ => ⟨b, entries, clock, hr, hav, hh, hs, fun i x hx => ?_⟩⟩
    obtain ⟨m, us, h1, h2, h3, h4⟩ := h i x hx
    exact ⟨m, us, h1, CR.reG g1 g2 hn.1 h2, CR.reG g1 g2 hn.2 h3, h4⟩
  | .ptr t, x, vs, hn, h => by
    obtain ⟨b, off, us, e, hav, hlt, h1, h2⟩ := h
    exact ⟨b, off, us, e, hav, hlt, CR.reG g1 g2 hn h1, h2⟩
  | .pair a b, x, vs, hn, h => by
    simp only [noF, Bool.and_eq_true] at hn
    obtain ⟨us, ws, e, h1, h2⟩ := h
    exact ⟨us, ws, e, CR.reG g1 g2 hn.1 h1, CR.reG g1 g2 hn.2 h2⟩
abbrev nG : Nat -> Prop := fun _ => False
def tR [NwE] {f : Nat} {p : ï} {W : World} (hE : ∀ b, NwE.E b -> b < W.heap.size) (hp : Ξ Tryz.prog f p) {x : Val (tyL p.ts)} {y : Val (tyL p.rs)} (hF : p.F x = some y) {vals : AS Value} (ha : AL W nG p.ts x vals) :
    CallsIn Fence.wide 0 Tryz.prog f vals.toArray W fun e W'' => ∃ u, e = .returned u /\ RR W'' nG p.rs y u /\ W.grownBy W'' none :=
  (hp nG x y hF W vals (fun b hb => hb.elim (fun q => q.elim) (hE b)) trivial ha).2.mono fun e w' ⟨u, h0, h1, h2, h3, h4, h5, h6⟩ => ⟨u, h0, h1, ⟨h4, h5, h6, h3, fun b hb _ => h2 b hb⟩⟩
def acA [NwE] {W : World} {s : Nat} (hE : ∀ b, b < s -> NwE.E b) {t : Ty} {xs : AS (Val t)} {base : AN Addr} {cap m o : Nat} (hm : t.size = m) (hl : xs.length <= 1000000) (h : CR W nG (.fsl t) xs [.slice base xs.length cap]) (he : ∀ x us, x ∈ xs -> CR W nG t x us -> ∃ z, us[o]? = some (.int .i64 z)) : la s W (.slice base xs.length cap) m o := by
  obtain ⟨base', cap', e1, _, h⟩ := h
  cases e1
  refine ⟨_, _, _, rfl, hl, fun h0 => ?_⟩
  rcases h with h | ⟨b, off, c, e, hb, _, hE', hh, hz, h⟩
  · rw [show xs = [] from h] at h0; simp at h0
  refine ⟨b, off, hb, ?_, fun j hj => ?_⟩
  · rcases Nat.lt_or_ge b s with q | q
    · exact absurd (hE b q) hE'
    · exact q
  · obtain ⟨us, h1, h2⟩ := h j xs[j] (List.getElem?_eq_getElem hj)
    obtain ⟨z, h3⟩ := he _ us (List.getElem_mem hj) h1
    have h4 := h2 o _ h3
    rw [hm] at h4
    refine ⟨z, h4, ?_⟩
    unfold World.frozen?
    rw [hh]
    simp
def WG [NwE] {W : World} {s : Nat} (hE : ∀ b, b < s -> NwE.E b) {xs : AS Int} {base : AN Addr} {cap : Nat} (hl : xs.length <= 1000000) (h : CR W nG (.fsl tI) xs [.slice base xs.length cap]) : la s W (.slice base xs.length cap) 1 0 :=
  acA hE (t := tI) (m := 1) (o := 0) rfl hl h fun x us _ hu => by
    have hu : us = [.int .i64 x] := hu
    exact ⟨x, by rw [hu]; rfl⟩
abbrev Rq : Ty := (.pair tI (.pair tI (.pair (.fsl tI) (.pair (.fsl tI) (.pair tI ć)))))
def ab7 [NwE] {W : World} {s : Nat} (hE : ∀ b, b < s -> NwE.E b) {xs : AS (Val Rq)} {base : AN Addr} {cap : Nat} (hl : xs.length <= 1000000) (ha : ∀ x ∈ xs, (x.2.2.1 : AS Int).length <= 1000000) (h : CR W nG (.fsl Rq) xs [.slice base xs.length cap]) : zx s W (.slice base xs.length cap) 8 2 := by
  obtain ⟨base', cap', e1, _, h⟩ := h
  cases e1
  refine ⟨_, _, _, rfl, hl, fun h0 => ?_⟩
  rcases h with h | ⟨b, off, c, e, hb, _, hE', hh, hz, h⟩
  · rw [show xs = [] from h] at h0; simp at h0
  refine ⟨b, off, hb, ?_, fun j hj => ?_⟩
  · rcases Nat.lt_or_ge b s with q | q
    · exact absurd (hE b q) hE'
    · exact q
  · obtain ⟨us, h1, h2⟩ := h j xs[j] (List.getElem?_eq_getElem hj)
    obtain ⟨i1, r1, rfl, q1, i2, r2, rfl, q2, i3, r3, rfl, q3, q4⟩ := h1
    have q1 : i1 = [.int .i64 xs[j].1] := q1
    have q2 : i2 = [.int .i64 xs[j].2.1] := q2
    subst q1 q2
    obtain ⟨ab, ac, rfl, q5⟩ := id q3
    have h4 := h2 2 (.slice ab (xs[j].2.2.1 : AS Int).length ac) rfl
    exact ⟨_, h4, WG hE (ha _ (List.getElem_mem hj)) q3⟩
abbrev DS : Ty := (.pair (.pair Â (.pair (.fsl È) (.pair (.slice Â) (.pair (.slice Ĵ) (.pair (.fsl Rq) (.slice Â)))))) (.pair Â (.pair .bool (.pair tI (.fsl tI)))))
def okC (c : Val DS) : Prop := (c.1.2.1 : AS (Val È)).length <= 1000000 /\ (c.1.2.2.2.2.1 : AS (Val Rq)).length <= 1000000 /\ (∀ x ∈ (c.1.2.2.2.2.1 : AS (Val Rq)), (x.2.2.1 : AS Int).length <= 1000000) /\ (c.2.2.2.2 : AS Int).length <= 1000000
def aa2 [NwE] {W : World} {s : Nat} (hE : ∀ b, b < s -> NwE.E b) {c : Val DS} {us : AS Value} (hc : okC c) (h : CR W nG DS c us) : ∃ (k0 k1 : Int) (b2 : AN Addr) (l2 c2 : Nat) (b3 : AN Addr) (l3 c3 : Nat) (b4 : AN Addr) (l4 c4 : Nat) (b5 : AN Addr) (l5 c5 : Nat) (b6 : AN Addr) (l6 c6 : Nat) (k7 k8 : Int) (k9 : Bool) (k10 : Int) (b11 : AN Addr) (l11 c11 : Nat),
    us = [.int .i64 k0, .int .i64 k1, .slice b2 l2 c2, .slice b3 l3 c3, .slice b4 l4 c4, .slice b5 l5 c5, .slice b6 l6 c6, .int .i64 k7, .int .i64 k8, .bool k9, .int .i64 k10, .slice b11 l11 c11] /\ la s W (.slice b2 l2 c2) 8 7 /\ zx s W (.slice b5 l5 c5) 8 2 /\ la s W (.slice b11 l11 c11) 1 0 := by
  obtain ⟨hc1, hc2, hc3, hc4⟩ := hc
  obtain ⟨bk, rb, rfl, ⟨fm, r2, rfl, ⟨f1, f2, rfl, hf1, hf2⟩, gs, r3, rfl, hgs, uu, r4, rfl, huu, lo, r5, rfl, hlo, co, ko, rfl, hco, hko⟩, nd, r6, rfl, ⟨n1, n2, rfl, hn1, hn2⟩, up, r7, rfl, hup, va, ch, rfl, hva, hch⟩ := h
  have hf1 : f1 = [.int .i64 c.1.1.1] := hf1
  have hf2 : f2 = [.int .i64 c.1.1.2] := hf2
  have hn1 : n1 = [.int .i64 c.2.1.1] := hn1
  have hn2 : n2 = [.int .i64 c.2.1.2] := hn2
  have hup : up = [.bool c.2.2.1] := hup
  have hva : va = [.int .i64 c.2.2.2.1] := hva
  obtain ⟨gb, gc, rfl, _⟩ := id hgs
  obtain ⟨ub, uc, rfl, _⟩ := huu
  obtain ⟨lb, lc, rfl, _⟩ := hlo
  obtain ⟨cb, cc, rfl, _⟩ := id hco
  obtain ⟨kb, kc, rfl, _⟩ := hko
  obtain ⟨hb, hcc, rfl, _⟩ := id hch
  subst hf1 hf2 hn1 hn2 hup hva
  exact ⟨_, _, _, _, _, _, _, _, _, _, _, _, _, _, _, _, _, _, _, _, _, _, _, _, rfl, acA hE (t := È) rfl hc1 hgs (fun x us _ hu => ⟨x.2.2.2.2.2, by rw [Kk hu]; rfl⟩), ab7 hE hc2 hc3 hco, WG hE hc4 hch⟩
end Go.Proofs.ZzM
end

noncomputable section
set_option maxRecDepth 100000
namespace Go.Proofs.ZzM
open Go Go.Am Go.RowKit
variable [LC]
def memC (b : Val Å) (n : Val Â) : Prop := ∃ r, C5 b = some r /\ (r = true -> ∃ e, lL b = some e /\ (e = 0 -> ∃ (t : ByteArray) (c : Val DS × Int) (l : AS Int × Int),
  oj b = some t /\ jO b n true = some c /\ lM b n false = some l /\ l.2 = c.2 /\ (c.2 = 0 -> Ŷ c.1 = some 0) /\ okC c.1 /\ l.1.length <= 1000000))
noncomputable def memF (x : Val Å × Val Â) : AN Bool := open Classical in if memC x.1 x.2 then some true else none
noncomputable def afR : ï := ⟨[Å, Â], [.bool], fun x : Val Å × Val Â => memF x⟩
@[reducible] def E0 : NwE := ⟨fun _ => False⟩
def XS [NwE] {w : World} {y : Bool} {u : Value} (h : RR w nG [.bool] y u) : u = .bool y := by
  obtain ⟨us, h1, rfl⟩ := h
  have : us = [.bool y] := h1
  rw [this]; rfl
def ret_i [NwE] {w : World} {y : Int} {u : Value} (h : RR w nG [tI] y u) : u = .int .i64 y := by
  obtain ⟨us, h1, rfl⟩ := h
  have : us = [.int .i64 y] := h1
  rw [this]; rfl
def aia [NwE] {w : World} {y : ByteArray} {u : Value} (h : RR w nG [.str] y u) : u = .string y := by
  obtain ⟨us, h1, rfl⟩ := h
  have : us = [.string y] := h1
  rw [this]; rfl
def ai8 [NwE] {w : World} {b : Val Å} {us : AS Value} (h : CR w nG Å b us) : AL w nG [Å] b [.agg us.toArray] := ⟨_, rfl, us, h, rfl⟩
def argsC [NwE] {w : World} {c : Val ş} {us : AS Value} (h : CR w nG ş c us) : AL w nG [ş] c [.agg us.toArray] := ⟨_, rfl, us, h, rfl⟩
def args3 [NwE] {w : World} {b : Val Å} {us : AS Value} (h : CR w nG Å b us) (n : Int × Int) (u : Bool) : AL w nG [Å, Â, .bool] ((b, n, u) : Val Å × Val Â × Bool) [.agg us.toArray, .agg #[.int .i64 n.1, .int .i64 n.2], .bool u] :=
  ⟨_, _, rfl, ⟨us, h, rfl⟩, _, _, rfl, ⟨[.int .i64 n.1, .int .i64 n.2], ⟨[_], [_], rfl, rfl, rfl⟩, rfl⟩, _, rfl, ⟨[.bool u], rfl, rfl⟩⟩
def agK {W : World} {c : Val ş} {us : AS Value} (h : @CR (@lX E0) W nG ş c us) (hk : Ŷ c = some 0) : CallsIn Fence.wide 0 Tryz.prog 10 #[.agg us.toArray] W fun e W' => e = .returned (.int .i64 0) /\ W.grownBy W' none := by
  letI : NwE := E0
  exact (tR (fun _ (h : False) => h.elim) MO (x := c) (y := (0 : Int)) hk (argsC h)).mono fun e W' ⟨u, h4, h5, h6⟩ => ⟨by rw [h4, ret_i h5], h6⟩
def aed {w W' : World} {b : Val Å} {n : Int × Int} {us : AS Value} {c : Val DS × Int} (hb : ∀ (g : NwE), CR W' nG Å b us) (hc : jO b n true = some c) (hk : c.2 = 0 -> Ŷ c.1 = some 0) (ho : okC c.1) :
    CallsIn Fence.wide 0 Tryz.prog 8 #[.agg us.toArray, .agg #[.int .i64 n.1, .int .i64 n.2], .bool true] W' fun e W'' => ∃ (k0 k1 : Int) (b2 : AN Addr) (l2 c2 : Nat) (b3 : AN Addr) (l3 c3 : Nat) (b4 : AN Addr) (l4 c4 : Nat) (b5 : AN Addr) (l5 c5 : Nat) (b6 : AN Addr) (l6 c6 : Nat) (k7 k8 : Int) (k9 : Bool) (k10 : Int) (b11 : AN Addr) (l11 c11 : Nat),
      e = .returned (.tuple #[.agg #[.int .i64 k0, .int .i64 k1, .slice b2 l2 c2, .slice b3 l3 c3, .slice b4 l4 c4, .slice b5 l5 c5, .slice b6 l6 c6, .int .i64 k7, .int .i64 k8, .bool k9, .int .i64 k10, .slice b11 l11 c11], .int .i64 c.2]) /\ W'.grownBy W'' none /\ la W'.heap.size W'' (.slice b2 l2 c2) 8 7 /\ zx W'.heap.size W'' (.slice b5 l5 c5) 8 2 /\ la W'.heap.size W'' (.slice b11 l11 c11) 1 0 /\
      (c.2 = 0 -> ∀ W3, Below W''.heap.size W'' W3 -> CallsIn Fence.wide 0 Tryz.prog 10 #[.agg #[.int .i64 k0, .int .i64 k1, .slice b2 l2 c2, .slice b3 l3 c3, .slice b4 l4 c4, .slice b5 l5 c5, .slice b6 l6 c6, .int .i64 k7, .int .i64 k8, .bool k9, .int .i64 k10, .slice b11 l11 c11]] W3 fun e W4 => e = .returned (.int .i64 0) /\ W3.grownBy W4 none) := by
  letI g : NwE := ⟨fun b => b < W'.heap.size⟩
  refine (tR (fun b hb => hb) K9 (x := (b, n, true)) (y := c) hc (args3 (hb g) n true)).mono fun e W'' ⟨u, h0, h1, h2⟩ => ?_
  obtain ⟨vs, rfl, v, vs', hvs, ⟨us1, hus1, rfl⟩, v2, rfl, ⟨us2, hus2, rfl⟩⟩ := h1
  have hus2 : us2 = [.int .i64 c.2] := hus2
  subst hus2
  obtain ⟨k0, k1, b2, l2, c2, b3, l3, c3, b4, l4, c4, b5, l5, c5, b6, l6, c6, k7, k8, k9, k10, b11, l11, c11, rfl, f1, f2, f3⟩ := aa2 (s := W'.heap.size) (fun b hb => hb) ho hus1
  have e0 : vs = vs.toList.toArray := by simp
  rw [e0, hvs] at h0
  refine ⟨k0, k1, b2, l2, c2, b3, l3, c3, b4, l4, c4, b5, l5, c5, b6, l6, c6, k7, k8, k9, k10, b11, l11, c11, h0, h2, f1, f2, f3, fun h3 W3 hW3 => ?_⟩
  letI : Ð := Gh fun _ => False
  have q1 : CR W'' nG ş c.1 _ := CR.ers (t := DS) hus1
  have q2 := q1.keep (w' := W3) (av' := nG) fun b hb hn => ⟨hW3.block b hb, id⟩
  have q3 : @CR (@lX E0) W3 nG ş c.1 _ := CR.reG _ _ rfl q2
  exact agK q3 (hk h3)
def adr {W' : World} {b : Val Å} {n : Int × Int} {us : AS Value} {l : AS Int × Int} (hb : ∀ (g : NwE), CR W' nG Å b us) (hc : lM b n false = some l) (ho : l.1.length <= 1000000) :
    CallsIn Fence.wide 0 Tryz.prog 9 #[.agg us.toArray, .agg #[.int .i64 n.1, .int .i64 n.2], .bool false] W' fun e W'' => ∃ (bl : AN Addr) (ll cl : Nat), e = .returned (.tuple #[.slice bl ll cl, .int .i64 l.2]) /\ W'.grownBy W'' none /\ la W'.heap.size W'' (.slice bl ll cl) 1 0 := by
  letI g : NwE := ⟨fun b => b < W'.heap.size⟩
  refine (tR (fun b hb => hb) Xc (x := (b, n, false)) (y := l) hc (args3 (hb g) n false)).mono fun e W'' ⟨u, h0, h1, h2⟩ => ?_
  obtain ⟨vs, rfl, v, vs', hvs, ⟨us1, hus1, rfl⟩, v2, rfl, ⟨us2, hus2, rfl⟩⟩ := h1
  have hus2 : us2 = [.int .i64 l.2] := hus2
  subst hus2
  obtain ⟨base, cap, rfl, _⟩ := id hus1
  have e0 : vs = vs.toList.toArray := by simp
  rw [e0, hvs] at h0
  exact ⟨base, _, cap, h0, h2, WG (s := W'.heap.size) (fun b hb => hb) ho hus1⟩
def c_Mem : @Ξ (@lX E0) Tryz.prog 3 afR := by
  letI : NwE := E0
  intro G x y hF w vals hG hΦ hAL
  obtain ⟨b, n⟩ := x
  have hM : memC b n /\ y = true := by
    have hF : memF (b, n) = some y := hF
    unfold memF at hF
    split at hF
    · exact ⟨‹_›, (Option.some.inj hF).symm⟩
    · cases hF
  obtain ⟨⟨r, hr, hrest⟩, rfl⟩ := hM
  obtain ⟨v1, vs', rfl, ⟨us, hus, rfl⟩, v2, rfl, ⟨ns, hns, rfl⟩⟩ := hAL
  obtain ⟨n1, n2, rfl, hn1, hn2⟩ := hns
  have hn1 : n1 = [.int .i64 n.1] := hn1
  have hn2 : n2 = [.int .i64 n.2] := hn2
  subst hn1 hn2
  have hlen := hus.length
  have hcr0 : ∀ W', Below w.heap.size w W' -> CR W' nG Å b us := fun W' hW => CR.keep (av' := nG) (fun b hb _ => ⟨hW.block b hb, id⟩) hus
  have hcr : ∀ W', Below w.heap.size w W' -> ∀ (g : NwE), CR W' nG Å b us := fun W' hW g => CR.reG (@lX E0) _ rfl (hcr0 W' hW)
  obtain ⟨v0, v1, v2, v3, v4, v5, v6, rfl⟩ : ∃ v0 v1 v2 v3 v4 v5 v6, us = [v0, v1, v2, v3, v4, v5, v6] := by
    rcases us with _ | ⟨v0, _ | ⟨v1, _ | ⟨v2, _ | ⟨v3, _ | ⟨v4, _ | ⟨v5, _ | ⟨v6, _ | ⟨v7, t⟩⟩⟩⟩⟩⟩⟩⟩ <;> simp [Ty.size] at hlen
    exact ⟨v0, v1, v2, v3, v4, v5, v6, rfl⟩
  have no : ∀ {W : World} b, NwE.E b -> b < W.heap.size := fun _ h => h.elim
  have few : ∀ W', Below w.heap.size w W' -> CallsIn Fence.wide 0 Tryz.prog 4 #[.agg #[v0, v1, v2, v3, v4, v5, v6]] W' fun e W'' => e = .returned (.bool r) /\ W'.grownBy W'' none := fun W' hW =>
    (tR no agT (x := b) (y := r) hr (ai8 (hcr W' hW _))).mono fun e W'' ⟨u, h0, h1, h2⟩ => ⟨by rw [h0, XS h1], h2⟩
  have sane : ∀ W', Below w.heap.size w W' -> CallsIn Fence.wide 0 Tryz.prog 6 #[] W' fun e W'' => e = .returned (.bool true) /\ W'.grownBy W'' none := fun W' hW =>
    (tR no W7 (x := ()) (y := true) rfl (vals := []) rfl).mono fun e W'' ⟨u, h0, h1, h2⟩ => ⟨by rw [h0, XS h1], h2⟩
  refine ⟨⟨Tryz.f3, _, Tryz.func3, rfl⟩, ?_⟩
  have fin : ∀ {R : Ending -> World -> Prop}, (∀ e w', (e = .returned (.bool true) /\ Below w.heap.size w w') -> R e w') -> (CallsIn Fence.wide 0 Tryz.prog 3 #[.agg #[v0, v1, v2, v3, v4, v5, v6], .agg #[.int .i64 n.1, .int .i64 n.2]] w fun e W' => e = .returned (.bool true) /\ Below w.heap.size w W') -> CallsIn Fence.wide 0 Tryz.prog 3 #[.agg #[v0, v1, v2, v3, v4, v5, v6], .agg #[.int .i64 n.1, .int .i64 n.2]] w R := fun h k => k.mono h
  refine fin (fun e w' ⟨h1, h2⟩ => ⟨_, h1, ⟨[.bool true], rfl, rfl⟩, h2.block, h2.size, h2.os, h2.tape, h2.output⟩) ?_
  cases r with
  | false => exact acE v0 v1 v2 v3 v4 v5 v6 n.1 n.2 w false 0 0 ⟨#[]⟩ few sane (fun h => by cases h) (fun h => by cases h) (fun h => by cases h) (fun h => by cases h)
  | true =>
  obtain ⟨e, he, hrest⟩ := hrest rfl
  have chk : ∀ W', Below w.heap.size w W' -> CallsIn Fence.wide 0 Tryz.prog 5 #[.agg #[v0, v1, v2, v3, v4, v5, v6]] W' fun e' W'' => e' = .returned (.int .i64 e) /\ W'.grownBy W'' none := fun W' hW =>
    (tR no OO (x := b) (y := e) he (ai8 (hcr W' hW _))).mono fun e W'' ⟨u, h0, h1, h2⟩ => ⟨by rw [h0, ret_i h1], h2⟩
  by_cases h0 : e = 0
  case neg => exact acE v0 v1 v2 v3 v4 v5 v6 n.1 n.2 w true e 0 ⟨#[]⟩ few sane (fun _ => chk) (fun _ h => absurd h h0) (fun _ h => absurd h h0) (fun _ h => absurd h h0)
  obtain ⟨t, c, l, ht, hc, hl, hlc, hk, ho, hlo⟩ := hrest h0
  refine acE v0 v1 v2 v3 v4 v5 v6 n.1 n.2 w true e c.2 t few sane (fun _ => chk) (fun _ _ W' hW => ?_) (fun _ _ W' hW => ?_) (fun _ _ W' hW => ?_)
  · exact (tR no abb (x := b) (y := t) ht (ai8 (hcr W' hW _))).mono fun e W'' ⟨u, h0, h1, h2⟩ => ⟨by rw [h0, aia h1], h2⟩
  · exact aed (w := w) (hcr W' hW) hc hk ho
  · rw [<- hlc]
    exact adr (hcr W' hW) hl hlo
end Go.Proofs.ZzM
end
