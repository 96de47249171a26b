/-
  XG, part h: what is apart, what is fresh: words that arithmetic does not look into.
-/
import Derived.Test.YtjlhjjjhblcokaaXg
namespace Go.XG
structure Apart (a b : Nat) : Prop where
  ne : a ≠ b
structure Fresh (H : Heap) (b : Nat) : Prop where
  le : H.size ≤ b
section
variable {H H1 H2 : Heap} {a b b' i : Nat} {cs cs' : List Value} {t t' : TypeId}
theorem Apart.symm (h : Apart a b) : Apart b a := ⟨Ne.symm h.ne⟩
theorem Ext.fresh (h : Ext H H1) (n : New H1 H2 b cs t) : Fresh H b := ⟨Nat.le_trans h.size n.ge⟩
theorem But.fresh (h : But b' H H1) (n : New H1 H2 b cs t) : Fresh H b := ⟨Nat.le_trans h.size n.ge⟩
theorem Blk.apart (h : Blk H b cs t) (n : New H H1 b' cs' t') : Apart b b' := ⟨h.fresh n.ge⟩
theorem Blk.off (h : Blk H b cs t) (u : But b' H H1) (a : Apart b b') : Blk H1 b cs t := h.but u a.ne
theorem Ext.upd (h : Ext H H1) (u : But b H1 H2) (f : Fresh H b) : Ext H H2 := h.ofBut u f.le
theorem But.transE (h : But b H H1) (e : Ext H1 H2) : But b H H2 := h.trans (e.but b)
theorem But.upd (h : But b H H1) (u : But b' H1 H2) (f : Fresh H b') : But b H H2 :=
  ⟨Nat.le_trans h.size u.size, fun i hi hb => (u.same i (Nat.lt_of_lt_of_le hi h.size) (by have := f.le; omega)).trans (h.same i hi hb)⟩
theorem Blk.old (h : Blk H b cs t) (f : Fresh H b') : Apart b b' := ⟨h.fresh f.le⟩
end
end Go.XG
namespace Go.XG
/-- The block of a slice of one's own is not b. -/
structure OwnApart (b : Nat) (v : Value) : Prop where
  ne : v.ownBlock ≠ some b
section
variable {H H1 H0 : Heap} {b base n size m n' size' base' : Nat} {e e' t : TypeId} {v v' : Value} {xs ys cs : List Value}
theorem Own.apartNil : OwnApart b (.slice none 0 0) := ⟨by simp [Value.ownBlock]⟩
theorem Own.blockType (h : Own H base e size v n xs) {g : Nat} (hg : v.ownBlock = some g) : ∃ cur, H[g]? = some (.cells cur e (0, 0)) := by
  rcases h.2 with ⟨h2, _⟩ | ⟨g', cap, cur, h1, h2, h3, _⟩
  · rw [h2] at hg; simp [Value.ownBlock] at hg
  · rw [h1] at hg; simp [Value.ownBlock] at hg; subst hg; exact ⟨cur, h3⟩
theorem Own.apartN (h : Own H base e size v n xs) (k : New H H1 b cs t) : OwnApart b v := ⟨fun hg => by
  obtain ⟨cur, h3⟩ := h.blockType hg
  have := lt_of_get h3
  have := k.ge
  omega⟩
theorem Blk.offA (h : Blk H b cs t) (g : Gr v.ownBlock H H1) (p : OwnApart b v) : Blk H1 b cs t := (g.same b h.lt (Ne.symm p.ne)).trans h
theorem Blk.offT (h : Blk H b cs t) (o : Own H base e size v n xs) (g : Gr v.ownBlock H H1) (hne : Nat.beq t e = false) : Blk H1 b cs t :=
  h.offA g ⟨fun hg => by
    obtain ⟨cur, h3⟩ := o.blockType hg
    unfold Blk at h
    rw [h] at h3
    injection h3 with h3
    injection h3 with _ ht
    exact Nat.ne_of_beq_eq_false hne ht⟩
theorem Own.offU (h : Own H base e size v n xs) (hb : Blk H b cs t) (u : But b H H1) (hne : Nat.beq t e = false ∨ OwnApart b v) : Own H1 base e size v n xs := by
  have ha : OwnApart b v := by
    rcases hne with hne | ha
    · exact ⟨fun hg => by
        obtain ⟨cur, h3⟩ := h.blockType hg
        unfold Blk at hb
        rw [hb] at h3
        injection h3 with h3
        injection h3 with _ ht
        exact Nat.ne_of_beq_eq_false hne ht⟩
    · exact ha
  refine ⟨h.1, ?_⟩
  rcases h.2 with h2 | ⟨g, cap, cur, h1, h2, h3, h4⟩
  · exact .inl h2
  · refine .inr ⟨g, cap, cur, h1, h2, (u.same g (lt_of_get h3) ?_).trans h3, h4⟩
    intro hg
    exact ha.ne (by rw [h1, hg]; simp [Value.ownBlock])
theorem Own.offG (h : Own H base e size v n xs) (o : Own H base' e' size' v' n' ys) (g : Gr v'.ownBlock H H1) (hne : Nat.beq e e' = false) : Own H1 base e size v n xs := by
  refine ⟨h.1, ?_⟩
  rcases h.2 with h2 | ⟨gg, cap, cur, h1, h2, h3, h4⟩
  · exact .inl h2
  · refine .inr ⟨gg, cap, cur, h1, h2, (g.same gg (lt_of_get h3) ?_).trans h3, h4⟩
    intro hg
    obtain ⟨cur', h3'⟩ := o.blockType hg.symm
    rw [h3] at h3'
    injection h3' with h3'
    injection h3' with _ ht
    exact Nat.ne_of_beq_eq_false hne ht
theorem Own.grownB (h : Own H base e size v n xs) (hE : But b H0 H) (hg : Gr v.ownBlock H H1) (hb : H0.size ≤ base) : But b H0 H1 := by
  refine ⟨Nat.le_trans hE.size hg.size, fun i hi hne => ?_⟩
  refine (hg.same i (Nat.lt_of_lt_of_le hi hE.size) ?_).trans (hE.same i hi hne)
  rcases h.2 with ⟨h2, _⟩ | ⟨g, cap, cur, h1, h2, _⟩
  · rw [h2]; simp [Value.ownBlock]
  · rw [h1]; simp [Value.ownBlock]; omega
end
end Go.XG
namespace Go.XG
theorem parts1 {size : Nat} {cs : List Value} (h : cs.length = size) : partsL size 0 [(0, .agg cs.toArray)] = some cs := by
  simp [partsL, vcells, h]
end Go.XG
namespace Go.XG
theorem OwnApart.grown {H : Heap} {b : Nat} {v v' : Value} (p : OwnApart b v) (h : v'.ownBlock = v.ownBlock ∨ v'.ownBlock = some H.size) (hb : b < H.size) : OwnApart b v' := ⟨fun e => by
  rcases h with h | h
  · exact p.ne (h ▸ e)
  · rw [h] at e; injection e with e; omega⟩
end Go.XG
