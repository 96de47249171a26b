/-
  Lines that there were, laid into bays.
-/
import Derived.Test.YtdpgbnflielagaaDc
namespace Go.XG
section
variable {T : List Se} {E : List Se} {k : Nat} {H H2 : Heap} {G : Nat → Prop} {gb c1 c2 : Nat} {a1 a2 : Option Addr} {l1 l2 : List Int} {g : Fn} {x : Int} {l : List (List Int)} {i : Nat} {p : List Int}
/-- Both lists of a side set. -/
def sE (e : Se) (l1 : List Int) (a1 : Option Addr) (c1 : Nat) (l2 : List Int) (a2 : Option Addr) (c2 : Nat) : Se := ⟨e.sl, l1, a1, c1, l2, a2, c2⟩
theorem LS.set2 (h : LS H G T) (hk : k < T.length) (kf : KeepF (fun j => j = gb) H H2) (hgb : ∀ k w, k < T.length → ¬ bk (adE (gE T k) w) gb) (i1 : IO H2 a1 c1 l1) (i2 : IO H2 a2 c2 l2) (b1 : ∀ j, bk a1 j → H.size ≤ j) (b2 : ∀ j, bk a2 j → H.size ≤ j) (b12 : ∀ j, bk a1 j → ¬ bk a2 j) (hG : ∀ j, H.size ≤ j → G j) : LS H2 G (T.set k (sE (gE T k) l1 a1 c1 l2 a2 c2)) := by
  have old : ∀ k' w j, k' < T.length → bk (adE (gE T k') w) j → j < H.size := fun k' w j hk' hj => (h.io k' hk' w).lt hj
  have new : ∀ w j, bk (adE (sE (gE T k) l1 a1 c1 l2 a2 c2) w) j → H.size ≤ j := fun w j hj => by
    cases w
    · exact b1 j hj
    · exact b2 j hj
  refine ⟨fun k' hk' w => ?_, fun k' hk' w j hj => ?_, fun k1 k2 w1 w2 j h1 h2 g1 g2 => ?_⟩
  · rw [List.length_set] at hk'
    rw [gE_set hk]
    split
    · cases w
      · exact i1
      · exact i2
    · exact (h.io k' hk' w).keep kf (fun j hj e => hgb k' w hk' (e ▸ hj))
  · rw [List.length_set] at hk'
    rw [gE_set hk] at hj
    split at hj
    · exact hG j (new w j hj)
    · exact h.own k' hk' w j hj
  · rw [List.length_set] at h1 h2
    rw [gE_set hk] at g1 g2
    split at g1
    · rename_i e1
      split at g2
      · rename_i e2
        refine ⟨by omega, ?_⟩
        cases w1 <;> cases w2
        · rfl
        · exact absurd g2 (b12 j g1)
        · exact absurd g1 (b12 j g2)
        · rfl
      · have := old k2 w2 j h2 g2
        have := new w1 j g1
        omega
    · split at g2
      · have := old k1 w1 j h1 g1
        have := new w2 j g2
        omega
      · exact h.sep k1 k2 w1 w2 j h1 h2 g1 g2
/-- Which sides have their jobs yet. -/
def TP (l : List (List Int)) (E T : List Se) (k : Nat) : Prop := T.length = E.length ∧ ∀ x, x < T.length → sdE (gE T x) = if x < k then ⟨(sls l).getD x 0, (gE E x).rn, (gE E x).wt⟩ else ⟨(sls l).getD x 0, [], []⟩
theorem tp_0 (h : T.map sdE = newS l) (hl : T.length = E.length) : TP l E T 0 := ⟨hl, fun x hx => by
  rw [if_neg (Nat.not_lt_zero x)]
  have h1 : gS (T.map sdE) x = sdE (gE T x) := gS_map hx
  rw [← h1, h]
  have h2 : x < (sls l).length := by have := congrArg List.length h; rw [List.length_map] at this; unfold newS at this; rw [List.length_map] at this; omega
  simp [gS, newS, h2]⟩
theorem TP.next (h : TP l E T k) (hk : k < T.length) : TP l E (T.set k (sE (gE T k) (gE E k).rn a1 c1 (gE E k).wt a2 c2)) (k + 1) := ⟨by rw [List.length_set]; exact h.1, fun x hx => by
  rw [List.length_set] at hx
  rw [gE_set hk]
  have hs := h.2 k hk
  rw [if_neg (Nat.lt_irrefl k)] at hs
  by_cases e : x = k
  · subst e
    rw [if_pos rfl, if_pos (Nat.lt_succ_self x)]
    show Sd.mk (gE T x).sl _ _ = _
    have : (gE T x).sl = (sls l).getD x 0 := congrArg Sd.sl hs
    rw [this]; rfl
  · rw [if_neg e, h.2 x hx]
    by_cases h1 : x < k
    · rw [if_pos h1, if_pos (by omega)]
    · rw [if_neg h1, if_neg (by omega)]⟩
theorem TP.sl (h : TP l E T k) (hk : k < T.length) : (gE T k).sl = (sls l).getD k 0 := by
  have hs := congrArg Sd.sl (h.2 k hk)
  rw [if_neg (Nat.lt_irrefl k)] at hs
  exact hs
theorem TP.done (h : TP l E T k) (hk : k = E.length) : T.map sdE = loS l E := by
  apply List.ext_getElem (by rw [List.length_map, loS_len, h.1])
  intro i h1 h2
  rw [List.length_map] at h1
  have h3 := h.2 i h1
  rw [if_pos (by have := h.1; omega), gE_eq h1] at h3
  rw [List.getElem_map, h3]
  simp [loS]
theorem cg_mem (h : CG E k ((jlE (gE E k)).take i) g) (hk : k < E.length) : (∃ r, g x = some r) ↔ x ∈ jbP E k i := by
  unfold jbP
  rw [List.mem_append]
  constructor
  · rintro ⟨r, hr⟩
    obtain ⟨n, _, h1 | h1⟩ := (h x r).1 hr
    · refine .inl (List.mem_flatMap.2 ⟨gE E n, ?_, h1.2⟩)
      have e : gE E n = (E.take k)[n]'(by rw [List.length_take]; omega) := by rw [gE_eq (by omega), List.getElem_take]
      rw [e]; exact List.getElem_mem _
    · exact .inr h1.2
  · rintro (h1 | h1)
    · obtain ⟨e, h2, h3⟩ := List.mem_flatMap.1 h1
      obtain ⟨n, hn, rfl⟩ := List.getElem_of_mem h2
      have hn2 : n < k := by rw [List.length_take] at hn; omega
      refine ⟨n, (h x n).2 ⟨n, rfl, .inl ⟨hn2, ?_⟩⟩⟩
      rw [gE_eq (by omega)]
      rw [List.getElem_take] at h3; exact h3
    · exact ⟨k, (h x k).2 ⟨k, rfl, .inr ⟨rfl, h1⟩⟩⟩
theorem CG.put2 (h : CG E k p g) (hn : ∀ r, g x ≠ some r) : CG E k (p ++ [x]) (fun i => if i = x then some (k : Int) else g i) :=
  h.put (fun n hn2 hx => hn n ((h x n).2 ⟨n, rfl, .inl ⟨hn2, hx⟩⟩))
theorem CG.iff (h : CG E k [] g) (hk : k = E.length) : ∀ j (r : Int), g j = some r ↔ ∃ n : Nat, r = (n : Int) ∧ n < E.length ∧ j ∈ jlE (gE E n) := fun j r => by
  rw [h j r, hk]
  constructor
  · rintro ⟨n, h0, h1 | h1⟩
    · exact ⟨n, h0, h1⟩
    · cases h1.2
  · rintro ⟨n, h0, h1⟩; exact ⟨n, h0, .inl h1⟩
/-- Both stores of a side. -/
theorem set2_cells {ex : List Value} (hk : k < T.length) : setRange (setRange (fE T ++ ex) (0 + k * 3 + 1) [.slice a1 l1.length c1]) (0 + k * 3 + 2) [.slice a2 l2.length c2] = fE (T.set k (sE (gE T k) l1 a1 c1 l2 a2 c2)) ++ ex := by
  rw [stE_set (w := false) hk 1 rfl]
  have hk2 : k < (T.set k (stE (gE T k) false l1 a1 c1)).length := by rw [List.length_set]; exact hk
  rw [stE_set (w := true) hk2 2 rfl, List.set_set, gE_set hk, if_pos rfl]
  rfl
theorem load_BB {H0 : Heap} {bp m c n : Nat} {a : Option Addr} (hn : T.length = n) (mp : Blk H bp [.slice a n c, .map (some m)] 52) (ho : Own H 0 69 3 (.slice a n c) n (fE T)) (hm : MapI H m g) (hL : LS H (fun j => H0.size ≤ j) T) (hp : H0.size ≤ bp) (hmp : H0.size ≤ m) (ha : ∀ j, bk a j → H0.size ≤ j) (hal : ∀ j, bk a j → j < H.size) : BB H bp (fun j => H0.size ≤ j ∧ j < H.size) (T.map sdE) g := by
  subst hn
  exact ⟨T, rfl, a, c, m, mp, ho, hm, ⟨hL.io, fun k hk w j hj => ⟨hL.own k hk w j hj, (hL.io k hk w).lt hj⟩, hL.sep⟩, ⟨hp, mp.lt⟩, ⟨hmp, hm.lt⟩, fun j hj => ⟨ha j hj, hal j hj⟩⟩
theorem own_bkl {base e size n c : Nat} {a : Option Addr} {xs : List Value} (h : Own H base e size (.slice a n c) n xs) : ∀ j, bk a j → j < H.size := fun j hj => by
  rcases own_blk2 h with ⟨h1, _⟩ | ⟨g, ex, h1, h2, _⟩
  · subst h1; exact bk_none hj
  · subst h1; rw [bk_some hj]; exact h2.lt
theorem jl_cat {i : Nat} : ints (gE E i).rn ++ ints (gE E i).wt = ints (jlE (gE E i)) := ints_app ..
theorem srtI_all {r : List Int} {i : Int} (h : ∀ x : Nat, i < x → 0 < x → x < r.length → r.getD (x - 1) 0 ≤ r.getD x 0) (hi : i ≤ 0) : SrtI r r.length := fun x h0 h1 => h x (by omega) h0 h1
theorem srtI_dn {r : List Int} {i : Int} (h : ∀ x : Nat, i < x → 0 < x → x < r.length → r.getD (x - 1) 0 ≤ r.getD x 0) (h0 : 0 < i) (hc : ¬ r.getD i.toNat 0 < r.getD (i - 1).toNat 0) : ∀ x : Nat, i - 1 < x → 0 < x → x < r.length → r.getD (x - 1) 0 ≤ r.getD x 0 := fun x h1 h2 h3 => by
  by_cases e : i < x
  · exact h x e h2 h3
  · have e1 : i.toNat = x := by omega
    have e2 : (i - 1).toNat = x - 1 := by omega
    rw [e1, e2] at hc
    omega
end
theorem mg_as {H : Heap} {b : Nat} {cs ds : List Value} {t : TypeId} (h : Blk H b cs t) (he : cs = ds) : Blk H b ds t := he ▸ h
theorem io_mapoff {H : Heap} {a : Option Addr} {c b : Nat} {l : List Int} {g : Fn} (h : IO H a c l) (hm : MapI H b g) : ¬ bk a b := fun hj => by
  obtain ⟨o, hj, hb⟩ := hj
  rcases h.blk with ⟨h1, _⟩ | ⟨g', ex, h1, h2, _⟩
  · rw [h1] at hj; cases hj
  · rw [h1] at hj; cases hj; exact (hm.blk h2).ne hb
theorem few_all {E : List Se} (h : ∀ n, n < E.length → (gE E n).rn.length ≤ 12 ∧ (gE E n).wt.length ≤ 12) {e : Se} (he : e ∈ E) : e.rn.length < 1000000 ∧ e.wt.length < 1000000 := by
  obtain ⟨n, hn, rfl⟩ := List.getElem_of_mem he
  have := h n hn
  rw [gE_eq hn] at this
  omega
end Go.XG
