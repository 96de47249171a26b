/-
  A clone of bays.
-/
import Derived.Test.YtdpgbnflielagaaDl
namespace Go.XG
def CG (T : List Se) (k : Nat) (p : List Int) (g : Fn) : Prop := ∀ j r, g j = some r ↔ ∃ n : Nat, r = (n : Int) ∧ ((n < k ∧ j ∈ jlE (gE T n)) ∨ (n = k ∧ j ∈ p))
section
variable {T T2 : List Se} {k : Nat} {p : List Int} {g f : Fn} {x : Int} {H H0 H1 H2 : Heap} {G : Nat → Prop} {b n0 n1 rc wc : Nat} {ra wa : Option Addr} {r w : List Int} {sl : Int} {e : Se}
theorem cg_0 : CG T 0 [] (fun _ => none) := fun j r => ⟨fun h => (by cases h), fun ⟨n, h1, h2⟩ => h2.elim (fun h => absurd h.1 (Nat.not_lt_zero n)) (fun h => (by cases h.2))⟩
theorem CG.put (h : CG T k p g) (hU : ∀ n, n < k → ¬ x ∈ jlE (gE T n)) : CG T k (p ++ [x]) (fun i => if i = x then some (k : Int) else g i) := fun j r => by
  by_cases e : j = x
  · subst e
    show (if j = j then _ else _) = _ ↔ _
    rw [if_pos rfl]
    constructor
    · intro h1; injection h1 with h1; exact ⟨k, h1.symm, .inr ⟨rfl, by simp⟩⟩
    · rintro ⟨n, rfl, h1 | h1⟩
      · exact absurd h1.2 (hU n h1.1)
      · rw [h1.1]
  · show (if j = x then _ else _) = _ ↔ _
    rw [if_neg e, h j r]
    constructor
    · rintro ⟨n, h0, h1 | h1⟩
      · exact ⟨n, h0, .inl h1⟩
      · exact ⟨n, h0, .inr ⟨h1.1, List.mem_append.2 (.inl h1.2)⟩⟩
    · rintro ⟨n, h0, h1 | h1⟩
      · exact ⟨n, h0, .inl h1⟩
      · exact ⟨n, h0, .inr ⟨h1.1, (List.mem_append.1 h1.2).resolve_right (fun h2 => e (List.mem_singleton.1 h2))⟩⟩
theorem CG.next (h : CG T k p g) (hp : p = jlE (gE T k)) : CG T (k + 1) [] g := fun j r => by
  rw [h j r]
  constructor
  · rintro ⟨n, h0, h1 | h1⟩
    · exact ⟨n, h0, .inl ⟨by omega, h1.2⟩⟩
    · exact ⟨n, h0, .inl ⟨by omega, by rw [h1.1, ← hp]; exact h1.2⟩⟩
  · rintro ⟨n, h0, h1 | h1⟩
    · by_cases e : n = k
      · exact ⟨n, h0, .inr ⟨e, by rw [hp, ← e]; exact h1.2⟩⟩
      · exact ⟨n, h0, .inl ⟨by omega, h1.2⟩⟩
    · cases h1.2
theorem CG.eq (h : CG T k [] g) (hk : k = T.length) (hf : ∀ j r, f j = some r ↔ ∃ n : Nat, r = (n : Int) ∧ n < T.length ∧ j ∈ jlE (gE T n)) : g = f := by
  funext j
  have h2 : ∀ r, g j = some r ↔ f j = some r := fun r => by
    rw [h j r, hf j r, hk]
    constructor
    · rintro ⟨n, h0, h1 | h1⟩
      · exact ⟨n, h0, h1⟩
      · cases h1.2
    · rintro ⟨n, h0, h1⟩; exact ⟨n, h0, .inl h1⟩
  cases h3 : g j with
  | none => cases h4 : f j with
    | none => rfl
    | some r => have := (h2 r).2 h4; rw [h3] at this; cases this
  | some r => exact ((h2 r).1 h3).symm
theorem fn_one (hf : ∀ j r, f j = some r ↔ ∃ n : Nat, r = (n : Int) ∧ n < T.length ∧ j ∈ jlE (gE T n)) (hk : k < T.length) (hx : x ∈ jlE (gE T k)) : ∀ n, n < k → ¬ x ∈ jlE (gE T n) := fun n hn h => by
  have h1 := (hf x k).2 ⟨k, rfl, hk, hx⟩
  have h2 := (hf x n).2 ⟨n, rfl, by omega, h⟩
  rw [h1] at h2
  injection h2 with h2
  omega
theorem gE_snoc {k : Nat} : gE (T ++ [e]) k = if k = T.length then e else gE T k := by
  unfold gE
  by_cases h : k = T.length
  · subst h; simp
  · rw [if_neg h]
    by_cases h2 : k < T.length
    · rw [List.getD_eq_getElem?_getD, List.getElem?_append_left h2, List.getD_eq_getElem?_getD]
    · rw [List.getD_eq_getElem?_getD, List.getElem?_eq_none (by simp; omega), List.getD_eq_getElem?_getD, List.getElem?_eq_none (by omega)]
theorem LS.snoc (h : LS H G T) (hlt : ∀ k w j, k < T.length → bk (adE (gE T k) w) j → j < n0) (r1 : IO H ra rc r) (w1 : IO H wa wc w) (hr0 : ∀ j, bk ra j → n0 ≤ j) (hr1 : ∀ j, bk ra j → j < n1) (hw : ∀ j, bk wa j → n1 ≤ j) (h01 : n0 ≤ n1) (hG : ∀ j, n0 ≤ j → G j) : LS H G (T ++ [⟨sl, r, ra, rc, w, wa, wc⟩]) := by
  have key : ∀ k, k < (T ++ [(⟨sl, r, ra, rc, w, wa, wc⟩ : Se)]).length → (k < T.length ∧ gE (T ++ [⟨sl, r, ra, rc, w, wa, wc⟩]) k = gE T k) ∨ (k = T.length ∧ gE (T ++ [⟨sl, r, ra, rc, w, wa, wc⟩]) k = ⟨sl, r, ra, rc, w, wa, wc⟩) := fun k hk => by
    rw [List.length_append, List.length_singleton] at hk
    rw [gE_snoc]
    by_cases e : k = T.length
    · exact .inr ⟨e, if_pos e⟩
    · exact .inl ⟨by omega, if_neg e⟩
  refine ⟨fun k hk w' => ?_, fun k hk w' j hj => ?_, fun k k' w' w2 j hk hk' h1 h2 => ?_⟩
  · rcases key k hk with ⟨h1, e⟩ | ⟨h1, e⟩
    · rw [e]; exact h.io k h1 w'
    · rw [e]; cases w'
      · exact r1
      · exact w1
  · rcases key k hk with ⟨h1, e⟩ | ⟨h1, e⟩
    · rw [e] at hj; exact h.own k h1 w' j hj
    · rw [e] at hj; cases w'
      · exact hG j (hr0 j hj)
      · exact hG j (Nat.le_trans h01 (hw j hj))
  · have low : ∀ w', bk (adE (⟨sl, r, ra, rc, w, wa, wc⟩ : Se) w') j → n0 ≤ j := fun w' hj => by
      cases w'
      · exact hr0 j hj
      · exact Nat.le_trans h01 (hw j hj)
    rcases key k hk with ⟨g1, e1⟩ | ⟨g1, e1⟩
    · rcases key k' hk' with ⟨g2, e2⟩ | ⟨g2, e2⟩
      · rw [e1] at h1; rw [e2] at h2; exact h.sep k k' w' w2 j g1 g2 h1 h2
      · rw [e1] at h1; rw [e2] at h2
        have := hlt k w' j g1 h1
        have := low w2 h2
        omega
    · rcases key k' hk' with ⟨g2, e2⟩ | ⟨g2, e2⟩
      · rw [e1] at h1; rw [e2] at h2
        have := hlt k' w2 j g2 h2
        have := low w' h1
        omega
      · rw [e1] at h1; rw [e2] at h2
        refine ⟨by omega, ?_⟩
        cases w' <;> cases w2
        · rfl
        · have := hr1 j h1; have := hw j h2; omega
        · have := hr1 j h2; have := hw j h1; omega
        · rfl
theorem LS.offT {cs : List Value} {t : TypeId} (h : LS H G T) (hb : Blk H b cs t) (u : But b H H1) (hne : Nat.beq t 3 = false) : LS H1 G T :=
  ⟨fun k hk w => (h.io k hk w).offT hb u hne, h.own, h.sep⟩
theorem LS.growT {base e2 size n : Nat} {v : Value} {xs : List Value} (h : LS H G T) (o : Own H base e2 size v n xs) (g : Gr v.ownBlock H H1) (hne : Nat.beq 3 e2 = false) : LS H1 G T :=
  ⟨fun k hk w => (h.io k hk w).growT o g hne, h.own, h.sep⟩
theorem LS.offI (h : LS H G T) (hm : MapI H b g) (u : But b H H1) : LS H1 G T :=
  h.keep (F := fun j => j = b) ⟨u.size, fun i hi hn => u.same i hi hn⟩ (fun j hj => by subst hj; exact h.mapoff hm)
theorem own_offI {base e size n : Nat} {v : Value} {xs : List Value} (h : Own H base e size v n xs) (hm : MapI H b g) (u : But b H H1) : Own H1 base e size v n xs := by
  obtain ⟨es, h1, _⟩ := hm; exact h.offM h1 u
theorem ls_nil : LS H G [] := ⟨fun k hk => absurd hk (by simp), fun k hk => absurd hk (by simp), fun k k' w w' j hk => absurd hk (by simp)⟩
theorem clone_BB {bp m c n : Nat} {a : Option Addr} (hn : T2.length = n) (mp : Blk H bp [.slice a n c, .map (some m)] 52) (ho : Own H H0.size 69 3 (.slice a n c) n (fE T2)) (hm : MapI H m f) (hL : LS H (fun j => H0.size ≤ j) T2) (hp : H0.size ≤ bp) (hmp : H0.size ≤ m) : BB H bp (fun j => H0.size ≤ j ∧ j < H.size) (T2.map sdE) f := by
  subst hn
  refine ⟨T2, rfl, a, c, m, mp, own_le ho (Nat.zero_le _), hm, ⟨hL.io, fun k hk w j hj => ⟨hL.own k hk w j hj, (hL.io k hk w).lt hj⟩, hL.sep⟩, ⟨hp, mp.lt⟩, ⟨hmp, hm.lt⟩, fun j hj => ?_⟩
  rcases own_blk2 ho with ⟨h1, h2, h3⟩ | ⟨g, ex, h1, h2, h3, h4, h5, h6⟩
  · subst h1; exact bk_none hj
  · subst h1; rw [bk_some hj]; exact ⟨h3, h2.lt⟩
theorem sd_take (hk : k < T.length) (h : T2.map sdE = (T.map sdE).take k) {ra wa : Option Addr} {rc wc : Nat} : (T2 ++ [(⟨(gE T k).sl, (gE T k).rn, ra, rc, (gE T k).wt, wa, wc⟩ : Se)]).map sdE = (T.map sdE).take (k + 1) := by
  rw [List.map_append, h, List.take_succ_eq_append_getElem (by rw [List.length_map]; exact hk), List.getElem_map, gE_eq hk]; rfl
theorem sd_len (h : T2.map sdE = (T.map sdE).take k) (hk : k ≤ T.length) : T2.length = k := by
  have := congrArg List.length h
  rw [List.length_map, List.length_take, List.length_map, Nat.min_eq_left hk] at this; exact this
theorem fE_one {a' : List Se} : fE (a' ++ [e]) = fE a' ++ csE e := by rw [fE_app]; unfold fE; simp
theorem jl_r {i : Nat} (h : i < (gE T k).rn.length) : (gE T k).rn.getD i 0 ∈ jlE (gE T k) := List.mem_append.2 (.inl (gd_mem h))
theorem jl_w {i : Nat} (h : i < (gE T k).wt.length) : (gE T k).wt.getD i 0 ∈ jlE (gE T k) := List.mem_append.2 (.inr (gd_mem h))
theorem app_take {l q : List Int} {i : Nat} (h : i < l.length) : q ++ l.take i ++ [l.getD i 0] = q ++ l.take (i + 1) := by rw [List.append_assoc, take_gd h]
end
theorem own_as {H : Heap} {base e size n : Nat} {v : Value} {xs ys : List Value} (h : Own H base e size v n xs) (he : xs = ys) : Own H base e size v n ys := he ▸ h
/-- Nothing that was there at H0 has turned. -/
structure XT (H0 H : Heap) : Prop where
  x : Ext H0 H
section
variable {H0 H H1 : Heap} {b : Nat} {cs : List Value} {t : TypeId} {S : List Sd} {f : Fn} {G F : Nat → Prop}
theorem XT.ext (h : XT H0 H) (e : Ext H H1) : XT H0 H1 := ⟨h.x.trans e⟩
theorem XT.offT (h : XT H0 H) (_ : Blk H b cs t) (u : But b H H1) (hb : H0.size ≤ b) : XT H0 H1 := ⟨h.x.upd u ⟨hb⟩⟩
theorem XT.keep (h : XT H0 H) (k : KeepF F H H1) (hf : ∀ i, F i → H0.size ≤ i) : XT H0 H1 := ⟨h.x.keep k hf⟩
theorem iv_small (h : IV S f) : ∀ e ∈ S.map lnS, e.1.length < 1000000 ∧ e.2.length < 1000000 := fun e he => by
  obtain ⟨d, h1, rfl⟩ := List.mem_map.1 he
  obtain ⟨n, hn, rfl⟩ := List.getElem_of_mem h1
  have := h.gd hn
  have e2 : gS S n = S[n] := by simp [gS, hn]
  rw [e2] at this
  have h1 := this.r8
  have h2 := this.w8
  exact ⟨by show S[n].rn.length < _; omega, by show S[n].wt.length < _; omega⟩
theorem iv_len (h : IV S f) : (S.map lnS).length < 1000000 := by rw [List.length_map]; have := h.gs.1; omega
theorem row4 {A : List (List Int)} {i : Nat} (hw : Wide 4 A) (hi : i < A.length) : ∃ q b o j, gr A i = [q, b, o, j] := by
  have h := hw.get hi
  match gr A i, h with
  | [q, b, o, j], _ => exact ⟨_, _, _, _, rfl⟩
end
end Go.XG
