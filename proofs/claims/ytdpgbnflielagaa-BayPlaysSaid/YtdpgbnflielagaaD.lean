/-
  What holds of bays all the time; the document's lines, in plain Lean.
-/
import Derived.Test.YtdpgbnflielagaaN
namespace Go.XG
structure IV (S : List Sd) (f : Fn) : Prop where
  gs : GSd S
  fm : ∀ j k, f j = some k ↔ ∃ n : Nat, k = (n : Int) ∧ n < S.length ∧ (j ∈ (gS S n).rn ∨ j ∈ (gS S n).wt)
  nd : ∀ n, n < S.length → (gS S n).wt.Nodup ∧ ∀ j, j ∈ (gS S n).rn → ¬ j ∈ (gS S n).wt
section
variable {S : List Sd} {f : Fn} {b o j r : Int} {k n : Nat} {d : Sd} {l : List Int}
theorem gS_set (hk : k < S.length) : gS (S.set k d) n = if n = k then d else gS S n := by
  unfold gS
  rw [List.getD_eq_getElem?_getD, List.getElem?_set, List.getD_eq_getElem?_getD]
  by_cases h : n = k
  · subst h; rw [if_pos rfl, if_pos rfl, if_pos hk]; rfl
  · rw [if_neg (fun e => h e.symm), if_neg h]
theorem IV.fm' (h : IV S f) : FM S f := fun j r hr => by
  obtain ⟨n, h1, h2, _⟩ := (h.fm j r).1 hr
  exact ⟨n, h1, h2⟩
theorem IV.none (h : IV S f) (hj : f j = none) (hn : n < S.length) : ¬ j ∈ (gS S n).rn ∧ ¬ j ∈ (gS S n).wt :=
  ⟨fun h1 => (by have := (h.fm j n).2 ⟨n, rfl, hn, .inl h1⟩; rw [hj] at this; cases this), fun h1 => (by have := (h.fm j n).2 ⟨n, rfl, hn, .inr h1⟩; rw [hj] at this; cases this)⟩
theorem IV.one (h : IV S f) (hj : f j = some (k : Int)) : k < S.length ∧ (j ∈ (gS S k).rn ∨ j ∈ (gS S k).wt) := by
  obtain ⟨n, h1, h2, h3⟩ := (h.fm j k).1 hj
  obtain rfl : k = n := by omega
  exact ⟨h2, h3⟩
structure GD (d : Sd) : Prop where
  asc : Asc d.rn
  r8 : d.rn.length ≤ 8
  w8 : d.wt.length ≤ 8
  s0 : 0 ≤ d.sl
  s8 : d.sl ≤ 8
  wn : d.wt.Nodup
  dj : ∀ j, j ∈ d.rn → ¬ j ∈ d.wt
theorem IV.gd (h : IV S f) (hn : n < S.length) : GD (gS S n) := by
  obtain ⟨⟨h1, h2, h3⟩, h4, h5⟩ := h.gs.2 n hn
  exact ⟨h1, h2, h3, h4, h5, (h.nd n hn).1, (h.nd n hn).2⟩
theorem iv_set {f' : Fn} (h : IV S f) (hk : k < S.length) (hd : GD d)
    (hf : ∀ j (n : Nat), n < S.length → (f' j = some (n : Int) ↔ if n = k then (j ∈ d.rn ∨ j ∈ d.wt) else f j = some (n : Int))) (hg : ∀ j r, f' j = some r → ∃ n : Nat, r = n ∧ n < S.length) : IV (S.set k d) f' := by
  refine ⟨⟨by rw [List.length_set]; exact h.gs.1, fun n hn => ?_⟩, fun j r => ?_, fun n hn => ?_⟩
  · rw [List.length_set] at hn
    rw [gS_set hk]
    split
    · exact ⟨⟨hd.asc, hd.r8, hd.w8⟩, hd.s0, hd.s8⟩
    · exact h.gs.2 n hn
  · rw [List.length_set]
    constructor
    · intro hr
      obtain ⟨n, rfl, hn⟩ := hg j r hr
      refine ⟨n, rfl, hn, ?_⟩
      rw [gS_set hk]
      have := (hf j n hn).1 hr
      split
      · rename_i e; rw [if_pos e] at this; exact this
      · rename_i e; rw [if_neg e] at this; exact (h.one this).2
    · rintro ⟨n, rfl, hn, hm⟩
      rw [gS_set hk] at hm
      refine (hf j n hn).2 ?_
      split
      · rename_i e; rw [if_pos e] at hm; exact hm
      · rename_i e; rw [if_neg e] at hm; exact (h.fm j n).2 ⟨n, rfl, hn, hm⟩
  · rw [List.length_set] at hn
    rw [gS_set hk]
    split
    · exact ⟨hd.wn, hd.dj⟩
    · exact h.nd n hn
theorem iv_put (h : IV S f) (hk : k < S.length) (hj : f j = none) (hd : GD d) (hm : ∀ i, (i ∈ d.rn ∨ i ∈ d.wt) ↔ (i = j ∨ (i ∈ (gS S k).rn ∨ i ∈ (gS S k).wt))) : IV (S.set k d) (fun i => if i = j then some (k : Int) else f i) := by
  refine iv_set h hk hd (fun i n hn => ?_) (fun i r hr => ?_)
  · by_cases e : i = j
    · subst e
      rw [if_pos rfl]
      by_cases e2 : n = k
      · rw [if_pos e2, hm, e2]; exact ⟨fun _ => .inl rfl, fun _ => rfl⟩
      · rw [if_neg e2, hj]; exact ⟨fun h2 => by injection h2 with h2; omega, fun h2 => by cases h2⟩
    · rw [if_neg e]
      by_cases e2 : n = k
      · rw [if_pos e2, hm, e2]
        exact ⟨fun h2 => .inr (h.one h2).2, fun h2 => (h.fm i k).2 ⟨k, rfl, hk, h2.resolve_left e⟩⟩
      · rw [if_neg e2]
  · by_cases e : i = j
    · rw [if_pos e] at hr; injection hr with hr; exact ⟨k, hr.symm, hk⟩
    · rw [if_neg e] at hr; exact h.fm' i r hr
theorem iv_del (h : IV S f) (hj : f j = some (k : Int)) (hd : GD d) (hm : ∀ i, (i ∈ d.rn ∨ i ∈ d.wt) ↔ ((i ∈ (gS S k).rn ∨ i ∈ (gS S k).wt) ∧ i ≠ j)) : IV (S.set k d) (fun i => if i = j then none else f i) := by
  have hk := (h.one hj).1
  refine iv_set h hk hd (fun i n hn => ?_) (fun i r hr => ?_)
  · by_cases e : i = j
    · subst e
      rw [if_pos rfl]
      by_cases e2 : n = k
      · rw [if_pos e2, hm]; exact ⟨fun h2 => (by cases h2), fun h2 => absurd rfl h2.2⟩
      · rw [if_neg e2, hj]; exact ⟨fun h2 => (by cases h2), fun h2 => by injection h2 with h2; omega⟩
    · rw [if_neg e]
      by_cases e2 : n = k
      · rw [if_pos e2, hm, e2]
        exact ⟨fun h2 => ⟨(h.one h2).2, e⟩, fun h2 => (h.fm i k).2 ⟨k, rfl, hk, h2.1⟩⟩
      · rw [if_neg e2]
  · by_cases e : i = j
    · rw [if_pos e] at hr; cases hr
    · rw [if_neg e] at hr; exact h.fm' i r hr
theorem isSome_no (h : ¬ (f j).isSome = true) : f j = none := by
  cases hf : f j with
  | none => rfl
  | some r => rw [hf] at h; exact absurd rfl h
theorem iv_ask (h : IV S f) : IV (askS S f b o j) (askF S f b o j) := by
  by_cases h0 : askE S f b o j = 0
  · have hin : inP S.length b o := ask_in h0
    obtain ⟨hk, hkv⟩ := inP_k hin
    have hd := h.gd hk
    have hJ : isJ j := Classical.byContradiction fun h1 => by rw [askE1 hin h1] at h0; cases h0
    have hf : ¬ (f j).isSome = true := fun h1 => by rw [askE9 hin hJ h1] at h0; cases h0
    have hfn := isSome_no hf
    have hno := h.none hfn hk
    by_cases hr : ((gS S (kP b o)).rn.length : Int) < (gS S (kP b o)).sl
    · obtain ⟨_, e2, e3⟩ := ask_run hin hJ hf hr
      rw [e2, e3]
      refine iv_put h hk hfn ⟨asc_ins hd.asc hno.1, by show (insI _ _).length ≤ 8; rw [len_ins]; have := hd.s8; omega, hd.w8, hd.s0, hd.s8, hd.wn, fun i hi hw => ?_⟩ (fun i => by show (i ∈ insI _ _ ∨ _) ↔ _; rw [mem_ins]; exact or_assoc)
      rcases mem_ins.1 hi with rfl | hi
      · exact hno.2 hw
      · exact hd.dj i hi hw
    · have hw : ¬ ((gS S (kP b o)).sl = 0 ∨ 8 ≤ (gS S (kP b o)).wt.length) := fun h1 => by rw [askE10 hin hJ hf hr h1] at h0; cases h0
      obtain ⟨_, e2, e3⟩ := ask_wait hin hJ hf hr hw
      rw [e2, e3]
      refine iv_put h hk hfn ⟨hd.asc, hd.r8, by show (_ ++ [j]).length ≤ 8; rw [List.length_append]; show _ + 1 ≤ 8; have : ¬ 8 ≤ (gS S (kP b o)).wt.length := fun h8 => hw (.inr h8); omega, hd.s0, hd.s8, ?_, fun i hi hw => ?_⟩ (fun i => ?_)
      · refine List.nodup_append.2 ⟨hd.wn, by simp, fun a ha c hc => ?_⟩
        rw [List.mem_singleton] at hc; subst hc
        exact fun e => hno.2 (e ▸ ha)
      · rcases List.mem_append.1 hw with hw | hw
        · exact hd.dj i hi hw
        · rw [List.mem_singleton] at hw; subst hw; exact hno.1 hi
      · show (_ ∨ i ∈ _ ++ [j]) ↔ _
        rw [List.mem_append, List.mem_singleton]
        exact ⟨fun h => by rcases h with h | h | h; exact .inr (.inl h); exact .inr (.inr h); exact .inl h, fun h => by rcases h with h | h | h; exact .inr (.inr h); exact .inl h; exact .inr (.inl h)⟩
  · unfold askS askF; rw [if_neg h0, if_neg h0]; exact h
theorem levK_of (hj : f j = some (k : Int)) : levK f j = k := by unfold levK; rw [hj]; rfl
/-- Leave, at the document's. -/
theorem lev_w (hd : GD d) (hw : j ∈ d.wt) : levM d j = 0 ∧ levD d j = ⟨d.sl, d.rn, dlI d.wt j⟩ := by
  have hr : ¬ j ∈ d.rn := fun h => hd.dj j h hw
  have h2 : ¬ (j ∈ d.rn ∧ ¬ dlI d.wt j = []) := fun h => hr h.1
  refine ⟨if_neg h2, ?_⟩
  unfold levD; rw [if_neg h2, dl_not hr]
theorem lev_r0 (hw : d.wt = []) : levM d j = 0 ∧ levD d j = ⟨d.sl, dlI d.rn j, []⟩ := by
  have h1 : dlI d.wt j = [] := by rw [hw]; rfl
  have h2 : ¬ (j ∈ d.rn ∧ ¬ dlI d.wt j = []) := fun h => h.2 h1
  refine ⟨if_neg h2, ?_⟩
  unfold levD; rw [if_neg h2, h1]
theorem dl_head {q : Int} {l : List Int} (h : (q :: l).Nodup) : dlI (q :: l) q = l := by
  obtain ⟨h1, _⟩ := List.nodup_cons.1 h
  have : dlI (q :: l) q = dlI l q := by unfold dlI; rw [List.filter_cons_of_neg (by simp)]
  rw [this, dl_not h1]
theorem lev_r (hd : GD d) (hr : j ∈ d.rn) (h0 : 0 < d.wt.length) : levM d j = d.wt.getD 0 0 ∧ levD d j = ⟨d.sl, insI (dlI d.rn j) (d.wt.getD 0 0), dlI d.wt (d.wt.getD 0 0)⟩ := by
  have hw : ¬ j ∈ d.wt := hd.dj j hr
  have h1 := dl_not hw
  have hn : ¬ d.wt = [] := fun h => by rw [h] at h0; exact absurd h0 (by decide)
  have h2 : (j ∈ d.rn ∧ ¬ dlI d.wt j = []) := ⟨hr, by rw [h1]; exact hn⟩
  unfold levM levD
  rw [if_pos h2, if_pos h2, h1]
  have hwn := hd.wn
  refine ⟨rfl, ?_⟩
  generalize d.wt = w at *
  cases w with
  | nil => exact absurd rfl hn
  | cons q l => show Sd.mk _ _ l = Sd.mk _ _ (dlI (q :: l) q); rw [dl_head hwn]
theorem gd0 (hd : GD d) (hr : j ∈ d.rn) (h0 : 0 < d.wt.length) : ¬ d.wt.getD 0 0 ∈ dlI d.rn j := fun h => hd.dj _ (mem_dl.1 h).1 (gd_mem h0)
theorem dl_nodup (h : l.Nodup) : (dlI l j).Nodup := h.filter _
theorem iv_lev (h : IV S f) : IV (levS S f j) (levF f j) := by
  by_cases hs : (f j).isSome = true
  · obtain ⟨r, hr⟩ := Option.isSome_iff_exists.1 hs
    obtain ⟨k, rfl, hk⟩ := h.fm' j r hr
    have hd := h.gd hk
    have e1 : levF f j = fun i => if i = j then none else f i := if_pos hs
    have e2 : levS S f j = S.set k (levD (gS S k) j) := by unfold levS; rw [if_pos hs, levK_of hr]
    rw [e1, e2]
    rcases (h.one hr).2 with hin | hin
    · by_cases h0 : 0 < (gS S k).wt.length
      · rw [(lev_r hd hin h0).2]
        have hq := gd_mem h0
        have hqn := gd0 hd hin h0
        have hll := dl_len_in hin (asc_nodup hd.asc)
        refine iv_del h hr ⟨asc_ins (asc_dl hd.asc) hqn, by show (insI _ _).length ≤ 8; rw [len_ins]; have := hd.r8; omega, Nat.le_trans dl_len hd.w8, hd.s0, hd.s8, dl_nodup hd.wn, fun i hi hw => ?_⟩ (fun i => ?_)
        · have hw2 := mem_dl.1 hw
          rcases mem_ins.1 hi with rfl | hi
          · exact hw2.2 rfl
          · exact hd.dj i (mem_dl.1 hi).1 hw2.1
        · show (i ∈ insI _ _ ∨ i ∈ dlI _ _) ↔ _
          rw [mem_ins, mem_dl, mem_dl]
          have hjw : ¬ j ∈ (gS S k).wt := hd.dj j hin
          constructor
          · rintro ((rfl | h1) | h1)
            · exact ⟨.inr hq, fun e => hjw (by have h2 := hq; rw [e] at h2; exact h2)⟩
            · exact ⟨.inl h1.1, h1.2⟩
            · exact ⟨.inr h1.1, fun e => hjw (by rw [← e]; exact h1.1)⟩
          · rintro ⟨h1 | h1, h2⟩
            · exact .inl (.inr ⟨h1, h2⟩)
            · by_cases e : i = (gS S k).wt.getD 0 0
              · exact .inl (.inl e)
              · exact .inr ⟨h1, e⟩
      · have hw : (gS S k).wt = [] := List.length_eq_zero_iff.1 (by omega)
        rw [(lev_r0 hw).2]
        refine iv_del h hr ⟨asc_dl hd.asc, Nat.le_trans dl_len hd.r8, Nat.zero_le _, hd.s0, hd.s8, List.nodup_nil, fun i _ hi => by cases hi⟩ (fun i => ?_)
        show (i ∈ dlI _ _ ∨ i ∈ []) ↔ _
        rw [mem_dl, hw]
        simp
    · rw [(lev_w hd hin).2]
      have hjr : ¬ j ∈ (gS S k).rn := fun h1 => hd.dj j h1 hin
      refine iv_del h hr ⟨hd.asc, hd.r8, Nat.le_trans dl_len hd.w8, hd.s0, hd.s8, dl_nodup hd.wn, fun i hi hw => hd.dj i hi (mem_dl.1 hw).1⟩ (fun i => ?_)
      show (_ ∨ i ∈ dlI _ _) ↔ _
      rw [mem_dl]
      constructor
      · rintro (h1 | h1)
        · exact ⟨.inl h1, fun e => hjr (e ▸ h1)⟩
        · exact ⟨.inr h1.1, h1.2⟩
      · rintro ⟨h1 | h1, h2⟩
        · exact .inl h1
        · exact .inr ⟨h1, h2⟩
  · have e1 : levF f j = f := if_neg hs
    have e2 : levS S f j = S := by unfold levS; rw [if_neg hs]
    rw [e1, e2]; exact h
theorem sl_ask : (askS S f b o j).map Sd.sl = S.map Sd.sl := by
  unfold askS
  split
  · rename_i h0
    have hk := (inP_k (ask_in h0)).1
    apply List.ext_getElem (by simp)
    intro i h1 h2
    simp only [List.length_map, List.length_set] at h1 h2
    simp only [List.getElem_map, List.getElem_set]
    split
    · rename_i e
      subst e
      have : gS S (kP b o) = S[kP b o] := by simp [gS, hk]
      rw [this]; split <;> rfl
    · rfl
  · rfl
theorem levD_sl : (levD d j).sl = d.sl := by unfold levD; split <;> rfl
theorem sl_lev : (levS S f j).map Sd.sl = S.map Sd.sl := by
  unfold levS
  split
  · apply List.ext_getElem (by simp)
    intro i h1 h2
    simp only [List.length_map, List.length_set] at h1 h2
    simp only [List.getElem_map, List.getElem_set]
    split
    · rename_i e
      subst e
      have : gS S (levK f j) = S[levK f j] := by simp [gS, h2]
      rw [this, levD_sl]
    · rfl
  · rfl
theorem posI_next {n : Int} (hA : Asc l) (hk : k < l.length) : (k < posI l n ↔ l.getD k 0 < n) := by
  obtain ⟨h1, h2⟩ := asc_split (x := n) hA
  have hm : l.getD k 0 ∈ l := gd_mem hk
  constructor
  · intro h
    apply h1
    have e : (l.take (posI l n)).getD k 0 = l.getD k 0 := by simp [h]
    rw [← e]; exact gd_mem (by rw [List.length_take]; omega)
  · intro h
    apply Classical.byContradiction
    intro h3
    have : n ≤ l.getD k 0 := by
      apply h2
      have e : (l.drop (posI l n)).getD (k - posI l n) 0 = l.getD k 0 := by simp [show posI l n + (k - posI l n) = k by omega]
      rw [← e]; exact gd_mem (by rw [List.length_drop]; omega)
    omega
end
end Go.XG
