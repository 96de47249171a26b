/-
  Nobody waits while there is room, in plain Lean.
-/
import Derived.Test.YtdpgbnflielagaaN
namespace Go.XG
def fS (n : Int) (rn wt : List Int) : List Sd := [⟨n, rn, wt⟩, ⟨0, [], []⟩]
structure Fair (n : Int) (rn wt : List Int) (f : Fn) (nx la : Int) : Prop where
  asc : Asc rn
  rle : ∀ x ∈ rn, 1 ≤ x ∧ x ≤ la
  was : Asc wt
  wgt : ∀ x ∈ wt, la < x ∧ x < nx
  lan : la < nx
  la0 : 0 ≤ la
  len : (rn.length : Int) ≤ n
  full : ¬ wt = [] → (rn.length : Int) = n
  w8 : wt.length ≤ 8
  n1 : 1 ≤ n ∧ n ≤ 4
  fm : ∀ j, (f j).isSome = true ↔ j ∈ rn ∨ j ∈ wt
  f0 : ∀ j r, f j = some r → r = 0
section
variable {n nx la j : Int} {rn wt : List Int} {f : Fn}
theorem fair_new (h : 1 ≤ n ∧ n ≤ 4) : Fair n [] [] (fun _ => none) 1 0 :=
  ⟨asc_nil, fun x h => (by cases h), asc_nil, fun x h => (by cases h), by decide, by decide, by show (0 : Int) ≤ n; omega, fun h => absurd rfl h, Nat.zero_le _, h, fun j => by simp, fun j r h => by cases h⟩
theorem fair_gs (h : Fair n rn wt f nx la) : GSd (fS n rn wt) := by
  have h1 := h.len
  have h2 := h.n1
  refine ⟨by show 2 ≤ 16; decide, fun k hk => ?_⟩
  have hk2 : k = 0 ∨ k = 1 := by have : k < 2 := hk; omega
  rcases hk2 with rfl | rfl
  · exact ⟨⟨h.asc, by show rn.length ≤ 8; omega, h.w8⟩, by show 0 ≤ n; omega, by show n ≤ 8; omega⟩
  · exact ⟨⟨asc_nil, by show 0 ≤ 8; decide, by show 0 ≤ 8; decide⟩, by show (0 : Int) ≤ 0; decide, by show (0 : Int) ≤ 8; decide⟩
theorem fair_fm (h : Fair n rn wt f nx la) : FM (fS n rn wt) f := fun j r hr => ⟨0, h.f0 j r hr, by show 0 < 2; decide⟩
theorem fair_not (h : Fair n rn wt f nx la) : ¬ nx ∈ rn ∧ ¬ nx ∈ wt := ⟨fun hx => by have := (h.rle nx hx).2; have := h.lan; omega, fun hx => by have := (h.wgt nx hx).2; omega⟩
theorem fair_f (h : Fair n rn wt f nx la) : ¬ (f nx).isSome = true := fun hx => ((h.fm nx).1 hx).elim (fair_not h).1 (fair_not h).2
theorem fair_put {rn' wt' : List Int} (h : Fair n rn wt f nx la) (hm : ∀ j, (j ∈ rn' ∨ j ∈ wt') ↔ (j = nx ∨ (j ∈ rn ∨ j ∈ wt))) :
    (∀ j, ((fun i => if i = nx then some (((0 : Nat) : Int)) else f i) j).isSome = true ↔ j ∈ rn' ∨ j ∈ wt') ∧ ∀ j r, (fun i => if i = nx then some (((0 : Nat) : Int)) else f i) j = some r → r = 0 := by
  refine ⟨fun j => ?_, fun j r hr => ?_⟩
  · rw [hm]
    by_cases e : j = nx
    · simp [e]
    · simp only [e, if_false, false_or]; exact h.fm j
  · by_cases e : j = nx
    · simp only [e, if_true, Option.some.injEq] at hr; omega
    · simp only [e, if_false] at hr; exact h.f0 j r hr
theorem fair_ask (h : Fair n rn wt f nx la) (hx : isJ nx) :
    (askE (fS n rn wt) f 1 0 nx = 10 ∧ askR (fS n rn wt) f 1 0 nx = false ∧ askS (fS n rn wt) f 1 0 nx = fS n rn wt ∧ askF (fS n rn wt) f 1 0 nx = f) ∨
    (askE (fS n rn wt) f 1 0 nx = 0 ∧ askR (fS n rn wt) f 1 0 nx = true ∧ askS (fS n rn wt) f 1 0 nx = fS n (insI rn nx) wt ∧ Fair n (insI rn nx) wt (askF (fS n rn wt) f 1 0 nx) (nx + 1) nx) ∨
    (askE (fS n rn wt) f 1 0 nx = 0 ∧ askR (fS n rn wt) f 1 0 nx = false ∧ askS (fS n rn wt) f 1 0 nx = fS n rn (wt ++ [nx]) ∧ Fair n rn (wt ++ [nx]) (askF (fS n rn wt) f 1 0 nx) (nx + 1) la) := by
  have hin : inP (fS n rn wt).length 1 0 := by show inP 2 1 0; decide
  have hn1 := h.n1
  have hlan := h.lan
  have hla0 := h.la0
  have hlen := h.len
  by_cases hr : (rn.length : Int) < n
  · obtain ⟨e1, e2, e3⟩ := ask_run (S := fS n rn wt) (f := f) (b := 1) (o := 0) hin hx (fair_f h) hr
    injection e1 with e1
    have hw : wt = [] := Classical.byContradiction fun hw => by have := h.full hw; omega
    have h0 : askE (fS n rn wt) f 1 0 nx = 0 ∧ askR (fS n rn wt) f 1 0 nx = true := by
      have e4 := congrArg Array.toList e1
      simp at e4
      exact ⟨e4.2.symm, e4.1⟩
    refine .inr (.inl ⟨h0.1, h0.2, e2, ?_⟩)
    rw [e3]
    obtain ⟨g1, g2⟩ := fair_put (rn' := insI rn nx) (wt' := wt) h (fun j => by rw [mem_ins]; exact or_assoc)
    subst hw
    exact ⟨asc_ins h.asc (fair_not h).1, fun x hx => by
      rcases mem_ins.1 hx with rfl | hx
      · omega
      · have := h.rle x hx; omega, asc_nil, fun x hx => (by cases hx), by omega, by omega, by rw [len_ins]; omega, fun hw => absurd rfl hw, Nat.zero_le _, h.n1, g1, g2⟩
  · by_cases h8 : 8 ≤ wt.length
    · have e0 := askE10 (S := fS n rn wt) (f := f) (b := 1) (o := 0) hin hx (fair_f h) hr (.inr h8)
      obtain ⟨e1, e2, e3⟩ := ask_no e0 (by decide)
      injection e1 with e1
      have e4 := congrArg Array.toList e1
      simp at e4
      exact .inl ⟨e0, e4.1, e2, e3⟩
    · have hn0 : ¬ ((gS (fS n rn wt) (kP 1 0)).sl = 0 ∨ 8 ≤ (gS (fS n rn wt) (kP 1 0)).wt.length) := fun h9 => h9.elim (fun h9 => by have h9 : n = 0 := h9; omega) h8
      obtain ⟨e1, e2, e3⟩ := ask_wait (S := fS n rn wt) (f := f) (b := 1) (o := 0) hin hx (fair_f h) hr hn0
      injection e1 with e1
      have e4 := congrArg Array.toList e1
      simp at e4
      refine .inr (.inr ⟨e4.2.symm, e4.1, e2, ?_⟩)
      rw [e3]
      obtain ⟨g1, g2⟩ := fair_put (rn' := rn) (wt' := wt ++ [nx]) h (fun j => by
        rw [List.mem_append, List.mem_singleton]
        exact ⟨fun h => by rcases h with h | h | h; exact .inr (.inl h); exact .inr (.inr h); exact .inl h, fun h => by rcases h with h | h | h; exact .inr (.inr h); exact .inl h; exact .inr (.inl h)⟩)
      exact ⟨h.asc, h.rle, List.pairwise_append.2 ⟨h.was, List.pairwise_singleton _ _, fun a ha b hb => by rw [List.mem_singleton] at hb; subst hb; exact (h.wgt a ha).2⟩, fun x hx => by
        rcases List.mem_append.1 hx with hx | hx
        · have := h.wgt x hx; omega
        · rw [List.mem_singleton] at hx; subst hx; omega, by omega, h.la0, h.len, fun _ => by omega, by rw [List.length_append]; show _ + 1 ≤ 8; omega, h.n1, g1, g2⟩
theorem fair_del {rn' wt' : List Int} (h : Fair n rn wt f nx la) (hm : ∀ i, (i ∈ rn' ∨ i ∈ wt') ↔ ((i ∈ rn ∨ i ∈ wt) ∧ i ≠ j)) :
    (∀ i, ((fun i => if i = j then none else f i) i).isSome = true ↔ i ∈ rn' ∨ i ∈ wt') ∧ ∀ i r, (fun i => if i = j then none else f i) i = some r → r = 0 := by
  refine ⟨fun i => ?_, fun i r hr => ?_⟩
  · rw [hm]
    by_cases e : i = j
    · simp [e]
    · simp only [e, if_false, ne_eq, not_false_iff, and_true]; exact h.fm i
  · by_cases e : i = j
    · simp only [e, if_true] at hr; cases hr
    · simp only [e, if_false] at hr; exact h.f0 i r hr
theorem fair_lev (h : Fair n rn wt f nx la) (j : Int) :
    (levE f j = 3 ∧ levS (fS n rn wt) f j = fS n rn wt ∧ levF f j = f) ∨
    (levE f j = 0 ∧ ∃ rn' wt' la', levS (fS n rn wt) f j = fS n rn' wt' ∧ Fair n rn' wt' (levF f j) nx la' ∧ ((levN (fS n rn wt) f j = 0 ∧ la' = la) ∨ (0 < levN (fS n rn wt) f j ∧ la < levN (fS n rn wt) f j ∧ la' = levN (fS n rn wt) f j))) := by
  have hn1 := h.n1
  have hlan := h.lan
  have hla0 := h.la0
  have hlen := h.len
  by_cases hs : (f j).isSome = true
  · refine .inr ⟨if_pos hs, ?_⟩
    have hk : levK f j = 0 := by
      unfold levK
      cases hf : f j with
      | none => rfl
      | some r => have := h.f0 j r hf; subst this; rfl
    have eS : levS (fS n rn wt) f j = (fS n rn wt).set 0 (levD ⟨n, rn, wt⟩ j) := by unfold levS; rw [if_pos hs, hk]; rfl
    have eN : levN (fS n rn wt) f j = levM ⟨n, rn, wt⟩ j := by unfold levN; rw [if_pos hs, hk]; rfl
    have eF : levF f j = fun i => if i = j then none else f i := if_pos hs
    rw [eS, eN, eF]
    by_cases hc : j ∈ rn ∧ ¬ dlI wt j = []
    · have hjw : ¬ j ∈ wt := fun hw => by have := (h.wgt j hw).1; have := (h.rle j hc.1).2; omega
      have hdw : dlI wt j = wt := dl_not hjw
      rw [hdw] at hc
      obtain ⟨q, wt2, hwt⟩ : ∃ q wt2, wt = q :: wt2 := by cases wt with
        | nil => exact absurd rfl hc.2
        | cons q wt2 => exact ⟨q, wt2, rfl⟩
      have eM : levM ⟨n, rn, wt⟩ j = q := by unfold levM; rw [if_pos ⟨hc.1, by rw [hdw]; exact hc.2⟩]; show (dlI wt j).getD 0 0 = q; rw [hdw, hwt]; rfl
      have eD : levD ⟨n, rn, wt⟩ j = ⟨n, insI (dlI rn j) q, wt2⟩ := by
        unfold levD; rw [if_pos ⟨hc.1, by rw [hdw]; exact hc.2⟩]
        show Sd.mk n (insI (dlI rn j) ((dlI wt j).getD 0 0)) ((dlI wt j).drop 1) = _
        rw [hdw, hwt]; rfl
      have hq := h.wgt q (by rw [hwt]; exact List.mem_cons_self ..)
      have hqr : ¬ q ∈ dlI rn j := fun hq2 => by have := (h.rle q (mem_dl.1 hq2).1).2; omega
      obtain ⟨w1, w2⟩ := List.pairwise_cons.1 (hwt ▸ h.was)
      have hfull := h.full hc.2
      have hll := dl_len_in hc.1 (asc_nodup h.asc)
      have hw8 := h.w8
      rw [hwt] at hw8
      simp only [List.length_cons] at hw8
      rw [eM, eD]
      obtain ⟨g1, g2⟩ := fair_del (rn' := insI (dlI rn j) q) (wt' := wt2) (j := j) h (fun i => by
        rw [mem_ins, mem_dl, hwt, List.mem_cons]
        constructor
        · rintro ((rfl | h1) | h1)
          · exact ⟨.inr (.inl rfl), fun e => hjw (by rw [hwt, ← e]; exact List.mem_cons_self ..)⟩
          · exact ⟨.inl h1.1, h1.2⟩
          · exact ⟨.inr (.inr h1), fun e => hjw (by rw [hwt, ← e]; exact List.mem_cons_of_mem _ h1)⟩
        · rintro ⟨h1 | h1 | h1, h2⟩
          · exact .inl (.inr ⟨h1, h2⟩)
          · exact .inl (.inl h1)
          · exact .inr h1)
      refine ⟨insI (dlI rn j) q, wt2, q, rfl, ⟨asc_ins (asc_dl h.asc) hqr, fun x hx => ?_, w2, fun x hx => ⟨w1 x hx, (h.wgt x (by rw [hwt]; exact List.mem_cons_of_mem _ hx)).2⟩, hq.2, by omega, by rw [len_ins]; omega, fun _ => by rw [len_ins]; omega, by omega, h.n1, g1, g2⟩, .inr ⟨by omega, hq.1, rfl⟩⟩
      rcases mem_ins.1 hx with rfl | hx
      · omega
      · have := h.rle x (mem_dl.1 hx).1; omega
    · have eM : levM ⟨n, rn, wt⟩ j = 0 := if_neg hc
      have eD : levD ⟨n, rn, wt⟩ j = ⟨n, dlI rn j, dlI wt j⟩ := if_neg hc
      rw [eM, eD]
      obtain ⟨g1, g2⟩ := fair_del (rn' := dlI rn j) (wt' := dlI wt j) (j := j) h (fun i => by
        rw [mem_dl, mem_dl]
        exact ⟨fun h => h.elim (fun h => ⟨.inl h.1, h.2⟩) (fun h => ⟨.inr h.1, h.2⟩), fun ⟨h1, h2⟩ => h1.elim (fun h1 => .inl ⟨h1, h2⟩) (fun h1 => .inr ⟨h1, h2⟩)⟩)
      have hd1 := dl_len (l := rn) (x := j)
      have hd2 := dl_len (l := wt) (x := j)
      have hw8 := h.w8
      refine ⟨dlI rn j, dlI wt j, la, rfl, ⟨asc_dl h.asc, fun x hx => h.rle x (mem_dl.1 hx).1, asc_dl h.was, fun x hx => h.wgt x (mem_dl.1 hx).1, h.lan, h.la0, by omega, fun hw => ?_, by omega, h.n1, g1, g2⟩, .inl ⟨rfl, rfl⟩⟩
      have hj : ¬ j ∈ rn := fun hj => hc ⟨hj, hw⟩
      rw [dl_not hj]
      exact h.full (fun e => hw (by rw [e]; rfl))
  · refine .inl ⟨if_neg hs, ?_, if_neg hs⟩
    unfold levS; rw [if_neg hs]
theorem fair_lev2 (h : Fair n rn wt f nx la) (j : Int) : ∃ rn' wt' la', levS (fS n rn wt) f j = fS n rn' wt' ∧ Fair n rn' wt' (levF f j) nx la' ∧
    ((levE f j = 3 ∧ la' = la) ∨ (levE f j = 0 ∧ levN (fS n rn wt) f j = 0 ∧ la' = la) ∨ (levE f j = 0 ∧ 0 < levN (fS n rn wt) f j ∧ la < levN (fS n rn wt) f j ∧ la' = levN (fS n rn wt) f j)) := by
  rcases fair_lev h j with ⟨h1, h2, h3⟩ | ⟨h1, rn', wt', la', h2, h3, h4 | h4⟩
  · exact ⟨rn, wt, la, h2, by rw [h3]; exact h, .inl ⟨h1, rfl⟩⟩
  · exact ⟨rn', wt', la', h2, h3, .inr (.inl ⟨h1, h4⟩)⟩
  · exact ⟨rn', wt', la', h2, h3, .inr (.inr ⟨h1, h4⟩)⟩
theorem okN1 (h : 1 ≤ n ∧ n ≤ 4) : okN [[0, n, 0, 0]] := by
  refine ⟨by show 1 ≤ 8; decide, fun x hx => ?_⟩
  have hx : x = n ∨ x = 0 := by simpa [sls] using hx
  unfold okS
  omega
theorem shr1_u8 {x : Int} : x.fdiv (2 ^ min (1 : Int).toNat IntKind.u8.bits) = x / 2 := Int.fdiv_eq_ediv_of_nonneg x (by decide)
theorem u8At {H : Heap} {a : Option Addr} {l : List Int} (h : l.length = 0 ∨ ∃ b off, a = some ⟨b, off, none⟩ ∧ ∀ k, k < l.length → cellAt H b (off + k * 1) = some (.int .u8 (l.getD k 0))) : ∃ b off, 0 < l.length → a = some ⟨b, off, none⟩ ∧ ∀ k, k < l.length → cellAt H b (off + k * 1) = some (.int .u8 (l.getD k 0)) := by
  rcases h with h | ⟨b, off, h1, h2⟩
  · exact ⟨0, 0, fun h0 => by omega⟩
  · exact ⟨b, off, fun _ => ⟨h1, h2⟩⟩
theorem ln_two {E : List Se} (h : E.map lnP = (fS n rn wt).map lnS) : E.length = 2 ∧ (gE E 0).rn = rn ∧ (gE E 0).wt = wt := by
  have hl : E.length = 2 := by have := congrArg List.length h; rwa [List.length_map] at this
  obtain ⟨e1, e2, rfl⟩ : ∃ e1 e2, E = [e1, e2] := by
    cases E with
    | nil => cases hl
    | cons e1 E => cases E with
      | nil => cases hl
      | cons e2 E => cases E with
        | nil => exact ⟨e1, e2, rfl⟩
        | cons e3 E => simp at hl
  simp only [fS, List.map_cons, List.map_nil, List.cons.injEq, and_true] at h
  exact ⟨rfl, congrArg Prod.fst h.1, congrArg Prod.snd h.1⟩
end
end Go.XG
