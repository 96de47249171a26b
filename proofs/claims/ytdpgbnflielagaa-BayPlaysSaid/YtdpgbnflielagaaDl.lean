/-
  Lines that there were, in plain Lean.
-/
import Derived.Test.YtdpgbnflielagaaDm
namespace Go.XG
def lnOk (n : Int) (r w : List Int) : Prop := (r.length : Int) ≤ n ∧ w.length ≤ 8 ∧ (0 < w.length → (r.length : Int) = n ∧ 0 < n)
def SrtI (l : List Int) (k : Nat) : Prop := ∀ i, 0 < i → i < k → l.getD (i - 1) 0 ≤ l.getD i 0
def jlE (e : Se) : List Int := e.rn ++ e.wt
def jbE (E : List Se) : List Int := E.flatMap jlE
structure ldOk (l : List (List Int)) (E : List Se) : Prop where
  ok : okN l
  len : E.length = 2 * l.length
  at_ : ∀ k, k < E.length → lnOk ((sls l).getD k 0) (gE E k).rn (gE E k).wt ∧ SrtI (gE E k).rn (gE E k).rn.length
  nd : (jbE E).Nodup
  isj : ∀ j ∈ jbE E, isJ j
/-- The jobs up to the i-th of the k-th line. -/
def jbP (E : List Se) (k i : Nat) : List Int := jbE (E.take k) ++ (jlE (gE E k)).take i
structure LdG (l : List (List Int)) (E : List Se) (k i : Nat) : Prop where
  at_ : ∀ x, x < k → lnOk ((sls l).getD x 0) (gE E x).rn (gE E x).wt ∧ SrtI (gE E x).rn (gE E x).rn.length
  nd : (jbP E k i).Nodup
  isj : ∀ j ∈ jbP E k i, isJ j
  le : (jbP E k i).length ≤ k * 16 + i
section
variable {l : List (List Int)} {E : List Se} {k i : Nat} {r w : List Int} {x : Int}
theorem jbE_app {E' : List Se} : jbE (E ++ E') = jbE E ++ jbE E' := by unfold jbE; rw [List.flatMap_append]
theorem jbP_0 : jbP E k 0 = jbE (E.take k) := by unfold jbP; simp
theorem jbP_end (hk : k < E.length) (hi : (jlE (gE E k)).length ≤ i) : jbP E k i = jbP E (k + 1) 0 := by
  rw [jbP_0]
  unfold jbP
  rw [List.take_of_length_le hi, List.take_succ_eq_append_getElem hk, jbE_app, gE_eq hk]
  congr 1
  show _ = jlE E[k] ++ []
  rw [List.append_nil]
theorem jbP_next (hi : i < (jlE (gE E k)).length) : jbP E k (i + 1) = jbP E k i ++ [(jlE (gE E k)).getD i 0] := by
  unfold jbP
  rw [take_gd hi, List.append_assoc]
theorem jbP_pre (hk : k < E.length) (hi : i < (jlE (gE E k)).length) : ∃ t, jbE E = jbP E k i ++ [(jlE (gE E k)).getD i 0] ++ t := by
  refine ⟨(jlE (gE E k)).drop (i + 1) ++ jbE (E.drop (k + 1)), ?_⟩
  rw [← jbP_next hi]
  unfold jbP
  have e1 : jbE E = jbE (E.take k) ++ (jlE (gE E k) ++ jbE (E.drop (k + 1))) := by
    conv => lhs; rw [← List.take_append_drop k E, jbE_app, List.drop_eq_getElem_cons hk]
    rw [gE_eq hk]; rfl
  rw [e1, List.append_assoc, ← List.append_assoc ((jlE (gE E k)).take (i + 1)), List.take_append_drop]
theorem ldOk.new (h : ldOk l E) (hk : k < E.length) (hi : i < (jlE (gE E k)).length) : isJ ((jlE (gE E k)).getD i 0) ∧ ¬ (jlE (gE E k)).getD i 0 ∈ jbP E k i := by
  obtain ⟨t, ht⟩ := jbP_pre hk hi
  have h1 := h.nd
  have h2 := h.isj
  rw [ht] at h1 h2
  refine ⟨h2 _ (by simp), fun hm => ?_⟩
  have h3 := (List.nodup_append.1 (List.nodup_append.1 h1).1).2.2
  exact h3 _ hm _ (List.mem_singleton.2 rfl) rfl
theorem ldg_0 : LdG l E 0 0 := ⟨fun x h => absurd h (Nat.not_lt_zero x), by simp [jbP, jbE], fun j h => by simp [jbP, jbE] at h, by simp [jbP, jbE]⟩
theorem LdG.step (h : LdG l E k i) (hi : i < (jlE (gE E k)).length) (hj : isJ ((jlE (gE E k)).getD i 0)) (hn : ¬ (jlE (gE E k)).getD i 0 ∈ jbP E k i) : LdG l E k (i + 1) := by
  refine ⟨h.at_, ?_, fun j hm => ?_, ?_⟩
  · rw [jbP_next hi]
    refine List.nodup_append.2 ⟨h.nd, by simp, fun a ha b hb => ?_⟩
    rw [List.mem_singleton] at hb; subst hb
    exact fun e => hn (e ▸ ha)
  · rw [jbP_next hi] at hm
    rcases List.mem_append.1 hm with hm | hm
    · exact h.isj j hm
    · rw [List.mem_singleton] at hm; subst hm; exact hj
  · rw [jbP_next hi, List.length_append]
    have := h.le
    show _ + 1 ≤ _
    omega
theorem LdG.done (h : LdG l E k i) (hk : k < E.length) (hi : i = (jlE (gE E k)).length) (h16 : i ≤ 16) (ho : lnOk ((sls l).getD k 0) (gE E k).rn (gE E k).wt) (hs : SrtI (gE E k).rn (gE E k).rn.length) : LdG l E (k + 1) 0 := by
  have e := jbP_end (i := i) hk (by omega)
  refine ⟨fun x hx => ?_, by rw [← e]; exact h.nd, fun j hm => h.isj j (by rw [e]; exact hm), ?_⟩
  · rcases Nat.lt_or_ge x k with h1 | h1
    · exact h.at_ x h1
    · obtain rfl : x = k := by omega
      exact ⟨ho, hs⟩
  · rw [← e]
    have := h.le
    omega
theorem LdG.all (h : LdG l E k 0) (hk : k = E.length) (ok : okN l) (hl : E.length = 2 * l.length) : ldOk l E := by
  subst hk
  have e : jbP E E.length 0 = jbE E := by rw [jbP_0, List.take_length]
  exact ⟨ok, hl, h.at_, e ▸ h.nd, e ▸ h.isj⟩
theorem srtI_next (h : SrtI r i) (hc : 0 < i → ¬ r.getD i 0 < r.getD (i - 1) 0) : SrtI r (i + 1) := fun x h0 h1 => by
  rcases Nat.lt_or_ge x i with h2 | h2
  · exact h x h0 h2
  · obtain rfl : x = i := by omega
    have := hc h0
    omega
theorem srtI_1 : SrtI r 1 := fun x h0 h1 => by omega
theorem srtI_0 : SrtI r 0 := fun x h0 h1 => by omega
theorem jl_run (h : i < (gE E k).rn.length) : (jlE (gE E k)).getD i 0 = (gE E k).rn.getD i 0 := by
  unfold jlE; rw [List.getD_eq_getElem?_getD, List.getD_eq_getElem?_getD, List.getElem?_append_left h]
theorem jl_wait : (jlE (gE E k)).getD ((gE E k).rn.length + i) 0 = (gE E k).wt.getD i 0 := by
  unfold jlE; rw [List.getD_eq_getElem?_getD, List.getD_eq_getElem?_getD, List.getElem?_append_right (by omega)]
  rw [show (gE E k).rn.length + i - (gE E k).rn.length = i by omega]
theorem jl_len : (jlE (gE E k)).length = (gE E k).rn.length + (gE E k).wt.length := by unfold jlE; rw [List.length_append]
theorem ok_get (h : okN l) (hk : k < 2 * l.length) : okS ((sls l).getD k 0) := h.2 _ (gd_mem (by rw [sls_len]; exact hk))
theorem srtI_get {n : Nat} (h : SrtI r n) (h0 : 0 < i) (h1 : i < n) : ¬ r.getD i 0 < r.getD (i - 1) 0 := by
  have := h i h0 h1
  omega
/-- Lines without jobs. -/
theorem gE_rep {n : Nat} : gE (List.replicate n e0) k = e0 := by
  unfold gE
  by_cases h : k < n
  · simp [h]
  · rw [List.getD_eq_getElem?_getD, List.getElem?_eq_none (by simp; omega)]; rfl
theorem ld_zero (h : okN l) : ldOk l (List.replicate (2 * l.length) e0) := by
  have e : jbE (List.replicate (2 * l.length) e0) = [] := by
    unfold jbE
    rw [List.flatMap_eq_nil_iff]
    intro x hx
    rw [(List.mem_replicate.1 hx).2]; rfl
  refine ⟨h, by simp, fun k hk => ?_, by rw [e]; exact List.nodup_nil, fun j hj => by rw [e] at hj; cases hj⟩
  rw [gE_rep]
  have := ok_get h (k := k) (by simpa using hk)
  exact ⟨⟨by have := this.1; show (0 : Int) ≤ _; exact this, Nat.zero_le _, fun h => absurd h (by decide)⟩, fun i h0 h1 => absurd h1 (Nat.not_lt_zero i)⟩
end
/-! What sides there are. -/
def loS (l : List (List Int)) (E : List Se) : List Sd := (List.range E.length).map fun k => ⟨(sls l).getD k 0, (gE E k).rn, (gE E k).wt⟩
section
variable {l : List (List Int)} {E : List Se} {k : Nat} {f : Fn}
theorem loS_len : (loS l E).length = E.length := by simp [loS]
theorem loS_get (h : k < E.length) : gS (loS l E) k = ⟨(sls l).getD k 0, (gE E k).rn, (gE E k).wt⟩ := by simp [gS, loS, h]
theorem loS_ln : (loS l E).map lnS = E.map lnP := by
  apply List.ext_getElem (by simp [loS])
  intro i h1 h2
  simp only [List.length_map] at h2
  simp [loS, lnS, lnP, gE, h2]
theorem loS_sl (h : E.length = 2 * l.length) : sls l = (loS l E).map Sd.sl := by
  apply List.ext_getElem (by rw [sls_len]; simp [loS, h])
  intro i h1 h2
  simp [loS, h1]
theorem nodup_part (h : (jbE E).Nodup) (hk : k < E.length) : (jlE (gE E k)).Nodup := by
  have e1 : jbE E = jbE (E.take k) ++ (jlE (gE E k) ++ jbE (E.drop (k + 1))) := by
    conv => lhs; rw [← List.take_append_drop k E, jbE_app, List.drop_eq_getElem_cons hk]
    rw [gE_eq hk]; rfl
  rw [e1] at h
  exact (List.nodup_append.1 (List.nodup_append.1 h).2.1).1
theorem srtI_asc {r : List Int} (h : SrtI r r.length) (hn : r.Nodup) : Asc r := by
  have key : ∀ d i, i + d < r.length → r.getD i 0 ≤ r.getD (i + d) 0 := by
    intro d
    induction d with
    | zero => intro i _; exact Int.le_refl _
    | succ d ih =>
      intro i hi
      have h1 := ih i (by omega)
      have h2 := h (i + (d + 1)) (by omega) hi
      rw [show i + (d + 1) - 1 = i + d by omega] at h2
      omega
  refine List.pairwise_iff_getElem.2 fun i j hi hj hij => ?_
  have h1 := key (j - i) i (by omega)
  rw [show i + (j - i) = j by omega] at h1
  have h2 : r.getD i 0 = r[i] := by simp [hi]
  have h3 : r.getD j 0 = r[j] := by simp [hj]
  rw [h2, h3] at h1
  have h4 : r[i] ≠ r[j] := fun e => by have := (List.getElem_inj hn).1 e; omega
  omega
theorem ld_iv (h : ldOk l E) (hf : ∀ j (k : Int), f j = some k ↔ ∃ n : Nat, k = (n : Int) ∧ n < E.length ∧ j ∈ jlE (gE E n)) : IV (loS l E) f := by
  have hl := h.ok.1
  have he := h.len
  refine ⟨⟨by rw [loS_len]; omega, fun n hn => ?_⟩, fun j k => ?_, fun n hn => ?_⟩
  · rw [loS_len] at hn
    obtain ⟨⟨a1, a2, a3⟩, a4⟩ := h.at_ n hn
    have hs := ok_get h.ok (k := n) (by omega)
    have hp := nodup_part h.nd hn
    rw [loS_get hn]
    have h8 : (gE E n).rn.length ≤ 8 := by have := hs.2; omega
    exact ⟨⟨srtI_asc a4 (List.nodup_append.1 hp).1, h8, a2⟩, hs.1, hs.2⟩
  · rw [hf, loS_len]
    constructor
    · rintro ⟨n, h1, h2, h3⟩; exact ⟨n, h1, h2, by rw [loS_get h2]; exact List.mem_append.1 h3⟩
    · rintro ⟨n, h1, h2, h3⟩; rw [loS_get h2] at h3; exact ⟨n, h1, h2, List.mem_append.2 h3⟩
  · rw [loS_len] at hn
    have hp := List.nodup_append.1 (nodup_part h.nd hn)
    rw [loS_get hn]
    exact ⟨hp.2.1, fun j h1 h2 => hp.2.2 j h1 j h2 rfl⟩
end
theorem take_E {E : List Se} {k : Nat} (h : k < E.length) : fL (E.take (k + 1)) = fL (E.take k) ++ [.slice (gE E k).ra (gE E k).rn.length (gE E k).rc, .slice (gE E k).wa (gE E k).wt.length (gE E k).wc] := by
  rw [List.take_succ_eq_append_getElem h, fL_snoc, gE_eq h]; rfl
theorem new_ln {l : List (List Int)} : (List.replicate (2 * l.length) e0).map lnP = (newS l).map lnS := by
  apply List.ext_getElem (by simp [newS, sls_len])
  intro i h1 h2
  simp [newS, lnS, lnP, e0]
theorem newS_len {l : List (List Int)} : (newS l).length = 2 * l.length := by unfold newS; rw [List.length_map, sls_len]
theorem newS_sl {l : List (List Int)} : sls l = (newS l).map Sd.sl := by
  unfold newS
  rw [List.map_map]
  exact (List.map_id _).symm
theorem new_iv {l : List (List Int)} (h : okN l) : IV (newS l) (fun _ => none) := by
  have hg : ∀ n, n < (newS l).length → gS (newS l) n = ⟨(sls l).getD n 0, [], []⟩ := fun n hn => by
    have h1 : n < (sls l).length := by unfold newS at hn; rwa [List.length_map] at hn
    simp [gS, newS, h1]
  refine ⟨⟨by rw [newS_len]; have := h.1; omega, fun n hn => ?_⟩, fun j k => ⟨fun h => (by cases h), fun ⟨n, h1, h2, h3⟩ => ?_⟩, fun n hn => ?_⟩
  · rw [hg n hn]
    have := ok_get h (k := n) (by rw [newS_len] at hn; exact hn)
    exact ⟨⟨asc_nil, Nat.zero_le _, Nat.zero_le _⟩, this.1, this.2⟩
  · rw [hg n h2] at h3
    exact h3.elim (fun h => (by cases h)) (fun h => (by cases h))
  · rw [hg n hn]
    exact ⟨List.nodup_nil, fun j h => (by cases h)⟩
theorem new_small {l : List (List Int)} {e : Ln} (h : e ∈ (newS l).map lnS) : e.1.length < 1000000 ∧ e.2.length < 1000000 := by
  obtain ⟨d, h1, rfl⟩ := List.mem_map.1 h
  unfold newS at h1
  obtain ⟨n, _, rfl⟩ := List.mem_map.1 h1
  exact ⟨by show 0 < 1000000; decide, by show 0 < 1000000; decide⟩
section
variable {H H1 H2 H3 : Heap} {G F : Nat → Prop} {bp b : Nat} {S : List Sd} {f : Fn} {a : Option Addr} {n c base e size : Nat} {xs cs : List Value} {t : TypeId}
theorem own_keepF (h : Own H base e size (.slice a n c) n xs) (kf : KeepF F H H1) (hF : ∀ j, bk a j → ¬ F j) : Own H1 base e size (.slice a n c) n xs := by
  refine ⟨h.1, h.2.imp id fun ⟨g, cap, cur, h1, h2, h3, h4⟩ => ⟨g, cap, cur, h1, h2, ?_, h4⟩⟩
  have hg : bk a g := by injection h1 with h1 _ _; exact ⟨_, h1, rfl⟩
  exact (kf.same g (lt_of_get h3) (hF g hg)).trans h3
theorem BB.keepF (h : BB H bp G S f) (kf : KeepF F H H1) (hF : ∀ j, F j → ¬ G j) : BB H1 bp G S f := by
  obtain ⟨T, h0, a, c, m, h1, h2, h3, h4, h5, h6, h7⟩ := h
  exact ⟨T, h0, a, c, m, h1.keep kf (fun h => hF _ h h5), own_keepF h2 kf (fun j hj h => hF _ h (h7 j hj)), h3.keep kf (fun h => hF _ h h6), h4.keep kf (fun j hj k w hk hb => hF _ hj (h4.own k hk w j hb)), h5, h6, h7⟩
theorem BB.offB (h : BB H bp G S f) (u : But b H H1) (hb : ¬ G b) : BB H1 bp G S f := h.keepF (F := fun j => j = b) ⟨u.size, fun i hi hn => u.same i hi hn⟩ (fun j hj => by rw [hj]; exact hb)
theorem hb_off (h : BB H bp G S f) (hG : ∀ i, G i → i < H3.size) (hs : H3.size ≤ H.size) (n : New H H1 b cs t) (u : But b H1 H2) : BB H2 bp G S f := (h.ext n.ext).offB u (fun hg => by have := hG b hg; have := n.ge; omega)
end
theorem BB.offT {H H1 : Heap} {G : Nat → Prop} {bp b : Nat} {S : List Sd} {f : Fn} {cs : List Value} {t : TypeId} (h : BB H bp G S f) (_ : Blk H b cs t) (u : But b H H1) (hn : ¬ G b) : BB H1 bp G S f := h.offB u hn
theorem whV_t (S : List Sd) (f : Fn) (j : Int) : ∃ x y z u : Int, whV S f j = .tuple #[.int .i64 x, .int .i64 y, .int .i64 z, .int .i64 u] := by
  unfold whV; split <;> exact ⟨_, _, _, _, rfl⟩
theorem freV_t (S : List Sd) (b o : Int) : ∃ x y : Int, freV S b o = .tuple #[.int .i64 x, .int .i64 y] := by
  unfold freV; split <;> exact ⟨_, _, rfl⟩
end Go.XG
