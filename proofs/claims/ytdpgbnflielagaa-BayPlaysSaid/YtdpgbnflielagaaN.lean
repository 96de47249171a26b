/-
  Sides of bays in memory.
-/
import Derived.Test.YtdpgbnflielagaaM
namespace Go.XG
/-- A side: how many may run there, which do, which wait; where they lie. -/
structure Se where
  sl : Int
  rn : List Int
  ra : Option Addr
  rc : Nat
  wt : List Int
  wa : Option Addr
  wc : Nat
structure Sd where
  sl : Int
  rn : List Int
  wt : List Int
def s0 : Sd := ⟨0, [], []⟩
abbrev gS (S : List Sd) (k : Nat) : Sd := S.getD k s0
def sdE (e : Se) : Sd := ⟨e.sl, e.rn, e.wt⟩
def e0 : Se := ⟨0, [], none, 0, [], none, 0⟩
abbrev gE (T : List Se) (k : Nat) : Se := T.getD k e0
def csE (e : Se) : List Value := [.int .i64 e.sl, .slice e.ra e.rn.length e.rc, .slice e.wa e.wt.length e.wc]
def fE (T : List Se) : List Value := T.flatMap csE
def adE (e : Se) : Bool → Option Addr
  | false => e.ra
  | true => e.wa
def lsE (e : Se) : Bool → List Int
  | false => e.rn
  | true => e.wt
def caE (e : Se) : Bool → Nat
  | false => e.rc
  | true => e.wc
def stE (e : Se) (w : Bool) (l : List Int) (a : Option Addr) (c : Nat) : Se := match w with
  | false => { e with rn := l, ra := a, rc := c }
  | true => { e with wt := l, wa := a, wc := c }
def Gn (G : Nat → Prop) (H H' : Heap) (j : Nat) : Prop := G j ∨ (H.size ≤ j ∧ j < H'.size)
structure LS (H : Heap) (G : Nat → Prop) (T : List Se) : Prop where
  io : ∀ k, k < T.length → ∀ w, IO H (adE (gE T k) w) (caE (gE T k) w) (lsE (gE T k) w)
  own : ∀ k, k < T.length → ∀ w j, bk (adE (gE T k) w) j → G j
  sep : ∀ k k' w w' j, k < T.length → k' < T.length → bk (adE (gE T k) w) j → bk (adE (gE T k') w') j → k = k' ∧ w = w'
section
variable {H H1 H2 : Heap} {cs0 : List Value} {t0 : TypeId} {G F : Nat → Prop} {T : List Se} {k k' gb c c' : Nat} {w w' : Bool} {e e' : Se} {l : List Int} {a a' : Option Addr} {ex : List Value} {S : List Sd}
theorem gE_set (hk : k < T.length) : gE (T.set k e) k' = if k' = k then e else gE T k' := by
  unfold gE
  rw [List.getD_eq_getElem?_getD, List.getElem?_set, List.getD_eq_getElem?_getD]
  by_cases h : k' = k
  · subst h; rw [if_pos rfl, if_pos rfl, if_pos hk]; rfl
  · rw [if_neg (fun e => h e.symm), if_neg h]
theorem adE_st : adE (stE e w l a c) w' = if w' = w then a else adE e w' := by cases w <;> cases w' <;> rfl
theorem lsE_st : lsE (stE e w l a c) w' = if w' = w then l else lsE e w' := by cases w <;> cases w' <;> rfl
theorem caE_st : caE (stE e w l a c) w' = if w' = w then c else caE e w' := by cases w <;> cases w' <;> rfl
theorem fE_len : (fE T).length = T.length * 3 := by
  induction T with
  | nil => rfl
  | cons e T ih => unfold fE at ih ⊢; rw [List.flatMap_cons, List.length_append, ih, List.length_cons]; show 3 + _ = _; omega
theorem fE_app {T' : List Se} : fE (T ++ T') = fE T ++ fE T' := by unfold fE; rw [List.flatMap_append]
theorem gE_eq (h : k < T.length) : gE T k = T[k] := by simp [gE, h]
theorem fE_split (h : k < T.length) : fE T = fE (T.take k) ++ (csE (gE T k) ++ fE (T.drop (k + 1))) := by
  rw [gE_eq h]
  conv => lhs; rw [← List.take_append_drop k T, fE_app, List.drop_eq_getElem_cons h]
  rfl
theorem ldE (hb : Blk H gb (fE T ++ ex) 69) (hk : k < T.length) (i : Nat) {v : Value} (hv : (csE (gE T k))[i]? = some v) : cellAt H gb (0 + k * 3 + i) = some v := by
  rw [hb.cell, fE_split hk]
  have h1 : (fE (T.take k)).length = k * 3 := by rw [fE_len, List.length_take, Nat.min_eq_left (Nat.le_of_lt hk)]
  have h3 : i < (csE (gE T k)).length := (List.getElem?_eq_some_iff.1 hv).1
  rw [List.append_assoc, List.getElem?_append_right (by omega), List.append_assoc, List.getElem?_append_left (by omega)]
  have : 0 + k * 3 + i - (fE (T.take k)).length = i := by omega
  rw [this]; exact hv
theorem set_split (h : k < T.length) : T.set k e = T.take k ++ (e :: T.drop (k + 1)) := by
  rw [List.set_eq_take_append_cons_drop, if_pos h]
theorem stE_set (hk : k < T.length) (i : Nat) (hi : i = if w then 2 else 1) : setRange (fE T ++ ex) (0 + k * 3 + i) [.slice a l.length c] = fE (T.set k (stE (gE T k) w l a c)) ++ ex := by
  have h1 : (fE (T.take k)).length = k * 3 := by rw [fE_len, List.length_take, Nat.min_eq_left (Nat.le_of_lt hk)]
  have e2 : fE (T.set k (stE (gE T k) w l a c)) = fE (T.take k) ++ (csE (stE (gE T k) w l a c) ++ fE (T.drop (k + 1))) := by
    rw [set_split hk, fE_app]; rfl
  rw [e2, fE_split hk]
  cases w
  · have h2 : i = 1 := hi
    subst h2
    have h3 : 0 + k * 3 + 1 = (fE (T.take k) ++ [Value.int .i64 (gE T k).sl]).length := by rw [List.length_append, h1]; show _ = k * 3 + 1; omega
    rw [h3]
    have := setRange_at [.slice a l.length c] (fE (T.take k) ++ [Value.int .i64 (gE T k).sl]) [.slice (gE T k).ra (gE T k).rn.length (gE T k).rc] ([.slice (gE T k).wa (gE T k).wt.length (gE T k).wc] ++ (fE (T.drop (k + 1)) ++ ex)) rfl
    simp only [csE, stE, List.cons_append, List.nil_append, List.append_assoc] at this ⊢
    exact this
  · have h2 : i = 2 := hi
    subst h2
    have h3 : 0 + k * 3 + 2 = (fE (T.take k) ++ [Value.int .i64 (gE T k).sl, .slice (gE T k).ra (gE T k).rn.length (gE T k).rc]).length := by rw [List.length_append, h1]; show _ = k * 3 + 2; omega
    rw [h3]
    have := setRange_at [.slice a l.length c] (fE (T.take k) ++ [Value.int .i64 (gE T k).sl, .slice (gE T k).ra (gE T k).rn.length (gE T k).rc]) [.slice (gE T k).wa (gE T k).wt.length (gE T k).wc] (fE (T.drop (k + 1)) ++ ex) rfl
    simp only [csE, stE, List.cons_append, List.nil_append, List.append_assoc] at this ⊢
    exact this
theorem LS.keep (h : LS H G T) (kf : KeepF F H H1) (hF : ∀ j, F j → ∀ k w, k < T.length → ¬ bk (adE (gE T k) w) j) : LS H1 G T :=
  ⟨fun k hk w => (h.io k hk w).keep kf (fun j hj hf => hF j hf k w hk hj), h.own, h.sep⟩
theorem LS.ext (h : LS H G T) (x : Ext H H1) : LS H1 G T := h.keep (F := fun _ => False) ⟨x.size, fun i hi _ => x.same i hi⟩ (fun _ hf => hf.elim)
theorem LS.mono {G' : Nat → Prop} (h : LS H G T) (hg : ∀ j, G j → G' j) : LS H G' T := ⟨h.io, fun k hk w j hj => hg j (h.own k hk w j hj), h.sep⟩
theorem LS.set (h : LS H G T) (hk : k < T.length) (kf : KeepF F H H1) (hF : ∀ j, F j → (∀ k w, k < T.length → ¬ bk (adE (gE T k) w) j) ∨ bk (adE (gE T k) w) j)
    (io : IO H1 a c l) (hb : ∀ j, bk a j → bk (adE (gE T k) w) j ∨ H.size ≤ j) : LS H1 (Gn G H H1) (T.set k (stE (gE T k) w l a c)) := by
  have key : ∀ k' w', k' < T.length → ¬ (k' = k ∧ w' = w) → adE (gE (T.set k (stE (gE T k) w l a c)) k') w' = adE (gE T k') w' ∧ caE (gE (T.set k (stE (gE T k) w l a c)) k') w' = caE (gE T k') w' ∧ lsE (gE (T.set k (stE (gE T k) w l a c)) k') w' = lsE (gE T k') w' := fun k' w' hk' hn => by
    rw [gE_set hk]
    by_cases e : k' = k
    · subst e
      have hw : ¬ w' = w := fun e => hn ⟨rfl, e⟩
      rw [if_pos rfl, adE_st, caE_st, lsE_st, if_neg hw, if_neg hw, if_neg hw]; exact ⟨rfl, rfl, rfl⟩
    · rw [if_neg e]; exact ⟨rfl, rfl, rfl⟩
  have self : adE (gE (T.set k (stE (gE T k) w l a c)) k) w = a ∧ caE (gE (T.set k (stE (gE T k) w l a c)) k) w = c ∧ lsE (gE (T.set k (stE (gE T k) w l a c)) k) w = l := by
    rw [gE_set hk, if_pos rfl, adE_st, caE_st, lsE_st, if_pos rfl, if_pos rfl, if_pos rfl]; exact ⟨rfl, rfl, rfl⟩
  have old : ∀ k' w' j, k' < T.length → ¬ (k' = k ∧ w' = w) → bk (adE (gE T k') w') j → ¬ bk a j := fun k' w' j hk' hn h1 h2 => by
    rcases hb j h2 with h3 | h3
    · exact hn (h.sep k' k w' w j hk' hk h1 h3)
    · have := (h.io k' hk' w').lt h1; omega
  refine ⟨fun k' hk' w' => ?_, fun k' hk' w' j hj => ?_, fun k1 k2 w1 w2 j h1 h2 b1 b2 => ?_⟩
  · rw [List.length_set] at hk'
    by_cases hn : k' = k ∧ w' = w
    · obtain ⟨rfl, rfl⟩ := hn
      rw [self.1, self.2.1, self.2.2]; exact io
    · obtain ⟨g1, g2, g3⟩ := key k' w' hk' hn
      rw [g1, g2, g3]
      exact (h.io k' hk' w').keep kf (fun j hj hf => by
        rcases hF j hf with h4 | h4
        · exact h4 k' w' hk' hj
        · exact hn (h.sep k' k w' w j hk' hk hj h4))
  · rw [List.length_set] at hk'
    by_cases hn : k' = k ∧ w' = w
    · obtain ⟨rfl, rfl⟩ := hn
      rw [self.1] at hj
      rcases hb j hj with h4 | h4
      · exact .inl (h.own _ hk _ j h4)
      · exact .inr ⟨h4, io.lt hj⟩
    · rw [(key k' w' hk' hn).1] at hj
      exact .inl (h.own k' hk' w' j hj)
  · rw [List.length_set] at h1 h2
    by_cases n1 : k1 = k ∧ w1 = w
    · obtain ⟨rfl, rfl⟩ := n1
      by_cases n2 : k2 = k1 ∧ w2 = w1
      · exact ⟨n2.1.symm, n2.2.symm⟩
      · rw [self.1] at b1
        rw [(key k2 w2 h2 n2).1] at b2
        exact absurd b1 (old k2 w2 j h2 n2 b2)
    · rw [(key k1 w1 h1 n1).1] at b1
      by_cases n2 : k2 = k ∧ w2 = w
      · obtain ⟨rfl, rfl⟩ := n2
        rw [self.1] at b2
        exact absurd b2 (old k1 w1 j h1 n1 b1)
      · rw [(key k2 w2 h2 n2).1] at b2
        exact h.sep k1 k2 w1 w2 j h1 h2 b1 b2
theorem LS.off (h : LS H G T) (hb : Blk H gb cs0 t0) (ht : Nat.beq 3 t0 = false) : ∀ k w, k < T.length → ¬ bk (adE (gE T k) w) gb := fun k w hk hj => (h.io k hk w).ty hj hb ht rfl
theorem LS.mapoff {f : Int → Option Int} (h : LS H G T) (hm : MapI H gb f) : ∀ k w, k < T.length → ¬ bk (adE (gE T k) w) gb := fun k w hk hj => by
  obtain ⟨o, hj, rfl⟩ := hj
  rcases (h.io k hk w).blk with ⟨h1, _⟩ | ⟨g, ex, h1, h2, _⟩
  · rw [h1] at hj; cases hj
  · rw [h1] at hj; cases hj; exact (hm.blk h2).ne rfl
theorem sd_set (hk : k < T.length) : (T.set k e).map sdE = (T.map sdE).set k (sdE e) := List.map_set
theorem gS_map (hk : k < T.length) : gS (T.map sdE) k = sdE (gE T k) := by simp [gS, gE, hk]
end
section
variable {H H1 : Heap} {G F : Nat → Prop} {a : Option Addr} {c b gb : Nat} {l : List Int}
theorem IO.ext (h : IO H a c l) (x : Ext H H1) : IO H1 a c l := h.keep (F := fun _ => False) ⟨x.size, fun i hi _ => x.same i hi⟩ (fun _ _ hf => hf.elim)
theorem IO.but (h : IO H a c l) (u : But b H H1) (hb : ¬ bk a b) : IO H1 a c l := h.keep (F := fun j => j = b) ⟨u.size, fun i hi hn => u.same i hi hn⟩ (fun j hj hf => hb (hf ▸ hj))
theorem IO.noty (h : IO H a c l) {cs : List Value} {t : TypeId} (hb : Blk H b cs t) (ht : Nat.beq 3 t = false) : ¬ bk a b := fun hj => h.ty hj hb ht rfl
theorem IO.new (h : IO H a c l) {cs : List Value} {t : TypeId} (hn : New H H1 b cs t) : ¬ bk a b := fun hj => by have := h.lt hj; have := hn.ge; omega
theorem tdiv2 (n : Nat) : IntKind.i64.wrap ((n : Int).tdiv 2) = ((n / 2 : Nat) : Int) ∨ ¬ (n : Int) < 9223372036854775808 := by
  by_cases h : (n : Int) < 9223372036854775808
  · refine .inl ?_
    have e : (n : Int).tdiv 2 = ((n / 2 : Nat) : Int) := by rw [Int.tdiv_eq_ediv_of_nonneg (by omega)]; omega
    rw [e]; exact fit_i64 (by omega)
  · exact .inr h
theorem rem2 {n : Nat} : (n : Int).tmod 2 = ((n % 2 : Nat) : Int) := by rw [Int.tmod_eq_emod_of_nonneg (by omega)]; omega
theorem quo2 {n : Nat} (h : (n : Int) < 9223372036854775808) : IntKind.i64.wrap ((n : Int).tdiv 2) = ((n / 2 : Nat) : Int) := (tdiv2 n).resolve_right (fun h1 => h1 h)
end
/-- Is there such a side? -/
def inP (n : Nat) (b o : Int) : Prop := 1 ≤ b ∧ b ≤ ((n / 2 : Nat) : Int) ∧ 0 ≤ o ∧ o < 2
instance (n : Nat) (b o : Int) : Decidable (inP n b o) := by unfold inP; infer_instance
def kP (b o : Int) : Nat := (2 * (b - 1) + o).toNat
theorem tupi3 {x y z : Int} (h : x = y) : Value.tuple #[.int .i64 x, .int .i64 z] = .tuple #[.int .i64 y, .int .i64 z] := by rw [h]
theorem KeepF.mono {F F' : Nat → Prop} {H H1 : Heap} (h : KeepF F H H1) (hf : ∀ j, F j → F' j) : KeepF F' H H1 := ⟨h.size, fun i hi hn => h.same i hi (fun h2 => hn (hf i h2))⟩
theorem inP_k {n : Nat} {b o : Int} (h : inP n b o) : kP b o < n ∧ ((kP b o : Nat) : Int) = 2 * (b - 1) + o := by
  unfold inP at h; unfold kP; omega
/-- Bays in memory. -/
def BAt (H : Heap) (bp : Nat) (G : Nat → Prop) (T : List Se) (f : Int → Option Int) : Prop :=
  ∃ a c m, Blk H bp [.slice a T.length c, .map (some m)] 52 ∧ Own H 0 69 3 (.slice a T.length c) T.length (fE T) ∧ MapI H m f ∧ LS H G T ∧ G bp ∧ G m ∧ ∀ j, bk a j → G j
def BB (H : Heap) (bp : Nat) (G : Nat → Prop) (S : List Sd) (f : Int → Option Int) : Prop := ∃ T, T.map sdE = S ∧ BAt H bp G T f
section
variable {H H1 : Heap} {G F : Nat → Prop} {T : List Se} {bp : Nat} {f : Int → Option Int} {S : List Sd}
theorem BAt.ext (h : BAt H bp G T f) (x : Ext H H1) : BAt H1 bp G T f := by
  obtain ⟨a, c, m, h1, h2, h3, h4, h5⟩ := h
  exact ⟨a, c, m, h1.ext x, h2.ext x, h3.ext x, h4.ext x, h5⟩
theorem BB.ext (h : BB H bp G S f) (x : Ext H H1) : BB H1 bp G S f := by obtain ⟨T, h1, h2⟩ := h; exact ⟨T, h1, h2.ext x⟩
end
/-! Calls, in plain Lean. -/
structure GT (T : List Se) : Prop where
  len : T.length ≤ 16
  at_ : ∀ k, k < T.length → Asc (gE T k).rn ∧ (gE T k).rn.length ≤ 8 ∧ (gE T k).wt.length ≤ 8
  sl : ∀ k, k < T.length → 0 ≤ (gE T k).sl ∧ (gE T k).sl ≤ 8
abbrev Fn := Int → Option Int
def askE (S : List Sd) (f : Fn) (b o j : Int) : Int :=
  if ¬ inP S.length b o then 3 else if ¬ isJ j then 1 else if (f j).isSome = true then 9 else if ((gS S (kP b o)).rn.length : Int) < (gS S (kP b o)).sl then 0 else if (gS S (kP b o)).sl = 0 ∨ 8 ≤ (gS S (kP b o)).wt.length then 10 else 0
def askR (S : List Sd) (f : Fn) (b o j : Int) : Bool := decide (askE S f b o j = 0 ∧ ((gS S (kP b o)).rn.length : Int) < (gS S (kP b o)).sl)
def askS (S : List Sd) (f : Fn) (b o j : Int) : List Sd :=
  if askE S f b o j = 0 then S.set (kP b o) (if ((gS S (kP b o)).rn.length : Int) < (gS S (kP b o)).sl then ⟨(gS S (kP b o)).sl, insI (gS S (kP b o)).rn j, (gS S (kP b o)).wt⟩ else ⟨(gS S (kP b o)).sl, (gS S (kP b o)).rn, (gS S (kP b o)).wt ++ [j]⟩) else S
def askF (S : List Sd) (f : Fn) (b o j : Int) : Fn := if askE S f b o j = 0 then fun i => if i = j then some ((kP b o : Nat) : Int) else f i else f
section
variable {S : List Sd} {f : Fn} {b o j : Int} {T : List Se} {G : Nat → Prop} {H H1 : Heap} {bp k : Nat}
theorem ask_no {x : Int} (h : askE S f b o j = x) (hx : x ≠ 0) : Value.tuple #[.bool false, .int .i64 x] = .tuple #[.bool (askR S f b o j), .int .i64 (askE S f b o j)] ∧ askS S f b o j = S ∧ askF S f b o j = f := by
  have h0 : ¬ askE S f b o j = 0 := by rw [h]; exact hx
  refine ⟨?_, if_neg h0, if_neg h0⟩
  unfold askR
  rw [decide_eq_false (fun h => h0 h.1), h]
theorem askE3 (h : ¬ inP S.length b o) : askE S f b o j = 3 := if_pos h
theorem askE1 (h : inP S.length b o) (h1 : ¬ isJ j) : askE S f b o j = 1 := (if_neg (fun h2 => h2 h)).trans (if_pos h1)
theorem askE9 (h : inP S.length b o) (h1 : isJ j) (h2 : (f j).isSome = true) : askE S f b o j = 9 := (if_neg (fun h2 => h2 h)).trans ((if_neg (fun h3 => h3 h1)).trans (if_pos h2))
theorem askE10 (h : inP S.length b o) (h1 : isJ j) (h2 : ¬ (f j).isSome = true) (h3 : ¬ ((gS S (kP b o)).rn.length : Int) < (gS S (kP b o)).sl) (h4 : (gS S (kP b o)).sl = 0 ∨ 8 ≤ (gS S (kP b o)).wt.length) : askE S f b o j = 10 := (if_neg (fun h2 => h2 h)).trans ((if_neg (fun h3 => h3 h1)).trans ((if_neg h2).trans ((if_neg h3).trans (if_pos h4))))
theorem ask_run (h : inP S.length b o) (h1 : isJ j) (h2 : ¬ (f j).isSome = true) (h3 : ((gS S (kP b o)).rn.length : Int) < (gS S (kP b o)).sl) :
    Value.tuple #[.bool true, .int .i64 0] = .tuple #[.bool (askR S f b o j), .int .i64 (askE S f b o j)] ∧ askS S f b o j = S.set (kP b o) ⟨(gS S (kP b o)).sl, insI (gS S (kP b o)).rn j, (gS S (kP b o)).wt⟩ ∧ askF S f b o j = fun i => if i = j then some ((kP b o : Nat) : Int) else f i := by
  have h0 : askE S f b o j = 0 := (if_neg (fun h2 => h2 h)).trans ((if_neg (fun h3 => h3 h1)).trans ((if_neg h2).trans (if_pos h3)))
  refine ⟨?_, ?_, if_pos h0⟩
  · unfold askR; rw [decide_eq_true ⟨h0, h3⟩, h0]
  · unfold askS; rw [if_pos h0, if_pos h3]
theorem ask_wait (h : inP S.length b o) (h1 : isJ j) (h2 : ¬ (f j).isSome = true) (h3 : ¬ ((gS S (kP b o)).rn.length : Int) < (gS S (kP b o)).sl) (h4 : ¬ ((gS S (kP b o)).sl = 0 ∨ 8 ≤ (gS S (kP b o)).wt.length)) :
    Value.tuple #[.bool false, .int .i64 0] = .tuple #[.bool (askR S f b o j), .int .i64 (askE S f b o j)] ∧ askS S f b o j = S.set (kP b o) ⟨(gS S (kP b o)).sl, (gS S (kP b o)).rn, (gS S (kP b o)).wt ++ [j]⟩ ∧ askF S f b o j = fun i => if i = j then some ((kP b o : Nat) : Int) else f i := by
  have h0 : askE S f b o j = 0 := (if_neg (fun h2 => h2 h)).trans ((if_neg (fun h3 => h3 h1)).trans ((if_neg h2).trans ((if_neg h3).trans (if_neg h4))))
  refine ⟨?_, ?_, if_pos h0⟩
  · unfold askR; rw [decide_eq_false (fun h => h3 h.2), h0]
  · unfold askS; rw [if_pos h0, if_neg h3]
theorem BAt.mono {G' : Nat → Prop} (h : BAt H bp G T f) (hg : ∀ j, G j → G' j) : BAt H bp G' T f := by
  obtain ⟨a, c, m, h1, h2, h3, h4, h5, h6, h7⟩ := h
  exact ⟨a, c, m, h1, h2, h3, h4.mono hg, hg _ h5, hg _ h6, fun j hj => hg j (h7 j hj)⟩
theorem bb_stay (h : BAt H bp G T f) : BB H bp (Gn G H H) (T.map sdE) f := ⟨T, rfl, h.mono (fun _ h => .inl h)⟩
theorem Gn.mono {H2 : Heap} {i : Nat} (h : Gn G H H1 i) (hs : H1.size ≤ H2.size) : Gn G H H2 i := h.imp id (fun h => ⟨h.1, by omega⟩)
theorem bb_set {H2 : Heap} {a : Option Addr} {c m gb : Nat} {e1 : Se} {d : Sd} {ex : List Value} (hk : k < T.length) (hd : sdE e1 = d) (hae : a = some ⟨gb, 0, none⟩) (hnc : T.length ≤ c) (hcm : c ≤ maxLen) (hex : (fE T ++ ex).length = c * 3) (mg : Blk H2 gb (fE (T.set k e1) ++ ex) 69)
    (mp : Blk H2 bp [.slice a T.length c, .map (some m)] 52) (hm : MapI H2 m f) (hL : LS H2 (Gn G H H1) (T.set k e1)) (hGp : G bp) (hGm : G m) (hGa : ∀ j, bk a j → G j) (hs : H1.size ≤ H2.size) : BB H2 bp (Gn G H H2) ((T.map sdE).set k d) f := by
  have hl : (T.set k e1).length = T.length := List.length_set
  refine ⟨T.set k e1, by rw [sd_set hk, hd], a, c, m, by rw [hl]; exact mp, ?_, hm, hL.mono (fun i h => Gn.mono h hs), .inl hGp, .inl hGm, fun j hj => .inl (hGa j hj)⟩
  subst hae
  rw [hl]
  refine own_mk mg (Nat.zero_le _) (by rw [fE_len, hl]) ?_ hnc hcm
  rw [List.length_append, fE_len, hl]
  rw [List.length_append, fE_len] at hex
  exact hex
theorem gr_keep {a : Option Addr} {n c : Nat} (g : Gr (Value.slice a n c).ownBlock H H1) : KeepF (bk a) H H1 := ⟨g.size, fun i hi hn => g.same i hi (fun e => hn (own_bk e.symm))⟩
end
/-! Leave, in plain Lean. -/
def levD (s : Sd) (j : Int) : Sd := if j ∈ s.rn ∧ ¬ dlI s.wt j = [] then ⟨s.sl, insI (dlI s.rn j) ((dlI s.wt j).getD 0 0), (dlI s.wt j).drop 1⟩ else ⟨s.sl, dlI s.rn j, dlI s.wt j⟩
def levM (s : Sd) (j : Int) : Int := if j ∈ s.rn ∧ ¬ dlI s.wt j = [] then (dlI s.wt j).getD 0 0 else 0
section
variable {S : List Sd} {f : Fn} {b o j : Int} {T T1 : List Se} {G : Nat → Prop} {H H1 H2 : Heap} {bp k gb c : Nat} {w : Bool} {l : List Int} {a : Option Addr} {F : Nat → Prop}
theorem Gn.chain {i : Nat} (h : Gn (Gn G H H1) H1 H2 i) (h1 : H.size ≤ H1.size) (h2 : H1.size ≤ H2.size) : Gn G H H2 i := by
  rcases h with (h | h) | h
  · exact .inl h
  · exact .inr ⟨h.1, by omega⟩
  · exact .inr ⟨by omega, h.2⟩
theorem LS.step (hL : LS H1 (Gn G H H1) T1) (hk : k < T1.length) (kf : KeepF (fun j => j = gb ∨ bk (adE (gE T1 k) w) j) H1 H2) (hgb : ∀ k w, k < T1.length → ¬ bk (adE (gE T1 k) w) gb) (io : IO H2 a c l)
    (hb : ∀ j, bk a j → bk (adE (gE T1 k) w) j ∨ H1.size ≤ j) (hs : H.size ≤ H1.size) : LS H2 (Gn G H H2) (T1.set k (stE (gE T1 k) w l a c)) :=
  (hL.set hk kf (fun j hj => hj.elim (fun h => .inl (by rw [h]; exact hgb)) .inr) io hb).mono (fun i h => Gn.chain h hs kf.size)
theorem LS.go (hL : LS H1 (Gn G H H1) T1) (kf : KeepF F H1 H2) (hF : ∀ j, F j → ∀ k w, k < T1.length → ¬ bk (adE (gE T1 k) w) j) : LS H2 (Gn G H H2) T1 := (hL.keep kf hF).mono (fun i h => Gn.mono h kf.size)
theorem lev_no (h : ¬ j ∈ (gE T k).rn ∨ dlI (gE T k).wt j = []) : levM (sdE (gE T k)) j = 0 ∧ levD (sdE (gE T k)) j = ⟨(gE T k).sl, dlI (gE T k).rn j, dlI (gE T k).wt j⟩ := by
  have h2 : ¬ (j ∈ (sdE (gE T k)).rn ∧ ¬ dlI (sdE (gE T k)).wt j = []) := fun h3 => h.elim (fun h4 => h4 h3.1) (fun h4 => h3.2 h4)
  exact ⟨if_neg h2, if_neg h2⟩
theorem lev_yes (h : j ∈ (gE T k).rn) (h1 : ¬ dlI (gE T k).wt j = []) : levM (sdE (gE T k)) j = (dlI (gE T k).wt j).getD 0 0 ∧ levD (sdE (gE T k)) j = ⟨(gE T k).sl, insI (dlI (gE T k).rn j) ((dlI (gE T k).wt j).getD 0 0), (dlI (gE T k).wt j).drop 1⟩ := ⟨if_pos ⟨h, h1⟩, if_pos ⟨h, h1⟩⟩
theorem set2 {e1 e2 : Se} (h : T1 = T.set k e1) : T1.set k e2 = T.set k e2 := by rw [h]; exact List.set_set ..
theorem sd_lev {T2 : List Se} {l1 : List Int} {a1 a2 : Option Addr} {c1 c2 : Nat} (h1 : gE T1 k = stE (gE T k) false l1 a1 c1) (_ : gE T2 k = stE (gE T1 k) true (dlI (gE T1 k).wt j) a2 c2) : sdE (stE (gE T1 k) true (dlI (gE T1 k).wt j) a2 c2) = ⟨(gE T k).sl, l1, dlI (gE T k).wt j⟩ := by
  rw [h1]; rfl
theorem ints_cut (h : IO H a c l) (h0 : 0 < l.length) : Ints H (cutA a 1 c 1) (l.drop 1) := by
  rcases h.blk with ⟨_, h2, _⟩ | ⟨g', ex, h2, h3, h4, _⟩
  · rw [h2] at h0; exact absurd h0 (by decide)
  · subst h2
    rcases Nat.lt_or_ge 1 l.length with h1 | h1
    · exact .inr ⟨_, _, cut_at (by omega), row_dropI h3 (by omega)⟩
    · exact .inl (List.drop_of_length_le h1)
end
/-! Lines in memory. -/
section
variable {H H1 : Heap} {a : Option Addr} {c b n base size k : Nat} {l : List Int} {cs xs : List Value} {t e2 : TypeId} {v : Value} {u : Bool}
theorem IO.offT (h : IO H a c l) (hb : Blk H b cs t) (k : But b H H1) (hne : Nat.beq t 3 = false) : IO H1 a c l := h.but k (h.noty hb (by
  cases h1 : Nat.beq 3 t
  · rfl
  · have : (3 : Nat) = t := Nat.eq_of_beq_eq_true h1
    subst this; rw [show Nat.beq 3 3 = true from rfl] at hne; cases hne))
theorem IO.growT (h : IO H a c l) (o : Own H base e2 size v n xs) (g : Gr v.ownBlock H H1) (hne : Nat.beq 3 e2 = false) : IO H1 a c l := h.keep (F := fun j => v.ownBlock = some j) ⟨g.size, fun i hi hn => g.same i hi (fun e => hn e.symm)⟩ (fun j hj hf => by
  obtain ⟨cur, h3⟩ := o.blockType hf
  obtain ⟨x, hx, rfl⟩ := hj
  rcases h.blk with ⟨h1, _⟩ | ⟨g', ex, h1, h2, _⟩
  · rw [h1] at hx; cases hx
  · rw [h1] at hx; cases hx
    unfold Blk at h2
    rw [h2] at h3
    injection h3 with h3
    injection h3 with _ h4
    subst h4
    cases hne)
end
abbrev Ln := List Int × List Int
def lnP (e : Se) : Ln := (e.rn, e.wt)
def csL (e : Se) : List Value := [.slice e.ra e.rn.length e.rc, .slice e.wa e.wt.length e.wc]
def fL (E : List Se) : List Value := E.flatMap csL
def LnE (H : Heap) (E : List Se) (L : List Ln) : Prop := E.map lnP = L ∧ ∀ e ∈ E, IO H e.ra e.rc e.rn ∧ IO H e.wa e.wc e.wt
section
variable {H H1 : Heap} {a ra wa : Option Addr} {c b n base size k i rc wc o : Nat} {r w : List Int} {cs xs : List Value} {t e2 : TypeId} {v : Value} {E : List Se} {L : List Ln} {T : List Se} {ex : List Value}
theorem LnE.nil : LnE H [] [] := ⟨rfl, fun e h => by cases h⟩
theorem LnE.ext (h : LnE H E L) (x : Ext H H1) : LnE H1 E L := ⟨h.1, fun e he => ⟨(h.2 e he).1.ext x, (h.2 e he).2.ext x⟩⟩
theorem LnE.offT (h : LnE H E L) (hb : Blk H b cs t) (k : But b H H1) (hne : Nat.beq t 3 = false) : LnE H1 E L := ⟨h.1, fun e he => ⟨(h.2 e he).1.offT hb k hne, (h.2 e he).2.offT hb k hne⟩⟩
theorem LnE.growT (h : LnE H E L) (o : Own H base e2 size v n xs) (g : Gr v.ownBlock H H1) (hne : Nat.beq 3 e2 = false) : LnE H1 E L := ⟨h.1, fun e he => ⟨(h.2 e he).1.growT o g hne, (h.2 e he).2.growT o g hne⟩⟩
theorem LnE.snoc (h : LnE H E L) (h1 : IO H ra rc r) (h2 : IO H wa wc w) : LnE H (E ++ [⟨0, r, ra, rc, w, wa, wc⟩]) (L ++ [(r, w)]) :=
  ⟨by rw [List.map_append, h.1]; rfl, fun e he => by
    rcases List.mem_append.1 he with he | he
    · exact h.2 e he
    · rw [List.mem_singleton] at he; subst he; exact ⟨h1, h2⟩⟩
theorem LnE.len (h : LnE H E L) : E.length = L.length := by rw [← h.1, List.length_map]
theorem fL_len : (fL E).length = E.length * 2 := by
  induction E with
  | nil => rfl
  | cons e E ih => unfold fL at ih ⊢; rw [List.flatMap_cons, List.length_append, ih, List.length_cons]; show 2 + _ = _; omega
theorem fL_snoc {e : Se} : fL (E ++ [e]) = fL E ++ csL e := by unfold fL; rw [List.flatMap_append]; simp
/-- Lines behind a slice. -/
def LD (H : Heap) (a : Option Addr) (L : List Ln) : Prop := ∃ E, E.map lnP = L ∧ (∀ e ∈ E, Ints H e.ra e.rn ∧ Ints H e.wa e.wt) ∧ (E = [] ∨ ∃ b o, a = some ⟨b, o, none⟩ ∧ Row H b o (fL E))
theorem own_LD (ho : Own H base 40 2 (.slice a n c) n (fL E)) (hE : LnE H E L) : LD H a L := by
  refine ⟨E, hE.1, fun e he => ⟨(hE.2 e he).1.ints, (hE.2 e he).2.ints⟩, ?_⟩
  rcases own_blk2 ho with ⟨h1, h2, _⟩ | ⟨g, ex, h1, h2, _⟩
  · have := ho.len
    rw [h2, fL_len] at this
    exact .inl (List.length_eq_zero_iff.1 (by omega))
  · exact .inr ⟨g, 0, h1, h2.row.pre⟩
theorem LD.ext (h : LD H a L) (x : Ext H H1) : LD H1 a L := by
  obtain ⟨E, h1, h2, h3⟩ := h
  exact ⟨E, h1, fun e he => ⟨(h2 e he).1.ext x, (h2 e he).2.ext x⟩, h3.imp id (fun ⟨b, o, g1, g2⟩ => ⟨b, o, g1, fun i v hv => cellAt_ext (g2 i v hv) x⟩)⟩
theorem ldS (hb : Blk H b (fE T ++ ex) 69) (hk : k < T.length) : Ld H b (0 + k * 3) true 3 (.agg #[.int .i64 (gE T k).sl, .slice (gE T k).ra (gE T k).rn.length (gE T k).rc, .slice (gE T k).wa (gE T k).wt.length (gE T k).wc]) :=
  ⟨csE (gE T k), rfl, rfl, fun i v hv => ldE hb hk i hv⟩
theorem take_ln {S : List Ln} (h : k < S.length) : S.take (k + 1) = S.take k ++ [S.getD k ([], [])] := by
  rw [List.take_succ_eq_append_getElem h]; simp [h]
theorem ln_get (h : k < T.length) : (T.map lnP).getD k ([], []) = ((gE T k).rn, (gE T k).wt) := by simp [gE, h, lnP]
end
/-! New bays. -/
def mkE (n : Int) : Se := ⟨n, [], none, 0, [], none, 0⟩
abbrev x1B (r : List Int) : Int := r.getD 1 0
abbrev x2B (r : List Int) : Int := r.getD 2 0
def sls (l : List (List Int)) : List Int := l.flatMap fun r => [x1B r, x2B r]
def okS (n : Int) : Prop := 0 ≤ n ∧ n ≤ 8
def okN (l : List (List Int)) : Prop := l.length ≤ 8 ∧ ∀ n ∈ sls l, okS n
def newS (l : List (List Int)) : List Sd := (sls l).map fun n => ⟨n, [], []⟩
section
variable {l : List (List Int)} {k i : Nat} {N : List Int} {H : Heap} {G : Nat → Prop} {n : Int}
theorem gr_in (h : k < l.length) : gr l k ∈ l := by
  have : gr l k = l[k] := by simp [gr, h]
  rw [this]; exact List.getElem_mem _
theorem sls_len : (sls l).length = 2 * l.length := by
  induction l with
  | nil => rfl
  | cons r l ih => unfold sls at ih ⊢; rw [List.flatMap_cons, List.length_append, ih]; simp only [List.length_cons, List.length_nil]; omega
theorem sls_take (h : k < l.length) : sls (l.take (k + 1)) = sls (l.take k) ++ [x1B (gr l k), x2B (gr l k)] := by
  have e : l.take (k + 1) = l.take k ++ [gr l k] := by rw [List.take_succ_eq_append_getElem h]; simp [gr, h]
  unfold sls; rw [e, List.flatMap_append]; simp
theorem sls_mem (h : k < l.length) (hi : i < 2) : [x1B (gr l k), x2B (gr l k)].getD i 0 ∈ sls l := by
  have h1 : ∀ x ∈ [x1B (gr l k), x2B (gr l k)], x ∈ sls l := fun x hx => List.mem_flatMap.2 ⟨gr l k, gr_in h, hx⟩
  have h2 : i = 0 ∨ i = 1 := by omega
  rcases h2 with rfl | rfl
  · exact h1 _ (by simp)
  · exact h1 _ (by simp)
theorem two_get {x y : Int} (hi : i < 2) : (ints [x, y])[i]? = some (.int .i64 ([x, y].getD i 0)) := by
  have h2 : i = 0 ∨ i = 1 := by omega
  rcases h2 with rfl | rfl <;> rfl
theorem two_next {x y : Int} (hi : i < 2) : [x, y].take (i + 1) = [x, y].take i ++ [[x, y].getD i 0] := by
  have h2 : i = 0 ∨ i = 1 := by omega
  rcases h2 with rfl | rfl <;> rfl
theorem fE_mk : fE ((N ++ [n]).map mkE) = fE (N.map mkE) ++ [.int .i64 n, .slice none 0 0, .slice none 0 0] := by
  rw [List.map_append, fE_app]; rfl
theorem okN_no {l : List (List Int)} {n : Int} (h : n ∈ sls l) (hn : ¬ okS n) : ¬ okN l := fun h2 => hn (h2.2 n h)
theorem ok_all {p : Int → Prop} {M : List Int} {n : Int} (h : ∀ x ∈ M, p x) (hn : p n) : ∀ x ∈ M ++ [n], p x := fun x hx => by
  rcases List.mem_append.1 hx with hx | hx
  · exact h x hx
  · rw [List.mem_singleton] at hx; subst hx; exact hn
theorem gE_mk (h : k < (N.map mkE).length) : ∃ n, gE (N.map mkE) k = mkE n := by
  rw [gE_eq h, List.getElem_map]; exact ⟨_, rfl⟩
theorem new_LS : LS H G (N.map mkE) :=
  ⟨fun k hk w => by obtain ⟨n, e⟩ := gE_mk hk; rw [e]; cases w <;> exact Own.nil _ _ _ _,
   fun k hk w j hj => by obtain ⟨n, e⟩ := gE_mk hk; rw [e] at hj; cases w <;> exact bk_none hj,
   fun k k' w w' j hk hk' hj _ => by obtain ⟨n, e⟩ := gE_mk hk; rw [e] at hj; cases w <;> exact bk_none hj⟩
theorem new_BB {H0 : Heap} {bp m c : Nat} {a : Option Addr} (mp : Blk H bp [.slice a (2 * l.length) c, .map (some m)] 52) (ho : Own H H0.size 69 3 (.slice a (2 * l.length) c) (2 * l.length) (fE ((sls l).map mkE))) (hm : MapI H m (fun _ => none)) (hp : H0.size ≤ bp) (hmp : H0.size ≤ m) :
    BB H bp (fun j => H0.size ≤ j ∧ j < H.size) (newS l) (fun _ => none) := by
  have hl : ((sls l).map mkE).length = 2 * l.length := by rw [List.length_map, sls_len]
  refine ⟨(sls l).map mkE, by rw [List.map_map]; rfl, a, c, m, by rw [hl]; exact mp, ?_, hm, new_LS, ⟨hp, mp.lt⟩, ⟨hmp, hm.lt⟩, fun j hj => ?_⟩
  · rw [hl]
    rcases own_blk2 ho with ⟨h1, h2, h3⟩ | ⟨g, ex, h1, h2, h3, h4, h5, h6⟩
    · subst h1; subst h3
      rw [h2] at ho ⊢
      have h0 : sls l = [] := List.length_eq_zero_iff.1 (by rw [sls_len]; exact h2)
      rw [h0]; exact Own.nil _ _ _ _
    · subst h1; exact own_mk h2 (Nat.zero_le _) ho.len h6 h4 h5
  · rcases own_blk2 ho with ⟨h1, h2, h3⟩ | ⟨g, ex, h1, h2, h3, h4, h5, h6⟩
    · subst h1; exact bk_none hj
    · subst h1; rw [bk_some hj]; exact ⟨h3, h2.lt⟩
end
/-! Calls, of sides alone. -/
instance (l : List Int) : Decidable (Asc l) := by unfold Asc; infer_instance
def GSd (S : List Sd) : Prop := S.length ≤ 16 ∧ ∀ k, k < S.length → (Asc (gS S k).rn ∧ (gS S k).rn.length ≤ 8 ∧ (gS S k).wt.length ≤ 8) ∧ 0 ≤ (gS S k).sl ∧ (gS S k).sl ≤ 8
instance (S : List Sd) : Decidable (GSd S) := by unfold GSd; infer_instance
def FM (S : List Sd) (f : Fn) : Prop := ∀ j r, f j = some r → ∃ k : Nat, r = k ∧ k < S.length
def levK (f : Fn) (j : Int) : Nat := ((f j).getD 0).toNat
def levE (f : Fn) (j : Int) : Int := if (f j).isSome = true then 0 else 3
def levN (S : List Sd) (f : Fn) (j : Int) : Int := if (f j).isSome = true then levM (gS S (levK f j)) j else 0
def levS (S : List Sd) (f : Fn) (j : Int) : List Sd := if (f j).isSome = true then S.set (levK f j) (levD (gS S (levK f j)) j) else S
def levF (f : Fn) (j : Int) : Fn := if (f j).isSome = true then fun i => if i = j then none else f i else f
def whV (S : List Sd) (f : Fn) (j : Int) : Value := if (f j).isSome = true then .tuple #[.int .i64 (1 + ((levK f j / 2 : Nat) : Int)), .int .i64 ((levK f j % 2 : Nat) : Int), .int .i64 (idI (gS S (levK f j)).wt j), .int .i64 0] else .tuple #[.int .i64 0, .int .i64 0, .int .i64 0, .int .i64 3]
def freV (S : List Sd) (b o : Int) : Value := if inP S.length b o then .tuple #[.int .i64 ((gS S (kP b o)).sl - ((gS S (kP b o)).rn.length : Int)), .int .i64 0] else .tuple #[.int .i64 0, .int .i64 3]
def lnS (s : Sd) : Ln := (s.rn, s.wt)
section
variable {S : List Sd} {f : Fn} {b o j : Int} {T : List Se}
theorem gt_of (h : GSd (T.map sdE)) : GT T := by
  obtain ⟨h1, h2⟩ := h
  rw [List.length_map] at h1 h2
  exact ⟨h1, fun k hk => by have := (h2 k hk).1; rw [gS_map hk] at this; exact this, fun k hk => by have := (h2 k hk).2; rw [gS_map hk] at this; exact this⟩
theorem fm_new : FM S (fun _ => none) := fun j r h => by cases h
theorem len_ask : (askS S f b o j).length = S.length := by unfold askS; split; exact List.length_set; rfl
theorem len_lev : (levS S f j).length = S.length := by unfold levS; split; exact List.length_set; rfl
theorem ask_in (h : askE S f b o j = 0) : inP S.length b o := by
  by_cases h1 : inP S.length b o
  · exact h1
  · rw [askE3 h1] at h; cases h
theorem fm_ask (h : FM S f) : FM (askS S f b o j) (askF S f b o j) := by
  intro i r hr
  rw [len_ask]
  unfold askF at hr
  split at hr
  · rename_i h0
    dsimp only at hr
    split at hr
    · injection hr with hr
      exact ⟨kP b o, hr.symm, (inP_k (ask_in h0)).1⟩
    · exact h i r hr
  · exact h i r hr
theorem fm_lev (h : FM S f) : FM (levS S f j) (levF f j) := by
  intro i r hr
  rw [len_lev]
  unfold levF at hr
  split at hr
  · dsimp only at hr
    split at hr
    · cases hr
    · exact h i r hr
  · exact h i r hr
theorem ln_map : (T.map sdE).map lnS = T.map lnP := by rw [List.map_map]; rfl
end
/-! The same lines. -/
section
variable {E E1 E2 : List Se} {H : Heap} {a : Option Addr} {b o k j n c : Nat} {v : Value} {L L1 L2 : List Ln} {l m : List Int}
theorem lext {l m : List Int} (hl : l.length = m.length) (h : ∀ i, i < l.length → l.getD i 0 = m.getD i 0) : l = m := by
  apply List.ext_getElem hl
  intro i h1 h2
  have := h i h1
  simpa [h1, h2] using this
theorem gE_in (h : k < E.length) : gE E k ∈ E := by rw [gE_eq h]; exact List.getElem_mem _
theorem fL_split (h : k < E.length) : fL E = fL (E.take k) ++ (csL (gE E k) ++ fL (E.drop (k + 1))) := by
  rw [gE_eq h]
  conv => lhs; rw [← List.take_append_drop k E, List.drop_eq_getElem_cons h]
  unfold fL; rw [List.flatMap_append]; rfl
theorem ldL (hb : Row H b o (fL E)) (hk : k < E.length) (i : Nat) (hv : (csL (gE E k))[i]? = some v) : cellAt H b (o + k * 2 + i) = some v := by
  have h1 : (fL (E.take k)).length = k * 2 := by rw [fL_len, List.length_take, Nat.min_eq_left (Nat.le_of_lt hk)]
  have h3 : i < (csL (gE E k)).length := (List.getElem?_eq_some_iff.1 hv).1
  have := hb (k * 2 + i) v (by
    rw [fL_split hk, List.getElem?_append_right (by omega), List.getElem?_append_left (by omega)]
    have : k * 2 + i - (fL (E.take k)).length = i := by omega
    rw [this]; exact hv)
  rw [← Nat.add_assoc] at this; exact this
theorem lnAt (h : E = [] ∨ ∃ b o, a = some ⟨b, o, none⟩ ∧ Row H b o (fL E)) : ∃ b o, 0 < E.length → a = some ⟨b, o, none⟩ ∧ Row H b o (fL E) := by
  rcases h with h | ⟨b, o, h1, h2⟩
  · exact ⟨0, 0, fun h0 => by rw [h] at h0; exact absurd h0 (by decide)⟩
  · exact ⟨b, o, fun _ => ⟨h1, h2⟩⟩
theorem ln_ext (hl : E1.length = E2.length) (h : ∀ j, j < E1.length → lnP (gE E1 j) = lnP (gE E2 j)) : E1.map lnP = E2.map lnP := by
  apply List.ext_getElem (by rw [List.length_map, List.length_map, hl])
  intro i h1 h2
  rw [List.length_map] at h1 h2
  have := h i h1
  rw [gE_eq h1, gE_eq h2] at this
  simpa using this
theorem ln_at (h : E1.map lnP = E2.map lnP) (hj : j < E1.length) : (gE E1 j).rn = (gE E2 j).rn ∧ (gE E1 j).wt = (gE E2 j).wt := by
  have hl : E1.length = E2.length := by have := congrArg List.length h; rwa [List.length_map, List.length_map] at this
  have h1 := congrArg (fun l => l[j]?) h
  simp only [List.getElem?_map] at h1
  rw [gE_eq hj, gE_eq (by omega)]
  rw [List.getElem?_eq_getElem hj, List.getElem?_eq_getElem (by omega)] at h1
  simp only [Option.map_some, Option.some.injEq] at h1
  exact ⟨congrArg Prod.fst h1, congrArg Prod.snd h1⟩
end
end Go.XG
