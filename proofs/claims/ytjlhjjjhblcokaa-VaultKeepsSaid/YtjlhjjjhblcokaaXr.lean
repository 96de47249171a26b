/-
  XG, part r: a range over a function: the iterator's contract, the round, the statement.
-/
import Derived.Test.YtjlhjjjhblcokaaXk
namespace Go.XG
def isRec : Obj → Bool
  | .loop _ | .deferred _ => true
  | _ => false
/-- Of what was there only block l has turned, the record of a loop, or the block of its deferred calls. -/
structure Lpw (l : Nat) (H H' : Heap) : Prop where
  size : H'.size = H.size
  same : ∀ i, i ≠ l → H'[i]? = H[i]?
  old : ∃ o, H[l]? = some o ∧ isRec o = true
section
variable {H H0 H' : Heap} {b l k n : Nat} {cs : List Value} {t : TypeId}
theorem lpw_set {o o' : Obj} (h : H[l]? = some o) (hr : isRec o = true) : Lpw l H (H.setIfInBounds l o') :=
  ⟨by simp, fun i hi => by rw [Array.getElem?_setIfInBounds_ne (Ne.symm hi)], o, h, hr⟩
theorem Lpw.ne (u : Lpw l H H') {o : Obj} (h : H[b]? = some o) (hr : isRec o = false) : b ≠ l := by
  rintro rfl
  obtain ⟨o', h1, h2⟩ := u.old
  rw [h] at h1; cases h1; rw [hr] at h2; cases h2
theorem Blk.lp (h : Blk H b cs t) (u : Lpw l H H') : Blk H' b cs t := (u.same b (u.ne h rfl)).trans h
theorem cellAt_lp {i : Nat} {v : Value} (h : cellAt H b i = some v) (u : Lpw l H H') : cellAt H' b i = some v := by
  have hne : b ≠ l := by
    rintro rfl
    obtain ⟨o, h1, h2⟩ := u.old
    unfold cellAt at h
    rw [h1] at h
    cases o <;> simp_all [isRec]
  unfold cellAt at *
  rw [u.same b hne]; exact h
theorem Row.lp {off : Nat} {xs : List Value} (h : Row H b off xs) (u : Lpw l H H') : Row H' b off xs := fun j v hj => cellAt_lp (h j v hj) u
theorem RowsAt.lp {off : Nat} {r : List (List Int)} (h : RowsAt H b off k r) (u : Lpw l H H') : RowsAt H' b off k r := fun i hi => (h i hi).lp u
theorem Rows.lp {a : Option Addr} {r : List (List Int)} (h : Rows H a k r) (u : Lpw l H H') : Rows H' a k r := by
  refine ⟨h.1, ?_⟩
  rcases h.2 with h | ⟨b, off, h1, h2⟩
  · exact .inl h
  · exact .inr ⟨b, off, h1, h2.lp u⟩
theorem MapAt.lp {kv : List Int → Value} {es : Ents} (h : MapAt H b kv n es) (u : Lpw l H H') : MapAt H' b kv n es := ⟨h.wide, by
  obtain ⟨ms, c, h1, h2⟩ := h.h
  exact ⟨ms, c, (u.same b (u.ne h1 rfl)).trans h1, h2⟩⟩
theorem Own.lp {base e size : Nat} {v : Value} {xs : List Value} (h : Own H base e size v n xs) (u : Lpw l H H') : Own H' base e size v n xs := by
  refine ⟨h.1, ?_⟩
  rcases h.2 with h2 | ⟨g, cap, cur, h1, h2, h3, h4⟩
  · exact .inl h2
  · exact .inr ⟨g, cap, cur, h1, h2, (u.same g (u.ne h3 rfl)).trans h3, h4⟩
theorem Ext.lp (h : Ext H0 H) (u : Lpw l H H') (hb : H0.size ≤ l) : Ext H0 H' :=
  ⟨by rw [u.size]; exact h.size, fun i hi => (u.same i (by omega)).trans (h.same i hi)⟩
theorem But.lp (h : But b H0 H) (u : Lpw l H H') (hb : H0.size ≤ l) : But b H0 H' :=
  ⟨by rw [u.size]; exact h.size, fun i hi hne => (u.same i (by omega)).trans (h.same i hi hne)⟩
theorem KeepF.lp {F : Nat → Prop} (h : KeepF F H0 H) (u : Lpw l H H') (hb : H0.size ≤ l) : KeepF F H0 H' :=
  ⟨by rw [u.size]; exact h.size, fun i hi hf => (u.same i (by omega)).trans (h.same i hi hf)⟩
theorem KeepF.lpF {F : Nat → Prop} (h : KeepF F H0 H) (u : Lpw l H H') (hf : F l) : KeepF F H0 H' :=
  ⟨by rw [u.size]; exact h.size, fun i hi hn => (u.same i (fun e => hn (e ▸ hf))).trans (h.same i hi hn)⟩
end
/-- A record of a loop, or the block of its deferred calls. -/
structure Rec (H : Heap) (b : Nat) (o : Obj) : Prop where
  h : H[b]? = some o
  r : isRec o = true
section
variable {H H1 : Heap} {b b' n : Nat} {o : Obj} {cs : List Value} {t : TypeId}
theorem Rec.lt (h : Rec H b o) : b < H.size := lt_of_get h.h
theorem Rec.ext (h : Rec H b o) (e : Ext H H1) : Rec H1 b o := ⟨(e.same b h.lt).trans h.h, h.r⟩
theorem Rec.off (h : Rec H b o) (k : Blk H b' cs t) (u : But b' H H1) : Rec H1 b o := ⟨(u.same b h.lt (fun e => by
  subst e; unfold Blk at k; have := h.h; rw [k] at this; cases this; have := h.r; cases this)).trans h.h, h.r⟩
theorem Rec.offM {kv : List Int → Value} {es : Ents} {m : Nat} (h : Rec H b o) (k : MapAt H b' kv m es) (u : But b' H H1) : Rec H1 b o := ⟨(u.same b h.lt (fun e => by
  subst e; obtain ⟨ms, c, k, _⟩ := k.h; have := h.h; rw [k] at this; cases this; have := h.r; cases this)).trans h.h, h.r⟩
theorem Rec.grow {base e size : Nat} {v : Value} {xs : List Value} (h : Rec H b o) (k : Own H base e size v n xs) (g : Gr v.ownBlock H H1) : Rec H1 b o := ⟨(g.same b h.lt (fun hg => by
  obtain ⟨cur, h3⟩ := k.blockType hg.symm; have := h.h; rw [h3] at this; cases this; have := h.r; cases this)).trans h.h, h.r⟩
end
/-- The record of the loop, and the block of its deferred calls, lie as they lay. -/
def RecKept (B : Nat) (H H' : Heap) : Prop := H'[B]? = H[B]? ∧ H'[B + 1]? = H[B + 1]?
theorem RecKept.ext {B : Nat} {H H' : Heap} (h : Ext H H') (hB : B + 1 < H.size) : RecKept B H H' := ⟨h.same _ (by omega), h.same _ hB⟩
theorem RecKept.keep {B : Nat} {F : Nat → Prop} {H H' : Heap} (h : KeepF F H H') (hB : B + 1 < H.size) (h0 : ¬ F B) (h1 : ¬ F (B + 1)) : RecKept B H H' := ⟨h.same _ (by omega) h0, h.same _ hB h1⟩
theorem RecKept.of {B : Nat} {H H' : Heap} {oD oL : Obj} (h1 : Rec H B oD) (h2 : Rec H (B + 1) oL) (h3 : Rec H' B oD) (h4 : Rec H' (B + 1) oL) : RecKept B H H' := ⟨h3.h.trans h1.h.symm, h4.h.trans h2.h.symm⟩
/-- An iterator: n rounds, the i-th at the values f i; G0: what it wants when it begins, G: what must stay. -/
def It (P : Program) (O : Outer) (gf : FuncId) (lb : List Value) (n : Nat) (f : Nat → List Value) (G0 G : Heap → Prop) : Prop :=
  ∀ (l : Nat) (J : Nat → Heap → Prop) (Jx : Heap → Prop),
    (∀ i H H', J i H → Ext H H' → J i H') → (∀ H H', Jx H → Ext H H' → Jx H') →
    (∀ i H, J i H → G H) → (∀ H, J 0 H → G0 H) →
    (∀ i H, i < n → J i H → Yld P O l (f i) H (fun b H' => b = true ∧ J (i + 1) H' ∨ b = false ∧ Jx H')) →
    ∀ H, J 0 H → FnC P gf ((.func (.yield l) #[] #[]) :: lb).toArray O H (fun _ H' => J n H' ∨ Jx H')
def parE : Env → List Nat → List Value → Env
  | ρ, p :: ps, v :: vs => parE (upd ρ p v) ps vs
  | ρ, _, _ => ρ
def xround (B : Nat) (I : Nat → Heap → Prop) (Ix : Nat → Heap → Prop) (i : Nat) (H2 : Heap) : XPost
  | .normal, _, H' => RecKept B H2 H' ∧ I (i + 1) H'
  | .exit id, _, H' => RecKept B H2 H' ∧ Ix id H'
  | _, _, _ => False
def xasg (B : Nat) (C : Cx) (I : Nat → Heap → Prop) (Ix : Nat → Heap → Prop) (i : Nat) (body : Code) (H1 : Heap) : XPost
  | .normal, ρ', H' => RecKept B H1 H' ∧ ∀ H2 oD oL, Lpw (B + 1) H' H2 → Rec H2 B oD → Rec H2 (B + 1) oL → XC C body (xround B I Ix i H2) ρ' H2
  | _, _, _ => False
theorem rel_par {N : Nat} : ∀ (ps : List Nat) (vs : List Value) (ρ : Env) (T : Array Value), ps.all (Nat.blt · N) = true → Rel N ρ { tmps := T, defers := [] } →
    Rel N (parE ρ ps vs) { tmps := (ps.zip vs).foldl (fun t (p : Nat × Value) => t.setIfInBounds p.1 p.2) T, defers := [] }
  | [], _, _, _, _, h => by simpa [parE] using h
  | p :: ps, [], _, _, _, h => by simpa [parE] using h
  | p :: ps, v :: vs, ρ, T, ha, h => by
    simp only [List.all_cons, Bool.and_eq_true] at ha
    have h1 := h.put (blt_lt ha.1) v
    exact rel_par ps vs (upd ρ p v) (T.setIfInBounds p v) ha.2 h1
theorem rel_parA {N : Nat} {ps : Array Nat} {vs : List Value} {ρ : Env} {T : Array Value} {a : Act} (ha : ps.toList.all (Nat.blt · N) = true) (h : Rel N ρ a) (hT : a.tmps = T) :
    Rel N (parE ρ ps.toList vs) { tmps := (ps.zip vs.toArray).foldl (fun t (p, v) => t.setIfInBounds p v) T, defers := [] } := by
  have := rel_par ps.toList vs ρ T ha ⟨trivial, hT ▸ h.2.1, hT ▸ h.2.2⟩
  have e : (ps.zip vs.toArray).foldl (fun t (p, v) => t.setIfInBounds p v) T = (ps.toList.zip vs).foldl (fun t (p : Nat × Value) => t.setIfInBounds p.1 p.2) T := by
    rw [← Array.foldl_toList, Array.toList_zip]
  rw [e]; exact this
open Go.RowKit in
theorem xd_range {C : Cx} {Q : XPost} {ρ : Env} {H : Heap} {g : Operand} {ps : Array Tmp} {assign body : Code} {gf : FuncId} {lb : List Value} {n : Nat} {f : Nat → List Value} {G0 G : Heap → Prop}
    (hg : ev ρ g = .func (.func gf) #[] lb.toArray) [hG : Has C.P gf] (hit : It C.P C.O gf lb n f G0 G) (hps : ∀ i, (f i).length = ps.size) (hN : ps.toList.all (Nat.blt · C.N) = true)
    (I : Nat → Heap → Prop) (Ix : Nat → Heap → Prop)
    (hIe : ∀ i H1 H2, I i H1 → Ext H1 H2 → I i H2) (hIl : ∀ i l H1 H2, H.size ≤ l → I i H1 → Lpw l H1 H2 → I i H2)
    (hXe : ∀ i H1 H2, Ix i H1 → Ext H1 H2 → Ix i H2) (hXl : ∀ i l H1 H2, H.size ≤ l → Ix i H1 → Lpw l H1 H2 → Ix i H2)
    (hI0 : ∀ H', I 0 H' → G0 H') (hIG : ∀ i H', I i H' → G H') (h0 : I 0 H)
    (round : ∀ i H1 oD oL, i < n → I i H1 → Rec H1 H.size oD → Rec H1 (H.size + 1) oL → XC { C with r := some (H.size + 1) } assign (xasg H.size { C with r := some (H.size + 1) } I Ix i body H1) (parE ρ ps.toList (f i)) H1)
    (done : ∀ H', I n H' → Rec H' H.size (.deferred (some [])) → Q .normal ρ H')
    (stop : ∀ id H', Ix id H' → Rec H' H.size (.deferred (some [])) → Q (.exit id) ρ H') (hr : C.r = none := by rfl) (hD : C.D = [] := by rfl) :
    XD C [mark H.size] (.rangeFunc g ps assign body) Q ρ H := by
  intro a w hrel hdf hs
  have hF : C.F = Fence.wide := by unfold Cx.F; rw [hr]; rfl
  rw [hF]
  refine wpIn_rangeFunc ?_
  intro fn hfn
  obtain ⟨rec, hrec⟩ : ∃ rec : LoopState → Option Code → Loop, rec = fun st pe => { state := st, pending := pe, fn, tmps := a.tmps, params := ps, assign, body, defers := w.heap.size } := ⟨_, rfl⟩
  obtain ⟨W1, hW1⟩ : ∃ W1, (w.alloc (.deferred (some []))).alloc (.loop (rec .ready none)) = W1 := ⟨_, rfl⟩
  have hB : w.heap.size = H.size := by rw [hs.1]
  have hL1 : W1.heap[H.size + 1]? = some (.loop (rec .ready none)) := by
    rw [← hW1, ← hB]; have := World.alloc_heap_new (w.alloc (.deferred (some []))) (.loop (rec .ready none)); rwa [World.size_alloc] at this
  have hK1 : W1.heap[H.size]? = some (.deferred (some [])) := by
    rw [← hW1, ← hB]; exact (Below.heap_alloc _ _ _ (by simp)).trans (World.alloc_heap_new w _)
  have hE1 : Ext H W1.heap := by
    rw [← hW1, ← hs.1]
    refine ⟨by simp; omega, fun i hi => ?_⟩
    rw [Below.heap_alloc _ _ _ (by simp; omega), Below.heap_alloc _ _ _ hi]
  have hs1 : Sees C.O W1.heap W1 := by rw [← hW1]; exact ⟨rfl, hs.2.1, hs.2.2.1, hs.2.2.2⟩
  have hev : a.eval g = .func (.func gf) #[] lb.toArray := by rw [hrel.eval]; exact hg
  refine ⟨w.heap.size + 1, [{ target := .collected w.heap.size, args := #[] }], W1, { target := .fn (.func gf) lb.toArray, args := #[.func (.yield (w.heap.size + 1)) #[] #[]] }, W1, gf,
    #[.func (.yield (w.heap.size + 1)) #[] #[]] ++ lb.toArray, W1, ?_, ?_, ?_, ?_, fun hh => (by cases hh), ?_⟩
  · rw [← hW1, hrec]; exact run_enterLoop_outer _ _ _ _ _
  · simp only [resolve, hev]
    simp [go_sem]
  · intro f' _; trivial
  · simp [invoke, go_sem, hG.h]
  · have hcall := hit (H.size + 1)
      (fun i H' => I i H' ∧ H'[H.size + 1]? = some (.loop (rec .ready none)) ∧ H'[H.size]? = some (.deferred (some [])))
      (fun H' => ∃ id, Ix id H' ∧ H'[H.size + 1]? = some (.loop (rec .done (some (.exit id)))) ∧ H'[H.size]? = some (.deferred (some [])))
      (fun i H1 H2 h e => ⟨hIe _ _ _ h.1 e, (e.same _ (lt_of_get h.2.1)).trans h.2.1, (e.same _ (lt_of_get h.2.2)).trans h.2.2⟩)
      (fun H1 H2 ⟨id, h, h1, h2⟩ e => ⟨id, hXe _ _ _ h e, (e.same _ (lt_of_get h1)).trans h1, (e.same _ (lt_of_get h2)).trans h2⟩)
      (fun i H' h => hIG _ _ h.1) (fun H' h => hI0 _ h.1)
      (by
        -- one round
        rintro i H1 hi ⟨hI, hl, hk⟩ w1 s1
        have hl' : w1.heap[H.size + 1]? = some (.loop (rec .ready none)) := by rw [s1.1]; exact hl
        have hy := run_yield (P := C.P) (args := (f i).toArray) hl' (by rw [hrec]; simpa using hps i)
        rw [hrec] at hy
        refine ⟨fn, _, assign, body, hy, roundIn_of_wpIn hfn ?_⟩
        have hc := round i H1 _ _ hi hI ⟨hk, rfl⟩ ⟨hl, rfl⟩
        have h1 := hc { tmps := (ps.zip (f i).toArray).foldl (fun t (p, v) => t.setIfInBounds p v) a.tmps, defers := [] } w1 (rel_parA hN hrel rfl) hD.symm s1
        refine wpIn_mono h1 ?_
        intro e a2 w2 hl2
        cases e with
        | normal =>
          obtain ⟨ρ2, H2, r2, s2, d2, ⟨hk2, hl2⟩, hbody⟩ := hl2
          have hlr : w2.heap[H.size + 1]? = some (.loop (rec .ready none)) := by rw [s2.1, hl2]; exact hl
          have hlr' : H2[H.size + 1]? = some (.loop (rec .ready none)) := by rw [hl2]; exact hl
          refine ⟨_, run_beginRound hlr (by rw [hrec]), ?_⟩
          have s3 : Sees C.O (H2.setIfInBounds (H.size + 1) (.loop { rec .ready none with state := .busy })) (w2.putObj (H.size + 1) (.loop { rec .ready none with state := .busy })) := ⟨by rw [← s2.1]; rfl, s2.2.1, s2.2.2.1, s2.2.2.2⟩
          have u3 := lpw_set (o' := .loop { rec .ready none with state := .busy }) hlr' rfl
          have hb := hbody _ (.deferred (some [])) (.loop { rec .ready none with state := .busy }) u3 ⟨(u3.same _ (by omega)).trans (hk2.trans hk), rfl⟩ ⟨by simp [lt_of_get hlr'], rfl⟩ a2 _ r2 d2 s3
          have hl3 : (H2.setIfInBounds (H.size + 1) (.loop { rec .ready none with state := .busy }))[H.size + 1]? = some (.loop { rec .ready none with state := .busy }) := by simp [lt_of_get hlr']
          have hk3 : (H2.setIfInBounds (H.size + 1) (.loop { rec .ready none with state := .busy }))[H.size]? = some (.deferred (some [])) := by rw [u3.same _ (by omega), hk2]; exact hk
          refine wpIn_mono hb ?_
          intro e a4 w4 hl4
          have fin : ∀ (jump : Option Code) (H4 : Heap), Sees C.O H4 w4 → RecKept H.size (H2.setIfInBounds (H.size + 1) (.loop { rec .ready none with state := .busy })) H4 →
              (Instr.endRound (H.size + 1) jump).run C.P w4 = .ok (.bool jump.isNone) (w4.putObj (H.size + 1) (.loop (rec (if jump.isNone then .ready else .done) jump))) ∧
              Lpw (H.size + 1) H4 (H4.setIfInBounds (H.size + 1) (.loop (rec (if jump.isNone then .ready else .done) jump))) ∧
              (H4.setIfInBounds (H.size + 1) (.loop (rec (if jump.isNone then .ready else .done) jump)))[H.size + 1]? = some (.loop (rec (if jump.isNone then .ready else .done) jump)) ∧
              (H4.setIfInBounds (H.size + 1) (.loop (rec (if jump.isNone then .ready else .done) jump)))[H.size]? = some (.deferred (some [])) ∧
              Sees C.O (H4.setIfInBounds (H.size + 1) (.loop (rec (if jump.isNone then .ready else .done) jump))) (w4.putObj (H.size + 1) (.loop (rec (if jump.isNone then .ready else .done) jump))) := fun jump H4 s4 hk4 => by
            have g1 : H4[H.size + 1]? = some (.loop { rec .ready none with state := .busy }) := hk4.2.trans hl3
            have g2 : w4.heap[H.size + 1]? = some (.loop { rec .ready none with state := .busy }) := by rw [s4.1]; exact g1
            have u4 := lpw_set (o' := .loop (rec (if jump.isNone then .ready else .done) jump)) g1 rfl
            have := run_endRound (P := C.P) jump g2
            rw [hrec] at this ⊢
            exact ⟨this, by rw [hrec] at u4; exact u4, by simp [lt_of_get g1], (u4.same _ (by omega)).trans (hk4.1.trans hk3) |> fun h => (by rw [hrec] at h; exact h), ⟨by rw [← s4.1]; rfl, s4.2.1, s4.2.2.1, s4.2.2.2⟩⟩
          cases e with
          | normal =>
            obtain ⟨ρ4, H4, r4, s4, d4, hk4, hI4⟩ := hl4
            obtain ⟨g1, g2, g3, g4, g5⟩ := fin none H4 s4 hk4
            exact ⟨_, _, g1, true, _, rfl, g5, .inl ⟨rfl, hIl _ _ _ _ (by omega) hI4 g2, g3, g4⟩⟩
          | exit id =>
            obtain ⟨ρ4, H4, r4, s4, d4, hk4, hI4⟩ := hl4
            obtain ⟨g1, g2, g3, g4, g5⟩ := fin (some (.exit id)) H4 s4 hk4
            exact ⟨_, _, g1, false, _, rfl, g5, .inr ⟨rfl, id, hXl _ _ _ _ (by omega) hI4 g2, g3, g4⟩⟩
          | ret => obtain ⟨_, _, _, _, h | ⟨_, _, _, h⟩⟩ := hl4; exact h.2.elim; exact h.elim
          | _ => obtain ⟨_, _, _, _, _, h⟩ := hl4; exact h.elim
        | ret => obtain ⟨_, _, _, _, h | ⟨_, _, _, h⟩⟩ := hl2; exact h.2.elim; exact h.elim
        | _ => obtain ⟨_, _, _, _, _, h⟩ := hl2; exact h.elim)
      W1.heap ⟨hIe _ _ _ h0 hE1, hL1, hK1⟩
    have hc := hcall W1 hs1
    rw [hB]
    have e1 : #[Value.func (Fn.yield (H.size + 1)) #[] #[]] ++ lb.toArray = (Value.func (Fn.yield (H.size + 1)) #[] #[] :: lb).toArray := by simp
    rw [e1]
    refine callsIn_wide.2 (Calls.mono hc ?_)
    rintro e w2 ⟨v, H2, rfl, s2, ⟨hI2, hl2, hk2⟩ | ⟨id, hI2, hl2, hk2⟩⟩
    · have hl2' : w2.heap[H.size + 1]? = some (.loop (rec .ready none)) := by rw [s2.1]; exact hl2
      have u := lpw_set (o' := .loop { rec .ready none with state := .exhausted }) hl2 rfl
      refine ⟨none, _, by have := run_endLoop (P := C.P) hl2' (by rw [hrec]; simp); rw [hrec] at this; exact this, ?_⟩
      exact ⟨ρ, _, hrel, ⟨by rw [← s2.1, hrec]; rfl, s2.2.1, s2.2.2.1, s2.2.2.2⟩, by rw [hdf, hD]; rfl, done _ (hIl _ _ _ _ (by omega) hI2 u) ⟨(u.same _ (by omega)).trans hk2, rfl⟩⟩
    · have hl2' : w2.heap[H.size + 1]? = some (.loop (rec .done (some (.exit id)))) := by rw [s2.1]; exact hl2
      have u := lpw_set (o' := .loop { rec .done (some (.exit id)) with state := .exhausted }) hl2 rfl
      refine ⟨some (.exit id), _, by have := run_endLoop (P := C.P) hl2' (by rw [hrec]; simp); rw [hrec] at this; exact this, wpIn_exit ?_⟩
      exact ⟨ρ, _, hrel, ⟨by rw [← s2.1, hrec]; rfl, s2.2.1, s2.2.2.1, s2.2.2.2⟩, by rw [hdf, hD]; rfl, stop _ _ (hXl _ _ _ _ (by omega) hI2 u) ⟨(u.same _ (by omega)).trans hk2, rfl⟩⟩
theorem xasg_mk {B : Nat} {C : Cx} {I Ix : Nat → Heap → Prop} {i : Nat} {body : Code} {H1 H' : Heap} {ρ' : Env} (h : RecKept B H1 H') (k : ∀ H2 oD oL, Lpw (B + 1) H' H2 → Rec H2 B oD → Rec H2 (B + 1) oL → XC C body (xround B I Ix i H2) ρ' H2) : xasg B C I Ix i body H1 .normal ρ' H' := ⟨h, k⟩
theorem xround_n {B : Nat} {I Ix : Nat → Heap → Prop} {i : Nat} {H2 H' : Heap} {ρ' : Env} (h : RecKept B H2 H') (k : I (i + 1) H') : xround B I Ix i H2 .normal ρ' H' := ⟨h, k⟩
theorem xround_x {B : Nat} {I Ix : Nat → Heap → Prop} {i id : Nat} {H2 H' : Heap} {ρ' : Env} (h : RecKept B H2 H') (k : Ix id H') : xround B I Ix i H2 (.exit id) ρ' H' := ⟨h, k⟩
theorem np_ret {Q : XPost} : NoPanic (xret Q) := fun _ _ _ h => h
theorem xret_ret {Q : XPost} {ρ : Env} {H : Heap} (h : Q .ret ρ H) : xret Q .ret ρ H := h
/-- A loop over a function, and what returns behind it. -/
def XS (C : Cx) (b y : Code) (Q : XPost) (ρ : Env) (H : Heap) : Prop := ∃ D, XD C D b (xthen (XC { C with D := D } y (xret Q)) (xret Q)) ρ H
theorem xc_seq_marks1 {C : Cx} {Q : XPost} {ρ : Env} {H : Heap} {b y : Code} (h : XS C b y Q ρ H) : XC C (.seq b y) Q ρ H := by
  obtain ⟨D, h⟩ := h
  exact xc_seq_marks h
/-- What stands ahead of the loop in one statement with it. -/
theorem xc_seq_marks2 {C : Cx} {Q : XPost} {ρ : Env} {H : Heap} {a b y : Code} (h : XC C a (xthen (XS C b y Q) (xret Q)) ρ H) : XC C (.seq (.seq a b) y) Q ρ H := by
  intro ac w hr hd hs
  refine wpIn_seq (wpIn_seq (wpIn_mono (h ac w hr hd hs) ?_))
  intro e a' w' hl
  cases e with
  | normal =>
    obtain ⟨ρ', H', r, s, d, D, q⟩ := hl
    refine wpIn_mono (q a' w' r d s) ?_
    intro e a2 w2 h2
    cases e with
    | normal =>
      obtain ⟨ρ2, H2, r2, s2, d2, q2⟩ := h2
      refine wpIn_mono (q2 a2 w2 r2 d2 s2) ?_
      intro e a3 w3 h3
      cases e with
      | ret => exact h3
      | _ => obtain ⟨_, _, _, _, _, q⟩ := h3; exact q.elim
    | ret => exact h2
    | _ => obtain ⟨_, _, _, _, _, q⟩ := h2; exact q.elim
  | ret => exact hl
  | _ => obtain ⟨_, _, _, _, _, q⟩ := hl; exact q.elim
/-- The last loop over a function in its block, and what returns behind it. -/
theorem xs_rangeB {C : Cx} {Q : XPost} {ρ : Env} {H : Heap} {id : Nat} {g : Operand} {ps : Array Tmp} {assign body y : Code} {gf : FuncId} {lb : List Value} {n : Nat} {f : Nat → List Value} {G0 G : Heap → Prop}
    (hg : ev ρ g = .func (.func gf) #[] lb.toArray) [hG : Has C.P gf] (hit : It C.P C.O gf lb n f G0 G) (hps : ∀ i, (f i).length = ps.size) (hN : ps.toList.all (Nat.blt · C.N) = true)
    (I : Nat → Heap → Prop) (Ix : Heap → Prop)
    (hIe : ∀ i H1 H2, I i H1 → Ext H1 H2 → I i H2) (hIl : ∀ i l H1 H2, H.size ≤ l → I i H1 → Lpw l H1 H2 → I i H2)
    (hXe : ∀ H1 H2, Ix H1 → Ext H1 H2 → Ix H2) (hXl : ∀ l H1 H2, H.size ≤ l → Ix H1 → Lpw l H1 H2 → Ix H2)
    (hI0 : ∀ H', I 0 H' → G0 H') (hIG : ∀ i H', I i H' → G H') (h0 : I 0 H)
    (round : ∀ i H1 oD oL, i < n → I i H1 → Rec H1 H.size oD → Rec H1 (H.size + 1) oL → XC { C with r := some (H.size + 1) } assign (xasg H.size { C with r := some (H.size + 1) } I (fun j H' => j = id ∧ Ix H') i body H1) (parE ρ ps.toList (f i)) H1)
    (done : ∀ H', I n H' → Rec H' H.size (.deferred (some [])) → XC { C with D := [mark H.size] } y (xret Q) ρ H')
    (stop : ∀ H', Ix H' → Rec H' H.size (.deferred (some [])) → XC { C with D := [mark H.size] } y (xret Q) ρ H') (hr : C.r = none := by rfl) (hD : C.D = [] := by rfl) :
    XS C (.block id (.rangeFunc g ps assign body)) y Q ρ H := by
  refine ⟨[mark H.size], (xd_block (xd_range hg hit hps hN I (fun j H' => j = id ∧ Ix H') hIe hIl (fun j H1 H2 h e => ⟨h.1, hXe _ _ h.2 e⟩) (fun j l H1 H2 hl h u => ⟨h.1, hXl _ _ _ hl h.2 u⟩) hI0 hIG h0 round ?_ ?_ hr hD))⟩
  · intro H' h1 h2
    exact xblock_normal (xthen_normal (done H' h1 h2))
  · rintro j H' ⟨rfl, h1⟩ h2
    exact xblock_same (xthen_normal (stop H' h1 h2))
end Go.XG
