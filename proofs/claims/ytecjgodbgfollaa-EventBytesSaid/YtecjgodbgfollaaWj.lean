/-
  Walks of the seat's functions over the logic XG: each function, what it computes. Printed by a program out of wip/walks.py.
-/
import Derived.Test.YtecjgodbgfollaaI
import Derived.Test.YtecjgodbgfollaaLn
import Derived.Test.YtecjgodbgfollaaNa
import Derived.Test.YtecjgodbgfollaaNb
import Derived.Test.YtecjgodbgfollaaNc
import Derived.Test.YtecjgodbgfollaaNd
import Derived.Test.YtecjgodbgfollaaNf
import Derived.Test.YtecjgodbgfollaaNg
import Derived.Test.YtecjgodbgfollaaE
import Derived.Test.YtecjgodbgfollaaWa
import Derived.Test.YtecjgodbgfollaaWb
import Derived.Test.YtecjgodbgfollaaWc
import Derived.Test.YtecjgodbgfollaaWd
import Derived.Test.YtecjgodbgfollaaWe
import Derived.Test.YtecjgodbgfollaaWf
import Derived.Test.YtecjgodbgfollaaWg
import Derived.Test.YtecjgodbgfollaaWh
import Derived.Test.YtecjgodbgfollaaWi
namespace Go.XG
open Go.Proofs Go.Pen
set_option maxRecDepth 4000
set_option maxHeartbeats 4000000
theorem c16 {O : Outer} {H : Heap} {B p vc : Nat} {va : Option Addr} {mv : Option Nat} {l : List (List Int)} (hg : LogAt H B p va vc mv l) (f0 t0 : Int) :
    FnC Try.prog 16 #[.pointer (some ⟨p, 0, none⟩), .int .i64 f0, .int .i64 t0] O H (fun v H' => ∃ a' c', v = .slice a' (List.length (l.filter (btw f0 t0))) c' ∧ Rows H' a' 4 (l.filter (btw f0 t0)) ∧ Ext H H') := by
  refine fn_enter (A := [.pointer (some ⟨p, 0, none⟩), .int .i64 f0, .int .i64 t0]) Try.func16 rfl rfl ?_
  have mp := hg.blk
  have hR := hg.rows
  have hlen := hg.len
  have hX := Ext.refl H
  refine xc_seq ?_
  refine xc_region ?_
  refine xl_heavy rfl rfl rfl (hv_box rfl rfl) ?_
  rintro v0_0 H0_0 ⟨b0_0, rfl, hN0_0⟩
  have gb0_0 := hX.fresh hN0_0
  have nmp_0_0 := mp.apart hN0_0
  have mp := mp.ext hN0_0.ext
  have hX := hX.trans hN0_0.ext
  have m0_0 := hN0_0.blk
  refine xl_heavy rfl rfl rfl (hv_box rfl rfl) ?_
  rintro v0_1 H0_1 ⟨b0_1, rfl, hN0_1⟩
  have gb0_1 := hX.fresh hN0_1
  have nmp_0_1 := mp.apart hN0_1
  have nm0_0_0_1 := m0_0.apart hN0_1
  have mp := mp.ext hN0_1.ext
  have m0_0 := m0_0.ext hN0_1.ext
  have hX := hX.trans hN0_1.ext
  have m0_1 := hN0_1.blk
  refine xl_pure rfl rfl rfl (pv_assign (v := .slice _ _ _) rfl rfl) ?_
  refine xl_nil ?_
  refine xthen_normal ?_
  refine xc_seq ?_
  refine xc_region ?_
  refine xl_pure rfl rfl rfl (pv_move (v := .pointer _) rfl rfl) ?_
  have hl0 := m0_0.lt
  have hl1 := m0_1.lt
  have hlsz := hX.size
  refine xl_heavy rfl rfl rfl (hv_call (g := 9) rfl rfl (c9 (LogAt.ext hg hX)) rfl) ?_
  rintro v1_1 H1_1 ⟨a1_1, c1_1, rfl, hR1_1, hA1_1, hO1_1, hE1_1⟩
  have mp := mp.ext hE1_1
  have m0_0 := m0_0.ext hE1_1
  have m0_1 := m0_1.ext hE1_1
  have hX := hX.trans hE1_1
  refine xl_pure rfl rfl rfl (pv_makeFunc (a := []) (b := [.pointer _, .pointer _]) rfl rfl rfl) ?_
  rcases own_split hO1_1 with ⟨rfl, rfl, rfl⟩ | ⟨g, ex, rfl, hgb, hgg, hlc⟩
  · skip
    refine xl_heavy rfl rfl rfl (hv_call (g := 29) rfl rfl (c29n (.pointer (some ⟨b0_0, 0, none⟩)) (.pointer (some ⟨b0_1, 0, none⟩))) rfl) ?_
    rintro v1_3 H1_3 ⟨rfl, hE1_3⟩
    have mp := mp.ext hE1_3
    have m0_0 := m0_0.ext hE1_3
    have m0_1 := m0_1.ext hE1_3
    have hX := hX.trans hE1_3
    refine xl_pure rfl rfl rfl (pv_assign (v := .slice _ _ _) rfl rfl) ?_
    refine xl_nil ?_
    refine xthen_normal ?_
    refine xc_ret ?_
    refine fin_ret (res1 (v := .slice _ _ _) rfl rfl) ?_
    first
      | exact ⟨a1_3, c1_3, by simp, hR1_3, hX⟩
      | exact ⟨none, 0, rfl, rows_nil, hX⟩
  · skip
    refine xl_heavy rfl rfl rfl (hv_call (g := 29) rfl rfl (c29 l _ ex hR.1 (by omega) hgb (by omega) (fun r => !btw f0 t0 r) 30 (.pointer (some ⟨b0_0, 0, none⟩)) (.pointer (some ⟨b0_1, 0, none⟩)) (fun H1 => Blk H1 b0_0 [.int .i64 f0] 3 ∧ Blk H1 b0_1 [.int .i64 t0] 3) ⟨m0_0, m0_1⟩ (fun H1 H2 h e => ⟨h.1.ext e, h.2.ext e⟩) (fun H1 H2 h e => ⟨h.1.but e (by omega), h.2.but e (by omega)⟩) (fun i H1 hi hk => c30r _ (hR.1.get hi) f0 t0 b0_0 b0_1 hk.1 hk.2)) rfl) ?_
    rintro v1_3 H1_3 ⟨a1_3, n1_3, c1_3, rfl, rfl, hR1_3, hB1_3⟩
    have hX := hX.upd hB1_3 ⟨by omega⟩
    have hnn : (fun r => !(!btw f0 t0 r)) = btw f0 t0 := by funext r; simp
    rw [hnn] at hR1_3
    refine xl_pure rfl rfl rfl (pv_assign (v := .slice _ _ _) rfl rfl) ?_
    refine xl_nil ?_
    refine xthen_normal ?_
    refine xc_ret ?_
    refine fin_ret (res1 (v := .slice _ _ _) rfl rfl) ?_
    first
      | exact ⟨a1_3, c1_3, by simp, hR1_3, hX⟩
      | exact ⟨none, 0, rfl, rows_nil, hX⟩

theorem c27n {O : Outer} {H : Heap}  :
    FnC Try.prog 27 #[.map none] O H (fun v H' => v = .map none ∧ Ext H H') := by
  refine fn_enter (A := [.map none]) Try.func27 rfl rfl ?_
  have hX := Ext.refl H
  refine xc_seq ?_
  refine xc_region ?_
  refine xl_pure rfl rfl rfl (pv_assign (v := .map _) rfl rfl) ?_
  refine xl_nil ?_
  refine xthen_normal ?_
  refine xc_seq ?_
  refine xc_seq ?_
  refine xc_region ?_
  refine xl_pure rfl rfl rfl (pv_move (v := .map _) rfl rfl) ?_
  refine xl_pure rfl rfl rfl (pv_eql_mn rfl rfl rfl) ?_
  refine xl_nil ?_
  refine xthen_normal ?_
  refine xc_cond_t rfl ?_
  refine xc_seq ?_
  refine xc_region ?_
  refine xl_pure rfl rfl rfl (pv_assign (v := .map _) rfl rfl) ?_
  refine xl_nil ?_
  refine xthen_normal ?_
  refine xc_ret ?_
  refine xthen_ret ?_
  refine fin_ret (res1 (v := .map _) rfl rfl) ?_
  exact ⟨rfl, hX⟩

theorem c27 {O : Outer} {H : Heap} (m : Nat) (es : Ents) (hm : MapAt H m kvA 2 es) :
    FnC Try.prog 27 #[.map (some m)] O H (fun v H' => ∃ b, v = .map (some b) ∧ NewM H H' b kvA 2 es) := by
  refine fn_enter (A := [.map (some m)]) Try.func27 rfl rfl ?_
  have hX := Ext.refl H
  refine xc_seq ?_
  refine xc_region ?_
  refine xl_pure rfl rfl rfl (pv_assign (v := .map _) rfl rfl) ?_
  refine xl_nil ?_
  refine xthen_normal ?_
  refine xc_seq ?_
  refine xc_seq ?_
  refine xc_region ?_
  refine xl_pure rfl rfl rfl (pv_move (v := .map _) rfl rfl) ?_
  refine xl_pure rfl rfl rfl (pv_eql_mn rfl rfl rfl) ?_
  refine xl_nil ?_
  refine xthen_normal ?_
  refine xc_cond_f rfl ?_
  refine xc_skip ?_
  refine xthen_normal ?_
  refine xc_seq ?_
  refine xc_region ?_
  refine xl_pure rfl rfl rfl (pv_move (v := .map _) rfl rfl) ?_
  refine xl_pure rfl rfl rfl (pv_makeInterface rfl rfl rfl) ?_
  refine xl_heavy rfl rfl rfl (hv_extern (A := [.iface 25 (.map (some m))]) rfl rfl rfl Try.func38 (by kernel_rfl) (by kernel_rfl) (by kernel_rfl) (e := Extern.MapsClone.clone) (by kernel_rfl) (fun w hs => run_mapsClone hs hm)) ?_
  rintro v3_2 H3_2 ⟨b3_2, rfl, hN3_2⟩
  refine xl_pure rfl rfl rfl (pv_typeAssert (v := .map _) rfl rfl) ?_
  refine xl_pure rfl rfl rfl (pv_assign (v := .map _) rfl rfl) ?_
  refine xl_nil ?_
  refine xthen_normal ?_
  refine xc_ret ?_
  refine fin_ret (res1 (v := .map _) rfl rfl) ?_
  exact ⟨_, rfl, hN3_2⟩

theorem c10a {O : Outer} {H : Heap} {B p vc : Nat} {va : Option Addr}  {l : List (List Int)} (hg : LogAt H B p va vc none l) :
    FnC Try.prog 10 #[.pointer (some ⟨p, 0, none⟩)] O H (fun v H' => ∃ p' va' vc' mv', v = .pointer (some ⟨p', 0, none⟩) ∧ LogAt H' H.size p' va' vc' mv' l ∧ Ext H H') := by
  refine fn_enter (A := [.pointer (some ⟨p, 0, none⟩)]) Try.func10 rfl rfl ?_
  have mp := hg.blk
  have hR := hg.rows
  have hlen := hg.len
  have hX := Ext.refl H
  refine xc_seq ?_
  refine xc_region ?_
  refine xl_pure rfl rfl rfl (pv_assign (v := .pointer _) rfl rfl) ?_
  refine xl_nil ?_
  refine xthen_normal ?_
  refine xc_seq ?_
  refine xc_seq ?_
  refine xc_region ?_
  refine xl_pure rfl rfl rfl (pv_move (v := .pointer _) rfl rfl) ?_
  refine xl_pure rfl rfl rfl (pv_eql_pn rfl rfl rfl) ?_
  refine xl_nil ?_
  refine xthen_normal ?_
  refine xc_cond_f rfl ?_
  refine xc_skip ?_
  refine xthen_normal ?_
  refine xc_seq ?_
  refine xp_start rfl (by repeat (first | with_reducible exact np_fin | with_reducible refine np_then ?_ | with_reducible refine np_block ?_)) (by kernel_rfl) ?_
  refine xp_pure (i := 0) rfl (by kernel_rfl) (by kernel_rfl) rfl rfl rfl (pv_move (v := .pointer _) rfl rfl) ?_
  refine xp_pure (i := 1) rfl (by kernel_rfl) (by kernel_rfl) rfl rfl rfl (pv_nilCheck_p rfl rfl) ?_
  refine xp_pure (i := 2) rfl (by kernel_rfl) (by kernel_rfl) rfl rfl rfl (pv_fieldAddr rfl rfl) ?_
  refine xp_light (i := 3) rfl (by kernel_rfl) (by kernel_rfl) rfl rfl rfl (lv_load (v := .slice _ _ _) rfl rfl (ld_blk mp rfl)) ?_
  refine xp_pure (i := 5) rfl (by kernel_rfl) (by kernel_rfl) rfl rfl rfl (pv_move (v := .pointer _) rfl rfl) ?_
  refine xp_pure (i := 6) rfl (by kernel_rfl) (by kernel_rfl) rfl rfl rfl (pv_nilCheck_p rfl rfl) ?_
  refine xp_pure (i := 7) rfl (by kernel_rfl) (by kernel_rfl) rfl rfl rfl (pv_fieldAddr rfl rfl) ?_
  refine xp_light (i := 8) rfl (by kernel_rfl) (by kernel_rfl) rfl rfl rfl (lv_load (v := .map _) rfl rfl (ld_blk mp rfl)) ?_
  refine xp_heavy (i := 4) (by kernel_rfl) ?_
  refine xph_val rfl rfl rfl rfl (hv_call (g := 26) rfl rfl (c26 l va vc (hR.ext hX) (by omega)) rfl) (pk (by kernel_rfl) (pd (by kernel_rfl) pn)) ?_
  rintro v3_4 H3_4 ⟨a3_4, c3_4, rfl, hR3_4, hA3_4, hO3_4, hE3_4⟩
  have mp := mp.ext hE3_4
  have hX := hX.trans hE3_4
  refine ⟨(okc (lv_load (v := .map _) rfl rfl (ld_blk mp rfl)) okn), ?_⟩
  refine xp_heavy (i := 9) (by kernel_rfl) ?_
  refine xph_val rfl rfl rfl rfl (hv_call (g := 27) rfl rfl (c27n) rfl) (pd (by kernel_rfl) pn) ?_
  rintro v3_9 H3_9 ⟨rfl, hE3_9⟩
  have mp := mp.ext hE3_9
  have hO3_4 := hO3_4.ext hE3_9
  have hX := hX.trans hE3_9
  refine ⟨okn, ?_⟩
  refine xp_pure (i := 10) rfl (by kernel_rfl) (by kernel_rfl) rfl rfl rfl (pv_build_s (cs := [.slice _ _ _, .map _]) rfl rfl rfl) ?_
  refine xp_heavy (i := 11) (by kernel_rfl) ?_
  refine xph_val rfl rfl rfl rfl (hv_box (cs := [.slice a3_4 (List.length l) c3_4, .map none]) rfl rfl) pn ?_
  rintro v3_11 H3_11 ⟨b3_11, rfl, hN3_11⟩
  have gb3_11 := hX.fresh hN3_11
  have nmp_3_11 := mp.apart hN3_11
  have mp := mp.ext hN3_11.ext
  have hO3_4 := hO3_4.ext hN3_11.ext
  have hX := hX.trans hN3_11.ext
  have m3_11 := hN3_11.blk
  refine ⟨okn, ?_⟩
  refine xp_pure (i := 12) rfl (by kernel_rfl) (by kernel_rfl) rfl rfl rfl (pv_assign (v := .pointer _) rfl rfl) ?_
  refine xp_done (by kernel_rfl) ?_
  refine xthen_normal ?_
  refine xc_ret ?_
  refine fin_ret (res1 (v := .pointer _) rfl rfl) ?_
  exact ⟨_, _, _, none, rfl, ⟨m3_11, hO3_4, hg.map, hg.wide, hg.len, gb3_11.le⟩, hX⟩

theorem c10b {O : Outer} {H : Heap} {B p vc : Nat} {va : Option Addr} {m : Nat} {l : List (List Int)} (hg : LogAt H B p va vc (some m) l) :
    FnC Try.prog 10 #[.pointer (some ⟨p, 0, none⟩)] O H (fun v H' => ∃ p' va' vc' mv', v = .pointer (some ⟨p', 0, none⟩) ∧ LogAt H' H.size p' va' vc' mv' l ∧ Ext H H') := by
  refine fn_enter (A := [.pointer (some ⟨p, 0, none⟩)]) Try.func10 rfl rfl ?_
  have mp := hg.blk
  have hR := hg.rows
  have hlen := hg.len
  have hX := Ext.refl H
  refine xc_seq ?_
  refine xc_region ?_
  refine xl_pure rfl rfl rfl (pv_assign (v := .pointer _) rfl rfl) ?_
  refine xl_nil ?_
  refine xthen_normal ?_
  refine xc_seq ?_
  refine xc_seq ?_
  refine xc_region ?_
  refine xl_pure rfl rfl rfl (pv_move (v := .pointer _) rfl rfl) ?_
  refine xl_pure rfl rfl rfl (pv_eql_pn rfl rfl rfl) ?_
  refine xl_nil ?_
  refine xthen_normal ?_
  refine xc_cond_f rfl ?_
  refine xc_skip ?_
  refine xthen_normal ?_
  refine xc_seq ?_
  refine xp_start rfl (by repeat (first | with_reducible exact np_fin | with_reducible refine np_then ?_ | with_reducible refine np_block ?_)) (by kernel_rfl) ?_
  refine xp_pure (i := 0) rfl (by kernel_rfl) (by kernel_rfl) rfl rfl rfl (pv_move (v := .pointer _) rfl rfl) ?_
  refine xp_pure (i := 1) rfl (by kernel_rfl) (by kernel_rfl) rfl rfl rfl (pv_nilCheck_p rfl rfl) ?_
  refine xp_pure (i := 2) rfl (by kernel_rfl) (by kernel_rfl) rfl rfl rfl (pv_fieldAddr rfl rfl) ?_
  refine xp_light (i := 3) rfl (by kernel_rfl) (by kernel_rfl) rfl rfl rfl (lv_load (v := .slice _ _ _) rfl rfl (ld_blk mp rfl)) ?_
  refine xp_pure (i := 5) rfl (by kernel_rfl) (by kernel_rfl) rfl rfl rfl (pv_move (v := .pointer _) rfl rfl) ?_
  refine xp_pure (i := 6) rfl (by kernel_rfl) (by kernel_rfl) rfl rfl rfl (pv_nilCheck_p rfl rfl) ?_
  refine xp_pure (i := 7) rfl (by kernel_rfl) (by kernel_rfl) rfl rfl rfl (pv_fieldAddr rfl rfl) ?_
  refine xp_light (i := 8) rfl (by kernel_rfl) (by kernel_rfl) rfl rfl rfl (lv_load (v := .map _) rfl rfl (ld_blk mp rfl)) ?_
  refine xp_heavy (i := 4) (by kernel_rfl) ?_
  refine xph_val rfl rfl rfl rfl (hv_call (g := 26) rfl rfl (c26 l va vc (hR.ext hX) (by omega)) rfl) (pk (by kernel_rfl) (pd (by kernel_rfl) pn)) ?_
  rintro v3_4 H3_4 ⟨a3_4, c3_4, rfl, hR3_4, hA3_4, hO3_4, hE3_4⟩
  have mp := mp.ext hE3_4
  have hX := hX.trans hE3_4
  refine ⟨(okc (lv_load (v := .map _) rfl rfl (ld_blk mp rfl)) okn), ?_⟩
  refine xp_heavy (i := 9) (by kernel_rfl) ?_
  refine xph_val rfl rfl rfl rfl (hv_call (g := 27) rfl rfl (c27 m _ ((LogAt.ext hg hX).map.1)) rfl) (pd (by kernel_rfl) pn) ?_
  rintro v3_9 H3_9 ⟨b3_9, rfl, hN3_9⟩
  have mp := mp.ext hN3_9.ext
  have hmm := hN3_9.map
  have hO3_4 := hO3_4.ext hN3_9.ext
  have hfm : H.size ≤ b3_9 := Nat.le_trans hX.size hN3_9.ge
  have hX := hX.trans hN3_9.ext
  refine ⟨okn, ?_⟩
  refine xp_pure (i := 10) rfl (by kernel_rfl) (by kernel_rfl) rfl rfl rfl (pv_build_s (cs := [.slice _ _ _, .map _]) rfl rfl rfl) ?_
  refine xp_heavy (i := 11) (by kernel_rfl) ?_
  refine xph_val rfl rfl rfl rfl (hv_box (cs := [.slice a3_4 (List.length l) c3_4, .map (some b3_9)]) rfl rfl) pn ?_
  rintro v3_11 H3_11 ⟨b3_11, rfl, hN3_11⟩
  have gb3_11 := hX.fresh hN3_11
  have nmp_3_11 := mp.apart hN3_11
  have mp := mp.ext hN3_11.ext
  have hO3_4 := hO3_4.ext hN3_11.ext
  have hX := hX.trans hN3_11.ext
  have m3_11 := hN3_11.blk
  refine ⟨okn, ?_⟩
  refine xp_pure (i := 12) rfl (by kernel_rfl) (by kernel_rfl) rfl rfl rfl (pv_assign (v := .pointer _) rfl rfl) ?_
  refine xp_done (by kernel_rfl) ?_
  refine xthen_normal ?_
  refine xc_ret ?_
  refine fin_ret (res1 (v := .pointer _) rfl rfl) ?_
  exact ⟨_, _, _, some b3_9, rfl, ⟨m3_11, hO3_4, ⟨hmm.ext hN3_11.ext, hfm⟩, hg.wide, hg.len, gb3_11.le⟩, hX⟩

theorem c10 {O : Outer} {H : Heap} {B p vc : Nat} {va : Option Addr} {mv : Option Nat} {l : List (List Int)} (hg : LogAt H B p va vc mv l) : FnC Try.prog 10 #[.pointer (some ⟨p, 0, none⟩)] O H (fun v H' => ∃ p' va' vc' mv', v = .pointer (some ⟨p', 0, none⟩) ∧ LogAt H' H.size p' va' vc' mv' l ∧ Ext H H') := by
  cases mv with
  | none => exact c10a hg
  | some m => exact c10b hg
end Go.XG
