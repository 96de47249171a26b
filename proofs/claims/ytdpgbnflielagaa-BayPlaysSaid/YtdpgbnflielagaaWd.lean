/-
  Walks of the seat's functions over the logic XG: each function, what it computes. Printed by a program out of wip/walks.py.
-/
import Derived.Test.YtdpgbnflielagaaI
import Derived.Test.YtdpgbnflielagaaN
import Derived.Test.YtdpgbnflielagaaWa
import Derived.Test.YtdpgbnflielagaaWb
import Derived.Test.YtdpgbnflielagaaWc
namespace Go.XG
open Go.Proofs
set_option maxRecDepth 4000
set_option maxHeartbeats 4000000
theorem runs {O : Outer} {H : Heap} {gb k : Nat} {ex : List Value} {T : List Se} {G : Nat → Prop} (mg : Blk H gb (fE T ++ ex) 69) (hL : LS H G T) (hk : k < T.length) (hA : Asc (gE T k).rn) (hl : (gE T k).rn.length ≤ 8) (x : Int) :
    FnC Try.prog 23 #[.pointer (some ⟨gb, 0 + k * 3, none⟩), .int .i64 x] O H (fun _ H' => ∃ a' c', Blk H' gb (fE (T.set k (stE (gE T k) false (insI (gE T k).rn x) a' c')) ++ ex) 69 ∧ LS H' (Gn G H H') (T.set k (stE (gE T k) false (insI (gE T k).rn x) a' c')) ∧ KeepF (fun j => j = gb ∨ bk (gE T k).ra j) H H') := by
  have mg0 := mg
  have hio := hL.io k hk false
  have hgl : 0 + k * 3 + 3 ≤ (fE T ++ ex).length := by rw [List.length_append, fE_len]; omega
  refine fn_enter (A := [.pointer (some ⟨gb, 0 + k * 3, none⟩), .int .i64 x]) Try.func23 rfl rfl ?_
  have hX := KeepF.refl (fun j => j = gb ∨ bk (gE T k).ra j) H
  refine xc_seq ?_
  refine xc_region ?_
  refine xl_pure rfl rfl rfl (pv_move (v := .pointer _) rfl rfl) ?_
  refine xl_pure rfl rfl rfl (pv_nilCheck_p rfl rfl) ?_
  refine xl_pure rfl rfl rfl (pv_fieldAddr rfl rfl) ?_
  refine xl_light rfl rfl rfl (lv_load (v := .slice _ _ _) rfl rfl (by exact ldE mg hk 1 rfl)) ?_
  refine xl_pure rfl rfl rfl (pv_move (v := .int _ _) rfl rfl) ?_
  refine xl_heavy rfl rfl rfl (hv_call (g := 40) rfl rfl (bsearch hio.ints hA (show (gE T k).rn.length < 1000000 by omega) x) rfl) ?_
  rintro v0_5 H0_5 ⟨⟨bb, rfl⟩, rfl⟩
  refine xl_pure rfl rfl rfl (pv_move (v := .tuple _) rfl rfl) ?_
  refine xl_pure rfl rfl rfl (pv_extract (v := .int _ _) rfl rfl rfl) ?_
  refine xl_pure rfl rfl rfl (pv_extract (v := .bool _) rfl rfl rfl) ?_
  refine xl_pure rfl rfl rfl (pv_assign (v := .int _ _) rfl rfl) ?_
  refine xl_pure rfl rfl rfl (pv_assign (v := .bool _) rfl rfl) ?_
  refine xl_nil ?_
  refine xthen_normal ?_
  refine xc_region ?_
  refine xl_pure rfl rfl rfl (pv_move (v := .pointer _) rfl rfl) ?_
  refine xl_pure rfl rfl rfl (pv_move (v := .pointer _) rfl rfl) ?_
  refine xl_pure rfl rfl rfl (pv_nilCheck_p rfl rfl) ?_
  refine xl_pure rfl rfl rfl (pv_fieldAddr rfl rfl) ?_
  refine xl_light rfl rfl rfl (lv_load (v := .slice _ _ _) rfl rfl (by exact ldE mg hk 1 rfl)) ?_
  refine xl_pure rfl rfl rfl (pv_move (v := .int _ _) rfl rfl) ?_
  refine xl_pure rfl rfl rfl (pv_move (v := .int _ _) rfl rfl) ?_
  refine xl_heavy rfl rfl rfl (hv_buildSlice (cs := [.int _ _]) rfl rfl rfl rfl rfl) ?_
  rintro v1_7 H1_7 ⟨b1_7, rfl, hN1_7⟩
  have gb1_7 := hX.fresh hN1_7
  have nmg_1_7 := mg.apart hN1_7
  have mg := mg.ext hN1_7.ext
  have hX := hX.transE hN1_7.ext
  have m1_7 := hN1_7.blk
  refine xl_heavy rfl rfl rfl (hv_call (g := 41) rfl rfl (insertK (hio.ext hN1_7.ext) (posI (gE T k).rn x) posI_le (show (gE T k).rn.length ≤ 1000 by omega) m1_7 (hio.new hN1_7)) rfl) ?_
  rintro v1_8 H1_8 ⟨a1_8, c1_8, rfl, hI1_8, hB1_8, hK1_8⟩
  have mg := mg.keep hK1_8 ((hio.ext hN1_7.ext).noty mg rfl)
  have hX := hX.trans (hK1_8.mono (fun j h => .inr h))
  refine xl_pure rfl rfl rfl (pv_nilCheck_p rfl rfl) ?_
  refine xl_pure rfl rfl rfl (pv_fieldAddr rfl rfl) ?_
  refine xl_store rfl rfl (hv_store (vs := [.slice a1_8 ((gE T k).rn.length + 1) c1_8]) rfl rfl rfl mg rfl (by show 0 + k * 3 + 1 + 1 ≤ _; omega) rfl) ?_
  rintro v1_11 H1_11 ⟨hU1_11, hZ1_11⟩
  have hI := hI1_8.but hU1_11.but (hI1_8.noty mg rfl)
  have hX := hX.own hU1_11.but (.inl rfl)
  have mg := hU1_11.blk
  rw [show (gE T k).rn.length + 1 = (insI (gE T k).rn x).length from len_ins.symm, stE_set (w := false) hk 1 rfl] at mg
  refine xl_nil ?_
  refine fin_normal (res0 rfl) ?_
  exact ⟨a1_8, c1_8, mg, hL.set (w := false) hk hX (fun j hj => hj.elim (fun h => .inl (by rw [h]; exact hL.off mg0 rfl)) .inr) hI (fun j hj => (hB1_8 j hj).imp id (fun h => Nat.le_trans hN1_7.ext.size h)), hX⟩
end Go.XG
