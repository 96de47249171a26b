/-
  XG, part g: slices of structs, cleared.
-/
import Derived.Test.YtjlhjjjhblcokaaXf
namespace Go.XG
theorem zeroCells_len (z : Array Value) (n : Nat) : (Builtin.zeroCells z n).toList.length = n * z.size := by simp [Builtin.zeroCells]
theorem zeroCells_one (z : Array Value) (n : Nat) (hs : 0 < z.size) (h : ∀ v ∈ z, v.oneCell' = true) : (Builtin.zeroCells z n).toList.all Value.oneCell' = true := by
  rw [List.all_eq_true]
  intro v hv
  simp [Builtin.zeroCells] at hv
  obtain ⟨i, _, rfl⟩ := hv
  have hlt : i % z.size < z.size := Nat.mod_lt _ hs
  rw [getElem!_pos z (i % z.size) hlt]
  exact h _ (Array.getElem_mem hlt)
section
variable {C : Cx} {o : Oper} {ρ : Env} {H : Heap}
theorem hv_clear {x : Operand} {t e : TypeId} {agg : Bool} {size bytes : Nat} {zero : Value} {b off n c : Nat} {cs zs : List Value} {t' : TypeId} [ht : Und C.P t (.slice e)] [hi : Inf C.P e agg size bytes zero]
    (ho : o.op = .call { callee := .builtin .clear, args := #[x], argTypes := #[t] }) (hx : ev ρ x = .slice (some ⟨b, off, none⟩) n c) (hn : 0 < n)
    (hz : (Builtin.zeroCells zero.cells n).toList = zs) (hb : Blk H b cs t') (hc : off + zs.length ≤ cs.length) (h1 : zs.all Value.oneCell' = true) :
    HV C o ρ H (fun _ H' => Upd H H' b (setRange cs off zs) t') := fun w hs => .inl (by
  obtain ⟨w', H', hr, hs', hu, _⟩ := run_storeCells (P := C.P) zs H cs off 0 w hs hb (by omega) (List.all_eq_true.1 h1)
  refine ⟨.tuple #[], w', ?_, H', hs', hu⟩
  obtain ⟨m, rfl⟩ : ∃ m, n = m + 1 := ⟨n - 1, by omega⟩
  simp only [execOp, ho, resolve, invoke, builtin, Sem.run_bind, Sem.run_pure, Result.andThen_ok, List.map_toArray, List.map_cons, List.map_nil, hx, Builtin.clear_]
  simp [Und.run, Inf.zrun, hz, hr])
theorem hv_clear0 {x : Operand} {t e : TypeId} {a : Option Addr} {c : Nat} [ht : Und C.P t (.slice e)]
    (ho : o.op = .call { callee := .builtin .clear, args := #[x], argTypes := #[t] }) (hx : ev ρ x = .slice a 0 c) :
    HV C o ρ H (fun _ H' => H = H') := fun w hs => .inl (by
  refine ⟨.tuple #[], w, ?_, H, hs, rfl⟩
  simp only [execOp, ho, resolve, invoke, builtin, Sem.run_bind, Sem.run_pure, Result.andThen_ok, List.map_toArray, List.map_cons, List.map_nil, hx, Builtin.clear_]
  cases a <;> simp [Und.run])
end
end Go.XG
