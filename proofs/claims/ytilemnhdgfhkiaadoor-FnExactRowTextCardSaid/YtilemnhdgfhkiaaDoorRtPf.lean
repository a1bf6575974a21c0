/- Plain facts of the functions that copy, compare and count arguments. -/
import Derived.Test.YtilemnhdgfhkiaaDoorRtSh
import Derived.Test.YtilemnhdgfhkiaaDoorKp
set_option linter.all false
set_option maxRecDepth 100000
namespace Go.Proofs.YtilemnhdgfhkiaaDoor.Rt
open Go Go.Kn

theorem sz_Item (a : TItem) (hw : wfE eItem a) (q : Int) (h0 : 0 ≤ q) (h1 : q ≤ 1048576) : ∃ r, l_szItem a q = some (r, ()) ∧ r ≤ q ∧ (0 ≤ r → (wt eItem a : Int) + r ≤ q) := by
  have hwt : wt eItem a = 0 + (a.2.1.size + (a.2.2.1.size + (0 + (0)))) := rfl
  unfold l_szItem
  have s1 : a.2.1.size ≤ 9223372036854775807 := hw.2.1
  rw [w64 (n := q - ((a.2.1.size : Nat) : Int)) (by omega) (by omega)]
  by_cases n1 : q - ((a.2.1.size : Nat) : Int) < 0
  · exact ⟨-1, bif_t n1, by omega, fun h => by omega⟩
  rw [bif_f n1]
  have s2 : a.2.2.1.size ≤ 9223372036854775807 := hw.2.2.1
  rw [w64 (n := (q - ((a.2.1.size : Nat) : Int)) - ((a.2.2.1.size : Nat) : Int)) (by omega) (by omega)]
  by_cases n2 : (q - ((a.2.1.size : Nat) : Int)) - ((a.2.2.1.size : Nat) : Int) < 0
  · exact ⟨-1, bif_t n2, by omega, fun h => by omega⟩
  rw [bif_f n2]
  exact ⟨((q - ((a.2.1.size : Nat) : Int)) - ((a.2.2.1.size : Nat) : Int)), rfl, by omega, fun _ => by rw [hwt]; push_cast; omega⟩
theorem sz_ItemS {K : Nat} (hK : 2097152 ≤ K) (a : List TItem) (hw : wfE (.sl eItem) a) (q : Int) (h0 : 0 ≤ q) (h1 : q ≤ 1048576) : ∃ r, l_szItemS K a q = some (r, ()) ∧ r ≤ q ∧ (0 ≤ r → (wt (.sl eItem) a : Int) + r ≤ q) := by
  unfold l_szItemS l_szItemS.b
  refine sz_start (x := eItem) (L := fun q0 i => l_szItemS.l0 K a q K q0 i) hw.1 h0 h1 fun hn q0 h2 h3 => ?_
  exact sz_loop (x := eItem) (a := a) (z := zItem) (f := l_szItem) (fun v hv q h0 h1 => sz_Item v (hw.2 v hv) q h0 h1) hn (L := l_szItemS.l0 K a q) (fun _ _ _ => rfl) a.length 0 q0 K (by omega) (by omega) h2 h3
theorem sz_Row {K : Nat} (hK : 2097152 ≤ K) (a : TRow) (hw : wfE eRow a) (q : Int) (h0 : 0 ≤ q) (h1 : q ≤ 1048576) : ∃ r, l_szRow K a q = some (r, ()) ∧ r ≤ q ∧ (0 ≤ r → (wt eRow a : Int) + r ≤ q) := by
  have hwt : wt eRow a = 0 + (0 + (wt (.sl eItem) a.2.2)) := rfl
  unfold l_szRow
  obtain ⟨r2, e2, b2, c2⟩ := sz_ItemS hK a.2.2 hw.2.2 q (by omega) (by omega)
  rw [bind_ok e2]
  by_cases n2 : r2 < 0
  · exact ⟨-1, bif_t n2, by omega, fun h => by omega⟩
  have c2 := c2 (by omega)
  rw [bif_f n2]
  exact ⟨r2, rfl, by omega, fun _ => by rw [hwt]; push_cast; omega⟩
theorem to_Item (a : TItem) (h : small eItem a) : l_toItem a = some (a, ()) := by
  unfold l_toItem
  rfl
theorem to_ItemS {K : Nat} (hK : 2097152 ≤ K) (a : List TItem) (h : small (.sl eItem) a) : l_toItemS K a = some (a, ()) := by
  unfold l_toItemS l_toItemS.b
  exact to_start (L := l_toItemS.l0 K a K) (by decide) h.1 (to_loop (f := l_toItem) (z := zItem) (fun x hx => to_Item x (h.2 x hx)) h.1 (L := l_toItemS.l0 K a) (fun _ _ _ => rfl) a.length 0 _ K (by omega) (by have := h.1; omega) (by simp) (by simp))
theorem to_Row {K : Nat} (hK : 2097152 ≤ K) (a : TRow) (h : small eRow a) : l_toRow K a = some (a, ()) := by
  unfold l_toRow
  rw [bind_ok (to_ItemS hK a.2.2 h.2.2)]
theorem eq_Item (a : TItem) (h : small eItem a) : l_eqItem a a = some (true, ()) := by
  unfold l_eqItem
  rw [bif_nf rfl]
  rw [bif_nf rfl]
  rw [bif_nf rfl]
  rw [bif_nf rfl]
  rw [bif_nf rfl]
theorem eq_ItemS {K : Nat} (hK : 2097152 ≤ K) (a : List TItem) (h : small (.sl eItem) a) : l_eqItemS K a a = some (true, ()) := by
  unfold l_eqItemS l_eqItemS.b
  rw [bif_nf rfl]
  exact (eq_loop (f := l_eqItem) (z := zItem) (fun x hx => eq_Item x (h.2 x hx)) h.1 (L := l_eqItemS.l0 K a a) (fun _ _ => rfl) a.length 0 K (by omega) (by have := h.1; omega))
theorem eq_Row {K : Nat} (hK : 2097152 ≤ K) (a : TRow) (h : small eRow a) : l_eqRow K a a = some (true, ()) := by
  unfold l_eqRow
  rw [bif_nf rfl]
  rw [bif_nf rfl]
  rw [bind_ok (eq_ItemS hK a.2.2 h.2.2)]
  rw [bif_ntrue]

end Go.Proofs.YtilemnhdgfhkiaaDoor.Rt
