/- Plain facts of the functions that copy, compare and count arguments. -/
import Derived.Test.YtilemnhdgfhkiaaDoorGtSh
import Derived.Test.YtilemnhdgfhkiaaDoorKp
set_option linter.all false
set_option maxRecDepth 100000
namespace Go.Proofs.YtilemnhdgfhkiaaDoor.Gt
open Go Go.Kn

theorem sz_IntS (a : List Int) (hw : wfE (.sl (.i .i64)) a) (q : Int) (h0 : 0 ≤ q) (h1 : q ≤ 1048576) : ∃ r, l_szIntS a q = some (r, ()) ∧ r ≤ q ∧ (0 ≤ r → (wt (.sl (.i .i64)) a : Int) + r ≤ q) := by
  unfold l_szIntS
  exact sz_flat (x := (.i .i64)) (fun v => rfl) hw.1 h0 h1
theorem sz_Group (a : TGroup) (hw : wfE eGroup a) (q : Int) (h0 : 0 ≤ q) (h1 : q ≤ 1048576) : ∃ r, l_szGroup a q = some (r, ()) ∧ r ≤ q ∧ (0 ≤ r → (wt eGroup a : Int) + r ≤ q) := by
  have hwt : wt eGroup a = 0 + (wt (.sl (.i .i64)) a.2.1 + (wt (.sl (.i .i64)) a.2.2.1 + (wt (.sl (.i .i64)) a.2.2.2))) := rfl
  unfold l_szGroup
  obtain ⟨r1, e1, b1, c1⟩ := sz_IntS a.2.1 hw.2.1 q (by omega) (by omega)
  rw [bind_ok e1]
  by_cases n1 : r1 < 0
  · exact ⟨-1, bif_t n1, by omega, fun h => by omega⟩
  have c1 := c1 (by omega)
  rw [bif_f n1]
  obtain ⟨r2, e2, b2, c2⟩ := sz_IntS a.2.2.1 hw.2.2.1 r1 (by omega) (by omega)
  rw [bind_ok e2]
  by_cases n2 : r2 < 0
  · exact ⟨-1, bif_t n2, by omega, fun h => by omega⟩
  have c2 := c2 (by omega)
  rw [bif_f n2]
  obtain ⟨r3, e3, b3, c3⟩ := sz_IntS a.2.2.2 hw.2.2.2 r2 (by omega) (by omega)
  rw [bind_ok e3]
  by_cases n3 : r3 < 0
  · exact ⟨-1, bif_t n3, by omega, fun h => by omega⟩
  have c3 := c3 (by omega)
  rw [bif_f n3]
  exact ⟨r3, rfl, by omega, fun _ => by rw [hwt]; push_cast; omega⟩
theorem to_IntS {K : Nat} (hK : 2097152 ≤ K) (a : List Int) (h : small (.sl (.i .i64)) a) : l_toIntS K a = some (a, ()) := by
  unfold l_toIntS l_toIntS.b
  exact to_start (L := l_toIntS.l0 K a K) (by decide) h.1 (to_loop' (z := 0) h.1 (L := l_toIntS.l0 K a) (fun _ _ _ => rfl) a.length 0 _ K (by omega) (by have := h.1; omega) (by simp) (by simp))
theorem to_Group {K : Nat} (hK : 2097152 ≤ K) (a : TGroup) (h : small eGroup a) : l_toGroup K a = some (a, ()) := by
  unfold l_toGroup
  rw [bind_ok (to_IntS hK a.2.1 h.2.1)]
  rw [bind_ok (to_IntS hK a.2.2.1 h.2.2.1)]
  rw [bind_ok (to_IntS hK a.2.2.2 h.2.2.2)]
theorem eq_IntS {K : Nat} (hK : 2097152 ≤ K) (a : List Int) (h : small (.sl (.i .i64)) a) : l_eqIntS K a a = some (true, ()) := by
  unfold l_eqIntS l_eqIntS.b
  rw [bif_nf rfl]
  exact (eq_loop' (f := (fun x y => decide (x = y))) (z := 0) (fun x => by simp) h.1 (L := l_eqIntS.l0 K a a) (fun _ _ => rfl) a.length 0 K (by omega) (by have := h.1; omega))
theorem eq_Group {K : Nat} (hK : 2097152 ≤ K) (a : TGroup) (h : small eGroup a) : l_eqGroup K a a = some (true, ()) := by
  unfold l_eqGroup
  rw [bif_nf rfl]
  rw [bind_ok (eq_IntS hK a.2.1 h.2.1)]
  rw [bif_ntrue]
  rw [bind_ok (eq_IntS hK a.2.2.1 h.2.2.1)]
  rw [bif_ntrue]
  rw [bind_ok (eq_IntS hK a.2.2.2 h.2.2.2)]
  rw [bif_ntrue]

end Go.Proofs.YtilemnhdgfhkiaaDoor.Gt
