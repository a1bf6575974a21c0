/- The law, over plain values: what the two functions compute is the same. -/
import Derived.Test.YtilemnhdgfhkiaaDoorAtSh
import Derived.Test.YtilemnhdgfhkiaaDoorKp
set_option linter.all false
namespace Go.Proofs.YtilemnhdgfhkiaaDoor.At
open Go Go.Kn

theorem s_Digits_loop (K : Nat) (a0 : Int) : ∀ (k m : Nat) (q0 : Int) (q1 : ByteArray), k < m → q0.natAbs < 10 ^ k → -9223372036854775808 ≤ q0 → q0 ≤ 9223372036854775807 → q1.size + k ≤ 1000 →
    s_Digits.l0 K a0 m q0 q1 = some (⟨((if a0 < 0 then [45] else []) ++ (digs q0.natAbs ++ q1.data.toList)).toArray⟩, ()) := by
  have fin : ∀ (m : Nat) (q1 : ByteArray), 0 < m → q1.size ≤ 1000 → s_Digits.l0 K a0 m 0 q1 = some (⟨((if a0 < 0 then [45] else []) ++ (digs 0 ++ q1.data.toList)).toArray⟩, ()) := by
    intro m q1 hm hq
    obtain ⟨m, rfl⟩ : ∃ x, m = x + 1 := ⟨m - 1, by omega⟩
    show s_Digits.l0b K a0 (s_Digits.l0 K a0 m) 0 q1 = _
    unfold s_Digits.l0b
    rw [bif_nf rfl]
    by_cases ha : a0 < 0
    · rw [bif_t ha, bif_fit (by rw [bs_size]; simp; omega), if_pos ha]; rfl
    · rw [bif_f ha, if_neg ha]; rfl
  intro k
  induction k with
  | zero =>
    intro m q0 q1 hm h _ _ hq
    have h0 : q0 = 0 := by simp at h; omega
    subst h0
    exact fin m q1 hm (by omega)
  | succ k ih =>
    intro m q0 q1 hm h hb0 hb1 hq
    by_cases h0 : q0 = 0
    · subst h0
      exact fin m q1 (by omega) (by omega)
    obtain ⟨m, rfl⟩ : ∃ x, m = x + 1 := ⟨m - 1, by omega⟩
    show s_Digits.l0b K a0 (s_Digits.l0 K a0 m) q0 q1 = _
    unfold s_Digits.l0b
    rw [bif_nt h0]
    have hlt : q0.natAbs / 10 < 10 ^ k := by rw [Nat.pow_succ] at h; omega
    have hd : (Int.tdiv q0 10).natAbs = q0.natAbs / 10 := by rw [Int.natAbs_tdiv]; rfl
    have hw : IntKind.i64.wrap (Int.tdiv q0 10) = Int.tdiv q0 10 := w64 (by omega) (by omega)
    have hm0 := Int.tmod_add_mul_tdiv q0 10
    have hm2 : (Int.tmod q0 10).natAbs = q0.natAbs % 10 := by rw [Int.natAbs_tmod]; rfl
    have hsz : ∀ c, (strOf [c]).size = 1 := fun c => by rw [← size_list, strOf_list]; rfl
    have key : ∀ c : Int, c = ((48 + q0.natAbs % 10 : Nat) : Int) → (bif sfit (strOf [c]) q1 then s_Digits.l0 K a0 m (IntKind.i64.wrap (Int.tdiv q0 10)) (sapp (strOf [c]) q1) else none) = some (⟨((if a0 < 0 then [45] else []) ++ (digs q0.natAbs ++ q1.data.toList)).toArray⟩, ()) := by
      intro c hc
      subst hc
      rw [bif_fit (by rw [hsz]; omega), hw, ih _ _ _ (by omega) (by omega) (by omega) (by omega) (by rw [sapp_size, hsz]; omega), hd, sapp_list, strOf_list]
      have : digs q0.natAbs = digs (q0.natAbs / 10) ++ [UInt8.ofNat (48 + q0.natAbs % 10)] := digs_step (by omega)
      rw [this, List.map_cons, List.map_nil, Int.toNat_natCast, List.append_assoc]
    by_cases hn : Int.tmod q0 10 < 0
    · rw [bif_t hn]
      refine key _ ?_
      rw [w64 (n := 0 - Int.tmod q0 10) (by omega) (by omega), w64 (by omega) (by omega), w8 (by omega) (by omega)]
      omega
    · rw [bif_f hn]
      refine key _ ?_
      rw [w64 (n := 48 + Int.tmod q0 10) (by omega) (by omega), w8 (by omega) (by omega)]
      omega

theorem s_Digits_ok {K : Nat} (hK : 100 ≤ K) {n : Int} (h0 : -9223372036854775808 ≤ n) (h1 : n ≤ 9223372036854775807) : s_Digits K n = some (itoaB n, ()) := by
  unfold s_Digits s_Digits.b
  by_cases h : n = 0
  · subst h
    rw [bif_t rfl]
    refine congrArg some (Prod.ext (ba_ext ?_) rfl)
    rw [itoaB_list, bs_list]
    simp [Lib.itoa, Lib.decDigits]
  · rw [bif_f h, s_Digits_loop K n 19 K n ByteArray.empty (by omega) (by omega) h0 h1 (by decide)]
    refine congrArg some (Prod.ext (ba_ext ?_) rfl)
    rw [itoaB_list, itoa_digs n h]
    show (if n < 0 then [45] else []) ++ (digs n.natAbs ++ []) = _
    rw [List.append_nil]
    split <;> rfl

theorem texts {K : Nat} (hK : 100 ≤ K) (a : TAnswer) (h1 : -9223372036854775808 ≤ a.2.1) (h2 : a.2.1 ≤ 9223372036854775807) (hs : a.2.2.1.size ≤ 2000000) (ht : a.2.2.2.size ≤ 2000000) :
    ∃ s : ByteArray, s_AnswerText K a = some (s, ()) ∧ i_AnswerText a = some (s, ()) := by
  have hd := itoaB_size h1 h2
  have e1 := s_Digits_ok hK h1 h2
  have e2 : i_Digits a.2.1 = some (itoaB a.2.1, ()) := by
    unfold i_Digits
    rw [lItoa_ok h1 h2]; rfl
  unfold s_AnswerText i_AnswerText
  by_cases hc : 0 ≤ a.1 ∧ a.1 ≤ 9
  · have w1 : s_l1In a.1 0 9 = some (true, ()) := by
      unfold s_l1In; rw [bif_t (by omega), decide_eq_true hc.2]
    have w2 : i_within a.1 0 9 = some (true, ()) := by
      unfold i_within; rw [bif_t (by omega), decide_eq_true hc.2]
    rw [bind_ok w1, bind_ok w2]
    simp only [cond_true]
    have hx : ∀ i, (([(bs [100, 111, 110, 101]), (bs [97, 103, 97, 105, 110]), (bs [111, 108, 100]), (bs [103, 97, 112]), (bs [102, 101, 110, 99, 101, 100]), (bs [114, 111, 119]), (bs [108, 111, 119]), (bs [101, 110, 100]), (bs [102, 117, 108, 108]), (bs [103, 114, 111, 117, 112])] : List ByteArray).getD i ByteArray.empty).size ≤ 10 := by
      intro i
      rw [List.getD_eq_getElem?_getD]
      rcases i with _ | _ | _ | _ | _ | _ | _ | _ | _ | _ | i <;> first | decide | exact Nat.zero_le _
    generalize hX : ([(bs [100, 111, 110, 101]), (bs [97, 103, 97, 105, 110]), (bs [111, 108, 100]), (bs [103, 97, 112]), (bs [102, 101, 110, 99, 101, 100]), (bs [114, 111, 119]), (bs [108, 111, 119]), (bs [101, 110, 100]), (bs [102, 117, 108, 108]), (bs [103, 114, 111, 117, 112])] : List ByteArray).getD (Int.toNat a.1) ByteArray.empty = X
    have hX' : X.size ≤ 10 := hX ▸ hx _
    rw [bif_t hc.1, bif_t hc.1, bif_t (show a.1 < 10 by omega), bif_t (show a.1 < 10 by omega)]
    apply Exists.intro
    apply And.intro
    · rw [bif_fit (by simp only [bs_size, List.length_cons, List.length_nil]; omega), bind_ok e1]
      repeat rw [bif_fit (by simp only [sapp_size, bs_size, List.length_cons, List.length_nil]; omega)]
    · rw [bif_fit (by simp only [bs_size, List.length_cons, List.length_nil]; omega), bind_ok e2]
      repeat rw [bif_fit (by simp only [sapp_size, bs_size, List.length_cons, List.length_nil]; omega)]
  · have w1 : s_l1In a.1 0 9 = some (false, ()) := by
      unfold s_l1In
      by_cases h : a.1 ≥ 0
      · rw [bif_t h, decide_eq_false (by omega)]
      · rw [bif_f h]
    have w2 : i_within a.1 0 9 = some (false, ()) := by
      unfold i_within
      by_cases h : a.1 ≥ 0
      · rw [bif_t h, decide_eq_false (by omega)]
      · rw [bif_f h]
    rw [bind_ok w1, bind_ok w2]
    simp only [cond_false]
    apply Exists.intro
    apply And.intro
    · rw [bif_fit (by simp only [bs_size, List.length_cons, List.length_nil]; omega), bind_ok e1]
      repeat rw [bif_fit (by simp only [sapp_size, bs_size, List.length_cons, List.length_nil]; omega)]
    · rw [bif_fit (by simp only [bs_size, List.length_cons, List.length_nil]; omega), bind_ok e2]
      repeat rw [bif_fit (by simp only [sapp_size, bs_size, List.length_cons, List.length_nil]; omega)]

theorem sz_ok (a : TAnswer) (r : Int) (h : l_szAnswer a 1048576 = some (r, ())) (h0 : 0 ≤ r) (h1 : a.2.2.1.size ≤ 9223372036854775807) (h2 : a.2.2.2.size ≤ 9223372036854775807) : a.2.2.1.size ≤ 2000000 ∧ a.2.2.2.size ≤ 2000000 := by
  unfold l_szAnswer at h
  rw [w64 (n := 1048576 - _) (by omega) (by omega)] at h
  by_cases c1 : (1048576 : Int) - (a.2.2.1.size : Nat) < 0
  · rw [bif_t c1] at h
    simp only [Option.some.injEq, Prod.mk.injEq] at h
    omega
  · rw [bif_f c1, w64 (by omega) (by omega)] at h
    by_cases c2 : (1048576 : Int) - (a.2.2.1.size : Nat) - (a.2.2.2.size : Nat) < 0
    · rw [bif_t c2] at h
      simp only [Option.some.injEq, Prod.mk.injEq] at h
      omega
    · exact ⟨by omega, by omega⟩

theorem law {K : Nat} (hK : 100 ≤ K) (a : TAnswer) (h : wfE eAnswer a) : ∃ u, l_FnExactAnswerText K a = some (true, u) := by
  obtain ⟨_, ⟨h1, h2⟩, h3, h4⟩ := h
  have h3 : a.2.2.1.size ≤ 9223372036854775807 := h3
  have h4 : a.2.2.2.size ≤ 9223372036854775807 := h4
  have h1 : -9223372036854775808 ≤ a.2.1 := h1
  have h2 : a.2.1 ≤ 9223372036854775807 := h2
  unfold l_FnExactAnswerText
  obtain ⟨r, hr⟩ : ∃ r, l_szAnswer a 1048576 = some (r, ()) := by
    unfold l_szAnswer
    cases decide (IntKind.i64.wrap (1048576 - (a.2.2.1.size : Nat)) < 0) <;> simp only [cond_true, cond_false]
    · cases decide (IntKind.i64.wrap (IntKind.i64.wrap (1048576 - (a.2.2.1.size : Nat)) - (a.2.2.2.size : Nat)) < 0) <;> exact ⟨_, rfl⟩
    · exact ⟨_, rfl⟩
  rw [bind_ok hr]
  by_cases hn : r < 0
  · exact ⟨(), bif_t hn⟩
  · obtain ⟨k1, k2⟩ := sz_ok a r hr (by omega) h3 h4
    obtain ⟨s, e1, e2⟩ := texts hK a h1 h2 k1 k2
    refine ⟨(), ?_⟩
    rw [bif_f hn, bind_ok (show l_toAnswer a = some (a, ()) from rfl), bind_ok e1, bind_ok (show l_toAnswer a = some (a, ()) from rfl), bind_ok e2, bif_nf rfl]

end Go.Proofs.YtilemnhdgfhkiaaDoor.At
