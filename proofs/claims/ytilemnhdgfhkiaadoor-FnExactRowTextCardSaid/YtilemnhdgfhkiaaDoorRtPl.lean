/- The law, over plain values: what the two functions compute is the same. -/
import Derived.Test.YtilemnhdgfhkiaaDoorRtPf
import Derived.Test.YtilemnhdgfhkiaaDoorKp
set_option linter.all false
set_option maxRecDepth 100000
namespace Go.Proofs.YtilemnhdgfhkiaaDoor.Rt
open Go Go.Kn

theorem s_Digits_loop (K : Nat) (a0 : Int) : ∀ (k m : Nat) (q0 : Int) (q1 : ByteArray), k < m → q0.natAbs < 10 ^ k → -9223372036854775808 ≤ q0 → q0 ≤ 9223372036854775807 → q1.size + k ≤ 1000 →
    s_Digits.l0 K a0 m q0 q1 = some (⟨((if a0 < 0 then [45] else []) ++ (digs q0.natAbs ++ q1.data.toList)).toArray⟩, ()) := by
  have fin : ∀ (m : Nat) (q1 : ByteArray), 0 < m → q1.size ≤ 1000 → s_Digits.l0 K a0 m 0 q1 = some (⟨((if a0 < 0 then [45] else []) ++ (digs 0 ++ q1.data.toList)).toArray⟩, ()) := by
    intro m q1 hm hq
    obtain ⟨m, rfl⟩ : ∃ x, m = x + 1 := ⟨m - 1, by omega⟩
    show s_Digits.l0b K a0 (s_Digits.l0 K a0 m) 0 q1 = _
    unfold s_Digits.l0b
    rw [bif_nf rfl]
    by_cases ha : a0 < 0
    · rw [bif_t ha, bif_fit (by rw [bs_size]; simp; omega), if_pos ha]; rfl
    · rw [bif_f ha, if_neg ha]; rfl
  intro k
  induction k with
  | zero =>
    intro m q0 q1 hm h _ _ hq
    have h0 : q0 = 0 := by simp at h; omega
    subst h0
    exact fin m q1 hm (by omega)
  | succ k ih =>
    intro m q0 q1 hm h hb0 hb1 hq
    by_cases h0 : q0 = 0
    · subst h0
      exact fin m q1 (by omega) (by omega)
    obtain ⟨m, rfl⟩ : ∃ x, m = x + 1 := ⟨m - 1, by omega⟩
    show s_Digits.l0b K a0 (s_Digits.l0 K a0 m) q0 q1 = _
    unfold s_Digits.l0b
    rw [bif_nt h0]
    have hlt : q0.natAbs / 10 < 10 ^ k := by rw [Nat.pow_succ] at h; omega
    have hd : (Int.tdiv q0 10).natAbs = q0.natAbs / 10 := by rw [Int.natAbs_tdiv]; rfl
    have hw : IntKind.i64.wrap (Int.tdiv q0 10) = Int.tdiv q0 10 := w64 (by omega) (by omega)
    have hm0 := Int.tmod_add_mul_tdiv q0 10
    have hm2 : (Int.tmod q0 10).natAbs = q0.natAbs % 10 := by rw [Int.natAbs_tmod]; rfl
    have hsz : ∀ c, (strOf [c]).size = 1 := fun c => by rw [← size_list, strOf_list]; rfl
    have key : ∀ c : Int, c = ((48 + q0.natAbs % 10 : Nat) : Int) → (bif sfit (strOf [c]) q1 then s_Digits.l0 K a0 m (IntKind.i64.wrap (Int.tdiv q0 10)) (sapp (strOf [c]) q1) else none) = some (⟨((if a0 < 0 then [45] else []) ++ (digs q0.natAbs ++ q1.data.toList)).toArray⟩, ()) := by
      intro c hc
      subst hc
      rw [bif_fit (by rw [hsz]; omega), hw, ih _ _ _ (by omega) (by omega) (by omega) (by omega) (by rw [sapp_size, hsz]; omega), hd, sapp_list, strOf_list]
      have : digs q0.natAbs = digs (q0.natAbs / 10) ++ [UInt8.ofNat (48 + q0.natAbs % 10)] := digs_step (by omega)
      rw [this, List.map_cons, List.map_nil, Int.toNat_natCast, List.append_assoc]
    by_cases hn : Int.tmod q0 10 < 0
    · rw [bif_t hn]
      refine key _ ?_
      rw [w64 (n := 0 - Int.tmod q0 10) (by omega) (by omega), w64 (by omega) (by omega), w8 (by omega) (by omega)]
      omega
    · rw [bif_f hn]
      refine key _ ?_
      rw [w64 (n := 48 + Int.tmod q0 10) (by omega) (by omega), w8 (by omega) (by omega)]
      omega

theorem s_Digits_ok {K : Nat} (hK : 100 ≤ K) {n : Int} (h0 : -9223372036854775808 ≤ n) (h1 : n ≤ 9223372036854775807) : s_Digits K n = some (itoaB n, ()) := by
  unfold s_Digits s_Digits.b
  by_cases h : n = 0
  · subst h
    rw [bif_t rfl]
    refine congrArg some (Prod.ext (ba_ext ?_) rfl)
    rw [itoaB_list, bs_list]
    simp [Lib.itoa, Lib.decDigits]
  · rw [bif_f h, s_Digits_loop K n 19 K n ByteArray.empty (by omega) (by omega) h0 h1 (by decide)]
    refine congrArg some (Prod.ext (ba_ext ?_) rfl)
    rw [itoaB_list, itoa_digs n h]
    show (if n < 0 then [45] else []) ++ (digs n.natAbs ++ []) = _
    rw [List.append_nil]
    split <;> rfl

theorem i_Digits_ok {n : Int} (h0 : -9223372036854775808 ≤ n) (h1 : n ≤ 9223372036854775807) : i_Digits n = some (itoaB n, ()) := by
  unfold i_Digits
  rw [bind_ok (lItoa_ok h0 h1)]

def itemT (x : TItem) : List UInt8 := 32 :: (Lib.itoa x.1 ++ (58 :: 60 :: (x.2.1.data.toList ++ [62])))
def need (l : List TItem) : Nat := (l.map fun x => 30 + x.2.1.data.toList.length).sum

theorem s_loop {K : Nat} (hK : 2097152 ≤ K) (a : TRow) (hw : wfE (.sl eItem) a.2.2) (hn : a.2.2.length ≤ 1048576) : ∀ (d i : Nat) (q : List UInt8) (n : Nat), i + d = a.2.2.length → d < n → q.length + need (a.2.2.drop i) ≤ 4611686018427387904 →
    s_RowText.l0 K a n (bs q) (i : Int) = some (bs (q ++ (a.2.2.drop i).flatMap itemT), ()) := by
  intro d
  induction d with
  | zero =>
    intro i q n hi hd hq
    obtain ⟨n, rfl⟩ : ∃ m, n = m + 1 := ⟨n - 1, by omega⟩
    show s_RowText.l0b K a (s_RowText.l0 K a n) (bs q) (i : Int) = _
    unfold s_RowText.l0b
    rw [bif_f (by omega), List.drop_of_length_le (by omega), List.flatMap_nil, List.append_nil]
  | succ d ih =>
    intro i q n hi hd hq
    obtain ⟨n, rfl⟩ : ∃ m, n = m + 1 := ⟨n - 1, by omega⟩
    have hlt : i < a.2.2.length := by omega
    have hm := List.getElem_mem hlt
    rw [List.drop_eq_getElem_cons hlt] at hq ⊢
    simp only [need, List.map_cons, List.sum_cons] at hq
    obtain ⟨hb, _⟩ := hw.2 _ hm
    have hd1 : s_Digits K (a.2.2[i]).1 = some (itoaB (a.2.2[i]).1, ()) := s_Digits_ok (K := K) (by omega) hb.1 hb.2
    have hl : (Lib.itoa (a.2.2[i]).1).length ≤ 20 := itoa_len hb.1 hb.2
    show s_RowText.l0b K a (s_RowText.l0 K a n) (bs q) (i : Int) = _
    unfold s_RowText.l0b
    rw [bif_t (by omega), bif_fitl (by simp only [List.length_cons, List.length_nil]; omega), bif_t (by omega), bif_t (by omega), Int.toNat_natCast, getD_get hlt, bind_ok hd1]
    simp only [itoaB_bs, sapp_bs, sapp_bs_r, bs_list]
    rw [bif_fitl (by simp only [List.length_append, List.length_cons, List.length_nil]; omega), bif_fitl (by simp only [List.length_append, List.length_cons, List.length_nil]; omega), bif_t (by omega), bif_t (by omega),
      bif_fitr (by simp only [List.length_append, List.length_cons, List.length_nil]; omega), bif_fitl (by simp only [List.length_append, List.length_cons, List.length_nil]; omega), w64_succ (by omega)]
    rw [ih (i + 1) _ n (by omega) (by omega) (by simp only [need, List.length_append, List.length_cons, List.length_nil]; omega)]
    simp only [List.flatMap_cons, itemT, List.append_assoc, List.cons_append, List.nil_append]

theorem i_loop {K : Nat} (hK : 2097152 ≤ K) (a : TRow) (hw : wfE (.sl eItem) a.2.2) (hn : a.2.2.length ≤ 1048576) : ∀ (d i : Nat) (q : List UInt8) (n : Nat), i + d = a.2.2.length → d < n → q.length + need (a.2.2.drop i) ≤ 4611686018427387904 →
    i_RowText.l0 K a n (bs q) (i : Int) = some (bs (q ++ (a.2.2.drop i).flatMap itemT), ()) := by
  intro d
  induction d with
  | zero =>
    intro i q n hi hd hq
    obtain ⟨n, rfl⟩ : ∃ m, n = m + 1 := ⟨n - 1, by omega⟩
    show i_RowText.l0b K a (i_RowText.l0 K a n) (bs q) (i : Int) = _
    unfold i_RowText.l0b
    rw [bif_f (by omega), List.drop_of_length_le (by omega), List.flatMap_nil, List.append_nil]
  | succ d ih =>
    intro i q n hi hd hq
    obtain ⟨n, rfl⟩ : ∃ m, n = m + 1 := ⟨n - 1, by omega⟩
    have hlt : i < a.2.2.length := by omega
    have hm := List.getElem_mem hlt
    rw [List.drop_eq_getElem_cons hlt] at hq ⊢
    simp only [need, List.map_cons, List.sum_cons] at hq
    obtain ⟨hb, _⟩ := hw.2 _ hm
    have hd1 : i_Digits (a.2.2[i]).1 = some (itoaB (a.2.2[i]).1, ()) := i_Digits_ok hb.1 hb.2
    have hl : (Lib.itoa (a.2.2[i]).1).length ≤ 20 := itoa_len hb.1 hb.2
    show i_RowText.l0b K a (i_RowText.l0 K a n) (bs q) (i : Int) = _
    unfold i_RowText.l0b
    rw [bif_t (by omega), bif_t (by omega), bif_t (by omega), Int.toNat_natCast, getD_get hlt, bind_ok hd1]
    simp only [itoaB_bs, sapp_bs, sapp_bs_r, bs_list]
    rw [bif_fitl (by simp only [List.length_append, List.length_cons, List.length_nil]; omega), bif_fitl (by simp only [List.length_append, List.length_cons, List.length_nil]; omega),
      bif_fitr (by simp only [List.length_append, List.length_cons, List.length_nil]; omega), bif_fitl (by simp only [List.length_append, List.length_cons, List.length_nil]; omega), bif_fitl (by simp only [List.length_append, List.length_cons, List.length_nil]; omega), w64_succ (by omega)]
    rw [ih (i + 1) _ n (by omega) (by omega) (by simp only [need, List.length_append, List.length_cons, List.length_nil]; omega)]
    simp only [List.flatMap_cons, itemT, List.append_assoc, List.cons_append, List.nil_append]

theorem need_le : ∀ l : List TItem, need l ≤ 30 * l.length + (l.map (wt eItem)).sum
  | [] => Nat.le_refl _
  | x :: l => by
    have := need_le l
    have e : wt eItem x = 0 + (x.2.1.size + (x.2.2.1.size + (0 + 0))) := rfl
    simp only [need, List.map_cons, List.sum_cons, List.length_cons] at this ⊢
    rw [size_list]
    omega

theorem texts {K : Nat} (hK : 2097152 ≤ K) (a : TRow) (hw : wfE eRow a) (hs : wt eRow a ≤ 1048576) : ∃ s : ByteArray, s_RowText K a = some (s, ()) ∧ i_RowText K a = some (s, ()) := by
  have e0 : wt eRow a = 0 + (0 + wt (.sl eItem) a.2.2) := rfl
  have e1 : wt (.sl eItem) a.2.2 = a.2.2.length + (a.2.2.map (wt eItem)).sum := rfl
  have hn : a.2.2.length ≤ 1048576 := by omega
  have hneed := need_le a.2.2
  obtain ⟨⟨a1, a2⟩, ⟨b1, b2⟩, hl⟩ := hw
  have a1 : -9223372036854775808 ≤ a.1 := a1
  have a2 : a.1 ≤ 9223372036854775807 := a2
  have b1 : -9223372036854775808 ≤ a.2.1 := b1
  have b2 : a.2.1 ≤ 9223372036854775807 := b2
  have d1 := itoa_len a1 a2
  have d2 := itoa_len b1 b2
  have d3 := itoa_len (n := ((a.2.2.length : Nat) : Int)) (by omega) (by omega)
  have S := fun q hq => s_loop hK a hl hn a.2.2.length 0 q K (by omega) (by omega) hq
  have I := fun q hq => i_loop hK a hl hn a.2.2.length 0 q K (by omega) (by omega) hq
  unfold s_RowText s_RowText.b i_RowText i_RowText.b
  rw [bind_ok (s_Digits_ok (K := K) (by omega) a1 a2), bind_ok (i_Digits_ok a1 a2)]
  rw [bind_ok (s_Digits_ok (K := K) (by omega) b1 b2), bind_ok (i_Digits_ok b1 b2)]
  rw [bind_ok (s_Digits_ok (K := K) (by omega) (n := ((a.2.2.length : Nat) : Int)) (by omega) (by omega)), bind_ok (i_Digits_ok (n := ((a.2.2.length : Nat) : Int)) (by omega) (by omega))]
  simp only [itoaB_bs, sapp_bs]
  rw [bif_fitl (by simp only [List.length_append, List.length_cons, List.length_nil]; omega), bif_fitl (by simp only [List.length_append, List.length_cons, List.length_nil]; omega)]
  rw [bif_fitl (by simp only [List.length_append, List.length_cons, List.length_nil]; omega), bif_fitl (by simp only [List.length_append, List.length_cons, List.length_nil]; omega)]
  rw [bif_fitl (by simp only [List.length_append, List.length_cons, List.length_nil]; omega), bif_fitl (by simp only [List.length_append, List.length_cons, List.length_nil]; omega)]
  rw [bif_fitl (by simp only [List.length_append, List.length_cons, List.length_nil]; omega), bif_fitl (by simp only [List.length_append, List.length_cons, List.length_nil]; omega)]
  have hz : ∀ q : List UInt8, q.length ≤ 1000 → q.length + need (a.2.2.drop 0) ≤ 4611686018427387904 := fun q hq => by rw [List.drop_zero]; omega
  exact ⟨_, S _ (hz _ (by simp only [List.length_append, List.length_cons, List.length_nil]; omega)), I _ (hz _ (by simp only [List.length_append, List.length_cons, List.length_nil]; omega))⟩

theorem law {K : Nat} (hK : 2097152 ≤ K) (a : TRow) (hw : wfE eRow a) : ∃ u, l_FnExactRowText K a = some (true, u) := by
  unfold l_FnExactRowText
  obtain ⟨r, e, b, c⟩ := sz_Row hK a hw 1048576 (by decide) (by decide)
  rw [bind_ok e]
  by_cases hn : r < 0
  · exact ⟨(), bif_t hn⟩
  have hwt : wt eRow a ≤ 1048576 := by have := c (by omega); omega
  have hs : small eRow a := small_of _ _ hwt
  have ht := to_Row hK a hs
  obtain ⟨s, e1, e2⟩ := texts hK a hw hwt
  exact ⟨(), by rw [bif_f hn, bind_ok ht, bind_ok e1, bind_ok ht, bind_ok e2, bif_nf rfl, bind_ok ht, bind_ok (eq_Row hK a hs), bif_ntrue]⟩

end Go.Proofs.YtilemnhdgfhkiaaDoor.Rt
