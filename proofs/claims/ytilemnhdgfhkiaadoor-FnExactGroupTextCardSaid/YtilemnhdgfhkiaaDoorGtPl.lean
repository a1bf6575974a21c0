/- The law, over plain values: what the two functions compute is the same. -/
import Derived.Test.YtilemnhdgfhkiaaDoorGtPf
import Derived.Test.YtilemnhdgfhkiaaDoorKp
set_option linter.all false
set_option maxRecDepth 100000
namespace Go.Proofs.YtilemnhdgfhkiaaDoor.Gt
open Go Go.Kn

theorem s_Digits_loop (K : Nat) (a0 : Int) : ∀ (k m : Nat) (q0 : Int) (q1 : ByteArray), k < m → q0.natAbs < 10 ^ k → -9223372036854775808 ≤ q0 → q0 ≤ 9223372036854775807 → q1.size + k ≤ 1000 →
    s_Digits.l0 K a0 m q0 q1 = some (⟨((if a0 < 0 then [45] else []) ++ (digs q0.natAbs ++ q1.data.toList)).toArray⟩, ()) := by
  have fin : ∀ (m : Nat) (q1 : ByteArray), 0 < m → q1.size ≤ 1000 → s_Digits.l0 K a0 m 0 q1 = some (⟨((if a0 < 0 then [45] else []) ++ (digs 0 ++ q1.data.toList)).toArray⟩, ()) := by
    intro m q1 hm hq
    obtain ⟨m, rfl⟩ : ∃ x, m = x + 1 := ⟨m - 1, by omega⟩
    show s_Digits.l0b K a0 (s_Digits.l0 K a0 m) 0 q1 = _
    unfold s_Digits.l0b
    rw [bif_nf rfl]
    by_cases ha : a0 < 0
    · rw [bif_t ha, bif_fit (by rw [bs_size]; simp; omega), if_pos ha]; rfl
    · rw [bif_f ha, if_neg ha]; rfl
  intro k
  induction k with
  | zero =>
    intro m q0 q1 hm h _ _ hq
    have h0 : q0 = 0 := by simp at h; omega
    subst h0
    exact fin m q1 hm (by omega)
  | succ k ih =>
    intro m q0 q1 hm h hb0 hb1 hq
    by_cases h0 : q0 = 0
    · subst h0
      exact fin m q1 (by omega) (by omega)
    obtain ⟨m, rfl⟩ : ∃ x, m = x + 1 := ⟨m - 1, by omega⟩
    show s_Digits.l0b K a0 (s_Digits.l0 K a0 m) q0 q1 = _
    unfold s_Digits.l0b
    rw [bif_nt h0]
    have hlt : q0.natAbs / 10 < 10 ^ k := by rw [Nat.pow_succ] at h; omega
    have hd : (Int.tdiv q0 10).natAbs = q0.natAbs / 10 := by rw [Int.natAbs_tdiv]; rfl
    have hw : IntKind.i64.wrap (Int.tdiv q0 10) = Int.tdiv q0 10 := w64 (by omega) (by omega)
    have hm0 := Int.tmod_add_mul_tdiv q0 10
    have hm2 : (Int.tmod q0 10).natAbs = q0.natAbs % 10 := by rw [Int.natAbs_tmod]; rfl
    have hsz : ∀ c, (strOf [c]).size = 1 := fun c => by rw [← size_list, strOf_list]; rfl
    have key : ∀ c : Int, c = ((48 + q0.natAbs % 10 : Nat) : Int) → (bif sfit (strOf [c]) q1 then s_Digits.l0 K a0 m (IntKind.i64.wrap (Int.tdiv q0 10)) (sapp (strOf [c]) q1) else none) = some (⟨((if a0 < 0 then [45] else []) ++ (digs q0.natAbs ++ q1.data.toList)).toArray⟩, ()) := by
      intro c hc
      subst hc
      rw [bif_fit (by rw [hsz]; omega), hw, ih _ _ _ (by omega) (by omega) (by omega) (by omega) (by rw [sapp_size, hsz]; omega), hd, sapp_list, strOf_list]
      have : digs q0.natAbs = digs (q0.natAbs / 10) ++ [UInt8.ofNat (48 + q0.natAbs % 10)] := digs_step (by omega)
      rw [this, List.map_cons, List.map_nil, Int.toNat_natCast, List.append_assoc]
    by_cases hn : Int.tmod q0 10 < 0
    · rw [bif_t hn]
      refine key _ ?_
      rw [w64 (n := 0 - Int.tmod q0 10) (by omega) (by omega), w64 (by omega) (by omega), w8 (by omega) (by omega)]
      omega
    · rw [bif_f hn]
      refine key _ ?_
      rw [w64 (n := 48 + Int.tmod q0 10) (by omega) (by omega), w8 (by omega) (by omega)]
      omega

theorem s_Digits_ok {K : Nat} (hK : 100 ≤ K) {n : Int} (h0 : -9223372036854775808 ≤ n) (h1 : n ≤ 9223372036854775807) : s_Digits K n = some (itoaB n, ()) := by
  unfold s_Digits s_Digits.b
  by_cases h : n = 0
  · subst h
    rw [bif_t rfl]
    refine congrArg some (Prod.ext (ba_ext ?_) rfl)
    rw [itoaB_list, bs_list]
    simp [Lib.itoa, Lib.decDigits]
  · rw [bif_f h, s_Digits_loop K n 19 K n ByteArray.empty (by omega) (by omega) h0 h1 (by decide)]
    refine congrArg some (Prod.ext (ba_ext ?_) rfl)
    rw [itoaB_list, itoa_digs n h]
    show (if n < 0 then [45] else []) ++ (digs n.natAbs ++ []) = _
    rw [List.append_nil]
    split <;> rfl

theorem i_Digits_ok {n : Int} (h0 : -9223372036854775808 ≤ n) (h1 : n ≤ 9223372036854775807) : i_Digits n = some (itoaB n, ()) := by
  unfold i_Digits
  rw [bind_ok (lItoa_ok h0 h1)]

def words : List Int → List Int → List (List UInt8)
  | [], _ => []
  | m :: ms, [] => Lib.itoa m :: words ms []
  | m :: ms, b :: bts => (Lib.itoa m ++ 58 :: Lib.itoa b) :: words ms bts
def tl (r : List (List UInt8)) : List UInt8 := r.flatMap fun x => 32 :: x
def inI (l : List Int) : Prop := ∀ x ∈ l, -9223372036854775808 ≤ x ∧ x ≤ 9223372036854775807

theorem tl_len {r : List (List UInt8)} (h : ∀ x ∈ r, x.length ≤ 50) : (tl r).length ≤ 51 * r.length := by
  induction r with
  | nil => simp [tl]
  | cons x r ih =>
    have h1 := h x (by simp)
    have h2 := ih fun y hy => h y (by simp [hy])
    simp only [tl, List.flatMap_cons, List.length_append, List.length_cons] at h2 ⊢
    omega
theorem tl_append (a b : List (List UInt8)) : tl (a ++ b) = tl a ++ tl b := by simp [tl]
theorem tl_cons (a : List UInt8) (b : List (List UInt8)) : tl (a :: b) = 32 :: (a ++ tl b) := by simp [tl]
theorem join_tl (x : List UInt8) (r : List (List UInt8)) : Lib.join (x :: r) [32] = x ++ tl r := by
  rw [Lib.join_cons]
  simp only [Lib.joinTail, tl, List.flatMap_def]
  rfl

theorem words_len : ∀ {ms bts : List Int}, inI ms → inI bts → (words ms bts).length = ms.length ∧ ∀ x ∈ words ms bts, x.length ≤ 50
  | [], bts, _, _ => by simp [words]
  | m :: ms, [], hm, hb => by
    obtain ⟨k1, k2⟩ := words_len (ms := ms) (bts := []) (fun x hx => hm x (by simp [hx])) hb
    have := hm m (by simp)
    have hl := itoa_len this.1 this.2
    simp only [words, List.length_cons, List.mem_cons]
    exact ⟨by omega, fun x hx => by rcases hx with rfl | hx; omega; exact k2 x hx⟩
  | m :: ms, b :: bts, hm, hb => by
    obtain ⟨k1, k2⟩ := words_len (ms := ms) (bts := bts) (fun x hx => hm x (by simp [hx])) (fun x hx => hb x (by simp [hx]))
    have h1 := hm m (by simp)
    have hl1 := itoa_len h1.1 h1.2
    have h2 := hb b (by simp)
    have hl2 := itoa_len h2.1 h2.2
    simp only [words, List.length_cons, List.mem_cons]
    exact ⟨by omega, fun x hx => by rcases hx with rfl | hx; simp only [List.length_append, List.length_cons]; omega; exact k2 x hx⟩

theorem s_l1 {K : Nat} (hK : 2097152 ≤ K) (a : TGroup) (ho : inI a.2.2.2) (hn : a.2.2.2.length ≤ 1048576) : ∀ (d i : Nat) (q : List UInt8) (n : Nat), i + d = a.2.2.2.length → d < n → q.length + 60 * d ≤ 4611686018427387904 →
    s_GroupText.l1 K a n (bs q) (i : Int) = some (bs (q ++ tl ((a.2.2.2.drop i).map Lib.itoa)), ()) := by
  intro d
  induction d with
  | zero =>
    intro i q n hi hd hq
    obtain ⟨n, rfl⟩ : ∃ m, n = m + 1 := ⟨n - 1, by omega⟩
    show s_GroupText.l1b K a (s_GroupText.l1 K a n) (bs q) (i : Int) = _
    unfold s_GroupText.l1b
    rw [bif_f (by omega), List.drop_of_length_le (by omega)]
    simp [tl]
  | succ d ih =>
    intro i q n hi hd hq
    obtain ⟨n, rfl⟩ : ∃ m, n = m + 1 := ⟨n - 1, by omega⟩
    have hlt : i < a.2.2.2.length := by omega
    have hb := ho _ (List.getElem_mem hlt)
    have hl := itoa_len hb.1 hb.2
    show s_GroupText.l1b K a (s_GroupText.l1 K a n) (bs q) (i : Int) = _
    unfold s_GroupText.l1b
    rw [bif_t (by omega), bif_fitl (by simp only [List.length_cons, List.length_nil]; omega), bif_t (by omega), bif_t (by omega), Int.toNat_natCast, getD_get hlt, bind_ok (s_Digits_ok (K := K) (by omega) hb.1 hb.2)]
    simp only [itoaB_bs, sapp_bs]
    rw [bif_fitl (by simp only [List.length_append, List.length_cons, List.length_nil]; omega), w64_succ (by omega), ih (i + 1) _ n (by omega) (by omega) (by simp only [List.length_append, List.length_cons, List.length_nil]; omega)]
    rw [List.drop_eq_getElem_cons hlt, List.map_cons, tl_cons]
    simp only [List.append_assoc, List.cons_append, List.nil_append]

theorem s_l0 {K : Nat} (hK : 2097152 ≤ K) (a : TGroup) (hm : inI a.2.1) (hbt : inI a.2.2.1) (ho : inI a.2.2.2) (hn : a.2.1.length ≤ 1048576) (hn3 : a.2.2.2.length ≤ 1048576) : ∀ (d i : Nat) (q : List UInt8) (n : Nat), i + d = a.2.1.length → d < n → q.length + 60 * d ≤ 2305843009213693952 →
    s_GroupText.l0 K a n (bs q) (i : Int) = some (bs (q ++ (tl (words (a.2.1.drop i) (a.2.2.1.drop i)) ++ tl ([47] :: a.2.2.2.map Lib.itoa))), ()) := by
  intro d
  induction d with
  | zero =>
    intro i q n hi hd hq
    obtain ⟨n, rfl⟩ : ∃ m, n = m + 1 := ⟨n - 1, by omega⟩
    show s_GroupText.l0b K a (s_GroupText.l0 K a n) (s_GroupText.l1 K a K) (bs q) (i : Int) = _
    unfold s_GroupText.l0b
    rw [bif_f (by omega), bif_fitl (by simp only [List.length_cons, List.length_nil]; omega), sapp_bs, List.drop_of_length_le (by omega)]
    have e := s_l1 hK a ho hn3 a.2.2.2.length 0 (q ++ [32, 47]) K (by omega) (by omega) (by simp only [List.length_append, List.length_cons, List.length_nil]; omega)
    rw [show (0 : Int) = ((0 : Nat) : Int) from rfl, e, List.drop_zero, tl_cons]
    simp [words, tl]
  | succ d ih =>
    intro i q n hi hd hq
    obtain ⟨n, rfl⟩ : ∃ m, n = m + 1 := ⟨n - 1, by omega⟩
    have hlt : i < a.2.1.length := by omega
    have hb := hm _ (List.getElem_mem hlt)
    have hl := itoa_len hb.1 hb.2
    show s_GroupText.l0b K a (s_GroupText.l0 K a n) (s_GroupText.l1 K a K) (bs q) (i : Int) = _
    unfold s_GroupText.l0b
    rw [bif_t (by omega), bif_fitl (by simp only [List.length_cons, List.length_nil]; omega), bif_t (by omega), bif_t (by omega), Int.toNat_natCast, getD_get hlt, bind_ok (s_Digits_ok (K := K) (by omega) hb.1 hb.2)]
    simp only [itoaB_bs, sapp_bs]
    rw [bif_fitl (by simp only [List.length_append, List.length_cons, List.length_nil]; omega)]
    rw [List.drop_eq_getElem_cons hlt]
    by_cases hc : i < a.2.2.1.length
    · have hb2 := hbt _ (List.getElem_mem hc)
      have hl2 := itoa_len hb2.1 hb2.2
      rw [bif_t (by omega), bif_fitl (by simp only [List.length_append, List.length_cons, List.length_nil]; omega), bif_t (by omega), bif_t (by omega), getD_get hc, bind_ok (s_Digits_ok (K := K) (by omega) hb2.1 hb2.2)]
      simp only [itoaB_bs, sapp_bs]
      rw [bif_fitl (by simp only [List.length_append, List.length_cons, List.length_nil]; omega), w64_succ (by omega), ih (i + 1) _ n (by omega) (by omega) (by simp only [List.length_append, List.length_cons, List.length_nil]; omega)]
      rw [List.drop_eq_getElem_cons hc, words, tl_cons (_ ++ _)]
      simp only [List.append_assoc, List.cons_append, List.nil_append]
    · rw [bif_f (by omega), w64_succ (by omega), ih (i + 1) _ n (by omega) (by omega) (by simp only [List.length_append, List.length_cons, List.length_nil]; omega)]
      rw [List.drop_of_length_le (i := i) (l := a.2.2.1) (by omega), List.drop_of_length_le (i := i + 1) (l := a.2.2.1) (by omega), words, tl_cons (Lib.itoa _)]
      simp only [List.append_assoc, List.cons_append, List.nil_append]

theorem i_l1 {K : Nat} (hK : 2097152 ≤ K) (a : TGroup) (ho : inI a.2.2.2) (hn : a.2.2.2.length ≤ 1048576) : ∀ (d i : Nat) (q : List (List UInt8)) (n : Nat), i + d = a.2.2.2.length → d < n → q.length + d ≤ 4000000 →
    i_GroupText.l1 K a n (q.map bs) (i : Int) = (lJoin ((q ++ (a.2.2.2.drop i).map Lib.itoa).map bs) (bs [32])).bind fun v => some (v.1, ()) := by
  intro d
  have hg : growTop = 70368744177664 := rfl
  induction d with
  | zero =>
    intro i q n hi hd hq
    obtain ⟨n, rfl⟩ : ∃ m, n = m + 1 := ⟨n - 1, by omega⟩
    show i_GroupText.l1b K a (i_GroupText.l1 K a n) (q.map bs) (i : Int) = _
    unfold i_GroupText.l1b
    rw [bif_f (by omega), List.drop_of_length_le (by omega)]
    simp
  | succ d ih =>
    intro i q n hi hd hq
    obtain ⟨n, rfl⟩ : ∃ m, n = m + 1 := ⟨n - 1, by omega⟩
    have hlt : i < a.2.2.2.length := by omega
    have hb := ho _ (List.getElem_mem hlt)
    show i_GroupText.l1b K a (i_GroupText.l1 K a n) (q.map bs) (i : Int) = _
    unfold i_GroupText.l1b
    rw [bif_t (by omega), bif_t (by omega), bif_t (by omega), Int.toNat_natCast, getD_get hlt, bind_ok (i_Digits_ok hb.1 hb.2), bif_t (by simp only [List.length_map, List.length_cons, List.length_nil]; omega), w64_succ (by omega)]
    rw [show q.map bs ++ [(itoaB a.2.2.2[i], ()).1] = (q ++ [Lib.itoa a.2.2.2[i]]).map bs by simp [itoaB_bs]]
    rw [ih (i + 1) _ n (by omega) (by omega) (by simp only [List.length_append, List.length_cons, List.length_nil]; omega), List.drop_eq_getElem_cons hlt]
    simp only [List.map_cons, List.append_assoc, List.cons_append, List.nil_append]

theorem i_l0 {K : Nat} (hK : 2097152 ≤ K) (a : TGroup) (hm : inI a.2.1) (hbt : inI a.2.2.1) (ho : inI a.2.2.2) (hn : a.2.1.length ≤ 1048576) (hn3 : a.2.2.2.length ≤ 1048576) : ∀ (d i : Nat) (q : List (List UInt8)) (n : Nat), i + d = a.2.1.length → d < n → q.length + d ≤ 2000000 →
    i_GroupText.l0 K a n (q.map bs) (i : Int) = (lJoin ((q ++ (words (a.2.1.drop i) (a.2.2.1.drop i) ++ ([47] :: a.2.2.2.map Lib.itoa))).map bs) (bs [32])).bind fun v => some (v.1, ()) := by
  intro d
  have hg : growTop = 70368744177664 := rfl
  induction d with
  | zero =>
    intro i q n hi hd hq
    obtain ⟨n, rfl⟩ : ∃ m, n = m + 1 := ⟨n - 1, by omega⟩
    show i_GroupText.l0b K a (i_GroupText.l0 K a n) (i_GroupText.l1 K a K) (q.map bs) (i : Int) = _
    unfold i_GroupText.l0b
    rw [bif_f (by omega), bif_t (by simp only [List.length_map, List.length_cons, List.length_nil]; omega), List.drop_of_length_le (by omega)]
    rw [show q.map bs ++ [bs [47]] = (q ++ [[47]]).map bs by simp]
    have e := i_l1 hK a ho hn3 a.2.2.2.length 0 (q ++ [[47]]) K (by omega) (by omega) (by simp only [List.length_append, List.length_cons, List.length_nil]; omega)
    rw [show (0 : Int) = ((0 : Nat) : Int) from rfl, e, List.drop_zero]
    simp only [words, List.append_assoc, List.cons_append, List.nil_append]
  | succ d ih =>
    intro i q n hi hd hq
    obtain ⟨n, rfl⟩ : ∃ m, n = m + 1 := ⟨n - 1, by omega⟩
    have hlt : i < a.2.1.length := by omega
    have hb := hm _ (List.getElem_mem hlt)
    have hl := itoa_len hb.1 hb.2
    show i_GroupText.l0b K a (i_GroupText.l0 K a n) (i_GroupText.l1 K a K) (q.map bs) (i : Int) = _
    unfold i_GroupText.l0b
    rw [bif_t (by omega), bif_t (by omega), bif_t (by omega), Int.toNat_natCast, getD_get hlt, bind_ok (i_Digits_ok hb.1 hb.2)]
    rw [List.drop_eq_getElem_cons hlt]
    by_cases hc : i < a.2.2.1.length
    · have hb2 := hbt _ (List.getElem_mem hc)
      have hl2 := itoa_len hb2.1 hb2.2
      rw [bif_t (by omega), bif_t (by omega), bif_t (by omega), getD_get hc, bind_ok (i_Digits_ok hb2.1 hb2.2)]
      simp only [itoaB_bs, sapp_bs]
      rw [bif_fitl (by simp only [List.length_append, List.length_cons, List.length_nil]; omega), bif_fitl (by simp only [List.length_append, List.length_cons, List.length_nil]; omega), bif_t (by simp only [List.length_map, List.length_cons, List.length_nil]; omega), w64_succ (by omega)]
      rw [show q.map bs ++ [bs (Lib.itoa a.2.1[i] ++ ([58] ++ Lib.itoa a.2.2.1[i]))] = (q ++ [Lib.itoa a.2.1[i] ++ 58 :: Lib.itoa a.2.2.1[i]]).map bs by simp]
      rw [ih (i + 1) _ n (by omega) (by omega) (by simp only [List.length_append, List.length_cons, List.length_nil]; omega)]
      rw [List.drop_eq_getElem_cons hc, words]
      simp only [List.append_assoc, List.cons_append, List.nil_append]
    · rw [bif_f (by omega), bif_t (by simp only [List.length_map, List.length_cons, List.length_nil]; omega), w64_succ (by omega)]
      rw [show q.map bs ++ [(itoaB a.2.1[i], ()).1] = (q ++ [Lib.itoa a.2.1[i]]).map bs by simp [itoaB_bs]]
      rw [ih (i + 1) _ n (by omega) (by omega) (by simp only [List.length_append, List.length_cons, List.length_nil]; omega)]
      rw [List.drop_of_length_le (i := i) (l := a.2.2.1) (by omega), List.drop_of_length_le (i := i + 1) (l := a.2.2.1) (by omega), words]
      simp only [List.append_assoc, List.cons_append, List.nil_append]

theorem lJoin_ok {q : List (List UInt8)} {sep : List UInt8} (h1 : q.length ≤ 140737488355328) (h2 : (Lib.join q sep).length ≤ 140737488355328) : lJoin (q.map bs) (bs sep) = some (bs (Lib.join q sep), ()) := by
  have e : (q.map bs).map (·.data.toList) = q := by
    rw [List.map_map]
    exact (List.map_congr_left fun x _ => rfl).trans (List.map_id _)
  unfold lJoin
  rw [e, List.length_map, bs_list, decide_eq_true h1, decide_eq_true h2]
  rfl

theorem texts {K : Nat} (hK : 2097152 ≤ K) (a : TGroup) (hw : wfE eGroup a) (hs : wt eGroup a ≤ 1048576) : ∃ s : ByteArray, s_GroupText K a = some (s, ()) ∧ i_GroupText K a = some (s, ()) := by
  have e0 : wt eGroup a = 0 + (wt (.sl (.i .i64)) a.2.1 + (wt (.sl (.i .i64)) a.2.2.1 + wt (.sl (.i .i64)) a.2.2.2)) := rfl
  have f1 : wt (.sl (.i .i64)) a.2.1 = a.2.1.length + (a.2.1.map (wt (.i .i64))).sum := rfl
  have f2 : wt (.sl (.i .i64)) a.2.2.1 = a.2.2.1.length + (a.2.2.1.map (wt (.i .i64))).sum := rfl
  have f3 : wt (.sl (.i .i64)) a.2.2.2 = a.2.2.2.length + (a.2.2.2.map (wt (.i .i64))).sum := rfl
  obtain ⟨⟨a1, a2⟩, hm, hb, ho⟩ := hw
  have a1 : -9223372036854775808 ≤ a.1 := a1
  have a2 : a.1 ≤ 9223372036854775807 := a2
  have hm : inI a.2.1 := hm.2
  have hb : inI a.2.2.1 := hb.2
  have ho : inI a.2.2.2 := ho.2
  have d1 := itoa_len a1 a2
  obtain ⟨k1, k2⟩ := words_len hm hb
  have k3 : ∀ x ∈ a.2.2.2.map Lib.itoa, x.length ≤ 50 := fun x hx => by
    obtain ⟨y, hy, rfl⟩ := List.mem_map.1 hx
    have := itoa_len (ho y hy).1 (ho y hy).2
    omega
  have l1 := tl_len k2
  have l2 := tl_len k3
  rw [List.length_map] at l2
  have S := s_l0 hK a hm hb ho (by omega) (by omega) a.2.1.length 0 (Lib.itoa a.1) K (by omega) (by omega) (by omega)
  have I := i_l0 hK a hm hb ho (by omega) (by omega) a.2.1.length 0 [Lib.itoa a.1] K (by omega) (by omega) (by simp only [List.length_cons, List.length_nil]; omega)
  rw [List.drop_zero, List.drop_zero] at S I
  have hj : Lib.join ([Lib.itoa a.1] ++ (words a.2.1 a.2.2.1 ++ ([47] :: a.2.2.2.map Lib.itoa))) [32] = Lib.itoa a.1 ++ (tl (words a.2.1 a.2.2.1) ++ tl ([47] :: a.2.2.2.map Lib.itoa)) := by
    rw [List.singleton_append, join_tl, tl_append]
  unfold s_GroupText s_GroupText.b i_GroupText i_GroupText.b
  rw [bind_ok (s_Digits_ok (K := K) (by omega) a1 a2), bind_ok (i_Digits_ok a1 a2)]
  refine ⟨_, S, ?_⟩
  refine I.trans ?_
  rw [bind_ok (lJoin_ok (by simp only [List.length_append, List.length_cons, List.length_nil, List.length_map]; omega) (by
    rw [hj, tl_cons]
    simp only [List.length_append, List.length_cons, List.length_nil]
    omega)), hj]

theorem law {K : Nat} (hK : 2097152 ≤ K) (a : TGroup) (hw : wfE eGroup a) : ∃ u, l_FnExactGroupText K a = some (true, u) := by
  unfold l_FnExactGroupText
  obtain ⟨r, e, b, c⟩ := sz_Group a hw 1048576 (by decide) (by decide)
  rw [bind_ok e]
  by_cases hn : r < 0
  · exact ⟨(), bif_t hn⟩
  have hwt : wt eGroup a ≤ 1048576 := by have := c (by omega); omega
  have hs : small eGroup a := small_of _ _ hwt
  have ht := to_Group hK a hs
  obtain ⟨s, e1, e2⟩ := texts hK a hw hwt
  exact ⟨(), by rw [bif_f hn, bind_ok ht, bind_ok e1, bind_ok ht, bind_ok e2, bif_nf rfl, bind_ok ht, bind_ok (eq_Group hK a hs), bif_ntrue]⟩

end Go.Proofs.YtilemnhdgfhkiaaDoor.Gt
