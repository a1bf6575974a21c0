/- The law, over plain values: what the two functions compute is the same. -/
import Derived.Test.YtilemnhdgfhkiaaDoorPtPf
import Derived.Test.YtilemnhdgfhkiaaDoorKp
set_option linter.all false
set_option maxRecDepth 100000
namespace Go.Proofs.YtilemnhdgfhkiaaDoor.Pt
open Go Go.Kn

theorem s_Digits_loop (K : Nat) (a0 : Int) : ∀ (k m : Nat) (q0 : Int) (q1 : ByteArray), k < m → q0.natAbs < 10 ^ k → -9223372036854775808 ≤ q0 → q0 ≤ 9223372036854775807 → q1.size + k ≤ 1000 →
    s_Digits.l0 K a0 m q0 q1 = some (⟨((if a0 < 0 then [45] else []) ++ (digs q0.natAbs ++ q1.data.toList)).toArray⟩, ()) := by
  have fin : ∀ (m : Nat) (q1 : ByteArray), 0 < m → q1.size ≤ 1000 → s_Digits.l0 K a0 m 0 q1 = some (⟨((if a0 < 0 then [45] else []) ++ (digs 0 ++ q1.data.toList)).toArray⟩, ()) := by
    intro m q1 hm hq
    obtain ⟨m, rfl⟩ : ∃ x, m = x + 1 := ⟨m - 1, by omega⟩
    show s_Digits.l0b K a0 (s_Digits.l0 K a0 m) 0 q1 = _
    unfold s_Digits.l0b
    rw [bif_nf rfl]
    by_cases ha : a0 < 0
    · rw [bif_t ha, bif_fit (by rw [bs_size]; simp; omega), if_pos ha]; rfl
    · rw [bif_f ha, if_neg ha]; rfl
  intro k
  induction k with
  | zero =>
    intro m q0 q1 hm h _ _ hq
    have h0 : q0 = 0 := by simp at h; omega
    subst h0
    exact fin m q1 hm (by omega)
  | succ k ih =>
    intro m q0 q1 hm h hb0 hb1 hq
    by_cases h0 : q0 = 0
    · subst h0
      exact fin m q1 (by omega) (by omega)
    obtain ⟨m, rfl⟩ : ∃ x, m = x + 1 := ⟨m - 1, by omega⟩
    show s_Digits.l0b K a0 (s_Digits.l0 K a0 m) q0 q1 = _
    unfold s_Digits.l0b
    rw [bif_nt h0]
    have hlt : q0.natAbs / 10 < 10 ^ k := by rw [Nat.pow_succ] at h; omega
    have hd : (Int.tdiv q0 10).natAbs = q0.natAbs / 10 := by rw [Int.natAbs_tdiv]; rfl
    have hw : IntKind.i64.wrap (Int.tdiv q0 10) = Int.tdiv q0 10 := w64 (by omega) (by omega)
    have hm0 := Int.tmod_add_mul_tdiv q0 10
    have hm2 : (Int.tmod q0 10).natAbs = q0.natAbs % 10 := by rw [Int.natAbs_tmod]; rfl
    have hsz : ∀ c, (strOf [c]).size = 1 := fun c => by rw [← size_list, strOf_list]; rfl
    have key : ∀ c : Int, c = ((48 + q0.natAbs % 10 : Nat) : Int) → (bif sfit (strOf [c]) q1 then s_Digits.l0 K a0 m (IntKind.i64.wrap (Int.tdiv q0 10)) (sapp (strOf [c]) q1) else none) = some (⟨((if a0 < 0 then [45] else []) ++ (digs q0.natAbs ++ q1.data.toList)).toArray⟩, ()) := by
      intro c hc
      subst hc
      rw [bif_fit (by rw [hsz]; omega), hw, ih _ _ _ (by omega) (by omega) (by omega) (by omega) (by rw [sapp_size, hsz]; omega), hd, sapp_list, strOf_list]
      have : digs q0.natAbs = digs (q0.natAbs / 10) ++ [UInt8.ofNat (48 + q0.natAbs % 10)] := digs_step (by omega)
      rw [this, List.map_cons, List.map_nil, Int.toNat_natCast, List.append_assoc]
    by_cases hn : Int.tmod q0 10 < 0
    · rw [bif_t hn]
      refine key _ ?_
      rw [w64 (n := 0 - Int.tmod q0 10) (by omega) (by omega), w64 (by omega) (by omega), w8 (by omega) (by omega)]
      omega
    · rw [bif_f hn]
      refine key _ ?_
      rw [w64 (n := 48 + Int.tmod q0 10) (by omega) (by omega), w8 (by omega) (by omega)]
      omega

theorem s_Digits_ok {K : Nat} (hK : 100 ≤ K) {n : Int} (h0 : -9223372036854775808 ≤ n) (h1 : n ≤ 9223372036854775807) : s_Digits K n = some (itoaB n, ()) := by
  unfold s_Digits s_Digits.b
  by_cases h : n = 0
  · subst h
    rw [bif_t rfl]
    refine congrArg some (Prod.ext (ba_ext ?_) rfl)
    rw [itoaB_list, bs_list]
    simp [Lib.itoa, Lib.decDigits]
  · rw [bif_f h, s_Digits_loop K n 19 K n ByteArray.empty (by omega) (by omega) h0 h1 (by decide)]
    refine congrArg some (Prod.ext (ba_ext ?_) rfl)
    rw [itoaB_list, itoa_digs n h]
    show (if n < 0 then [45] else []) ++ (digs n.natAbs ++ []) = _
    rw [List.append_nil]
    split <;> rfl

theorem i_Digits_ok {n : Int} (h0 : -9223372036854775808 ≤ n) (h1 : n ≤ 9223372036854775807) : i_Digits n = some (itoaB n, ()) := by
  unfold i_Digits
  rw [bind_ok (lItoa_ok h0 h1)]

def tl (r : List (List UInt8)) : List UInt8 := r.flatMap fun x => 32 :: x
theorem tl_cons (a : List UInt8) (b : List (List UInt8)) : tl (a :: b) = 32 :: (a ++ tl b) := by simp [tl]
def inI (l : List Int) : Prop := ∀ x ∈ l, -9223372036854775808 ≤ x ∧ x ≤ 9223372036854775807
def vals (a : TPeer) (v : Int) : List Int := [a.2.1.1, v, a.2.2.2.2.2.2.1, a.2.1.2.2.1.1, ((a.2.2.2.2.2.2.2.2.2.length : Nat) : Int)]

theorem s_l0 {K : Nat} (hK : 2097152 ≤ K) (a : TPeer) (v : Int × Int × Unit) (hv : inI (vals a v.1)) : ∀ (d i : Nat) (q : List UInt8) (n : Nat), i + d = 5 → d < n → q.length + 60 * d ≤ 4611686018427387904 →
    s_PeerText.l0 K a n (bs q) v (i : Int) = some (bs (q ++ tl (((vals a v.1).drop i).map Lib.itoa)), ()) := by
  intro d
  induction d with
  | zero =>
    intro i q n hi hd hq
    obtain ⟨n, rfl⟩ : ∃ m, n = m + 1 := ⟨n - 1, by omega⟩
    show s_PeerText.l0b K a (s_PeerText.l0 K a n) (bs q) v (i : Int) = _
    unfold s_PeerText.l0b
    obtain rfl : i = 5 := by omega
    rw [bif_f (by decide)]
    simp [tl, vals]
  | succ d ih =>
    intro i q n hi hd hq
    obtain ⟨n, rfl⟩ : ∃ m, n = m + 1 := ⟨n - 1, by omega⟩
    have hlt : i < (vals a v.1).length := by show i < 5; omega
    have hb := hv _ (List.getElem_mem hlt)
    have hl := itoa_len hb.1 hb.2
    show s_PeerText.l0b K a (s_PeerText.l0 K a n) (bs q) v (i : Int) = _
    unfold s_PeerText.l0b
    have hg : [a.2.1.1, v.1, a.2.2.2.2.2.2.1, a.2.1.2.2.1.1, ((a.2.2.2.2.2.2.2.2.2.length : Nat) : Int)].getD i 0 = (vals a v.1)[i] := getD_get hlt
    rw [bif_t (by omega), bif_fitl (by simp only [List.length_cons, List.length_nil]; omega), bif_t (by omega), bif_t (by omega), Int.toNat_natCast, hg, bind_ok (s_Digits_ok (K := K) (by omega) hb.1 hb.2)]
    simp only [itoaB_bs, sapp_bs]
    rw [bif_fitl (by simp only [List.length_append, List.length_cons, List.length_nil]; omega), w64_succ (by omega), ih (i + 1) _ n (by omega) (by omega) (by simp only [List.length_append, List.length_cons, List.length_nil]; omega)]
    rw [List.drop_eq_getElem_cons hlt, List.map_cons, tl_cons]
    simp only [List.append_assoc, List.cons_append, List.nil_append]

theorem i_l0 {K : Nat} (hK : 2097152 ≤ K) (a : TPeer) (v : Int × Unit) (hv : inI (vals a v.1)) : ∀ (d i : Nat) (q : List UInt8) (n : Nat), i + d = 5 → d < n → q.length + 60 * d ≤ 4611686018427387904 →
    i_PeerText.l0 K a n (bs q) v (i : Int) = some (bs (q ++ tl (((vals a v.1).drop i).map Lib.itoa)), ()) := by
  intro d
  induction d with
  | zero =>
    intro i q n hi hd hq
    obtain ⟨n, rfl⟩ : ∃ m, n = m + 1 := ⟨n - 1, by omega⟩
    show i_PeerText.l0b K a (i_PeerText.l0 K a n) (bs q) v (i : Int) = _
    unfold i_PeerText.l0b
    obtain rfl : i = 5 := by omega
    rw [bif_f (by decide)]
    simp [tl, vals]
  | succ d ih =>
    intro i q n hi hd hq
    obtain ⟨n, rfl⟩ : ∃ m, n = m + 1 := ⟨n - 1, by omega⟩
    have hlt : i < (vals a v.1).length := by show i < 5; omega
    have hb := hv _ (List.getElem_mem hlt)
    have hl := itoa_len hb.1 hb.2
    show i_PeerText.l0b K a (i_PeerText.l0 K a n) (bs q) v (i : Int) = _
    unfold i_PeerText.l0b
    have hg : [a.2.1.1, v.1, a.2.2.2.2.2.2.1, a.2.1.2.2.1.1, ((a.2.2.2.2.2.2.2.2.2.length : Nat) : Int)].getD i 0 = (vals a v.1)[i] := getD_get hlt
    rw [bif_t (by omega), bif_t (by omega), bif_t (by omega), Int.toNat_natCast, hg, bind_ok (i_Digits_ok hb.1 hb.2)]
    simp only [itoaB_bs, sapp_bs]
    rw [bif_fitl (by simp only [List.length_append, List.length_cons, List.length_nil]; omega), bif_fitl (by simp only [List.length_append, List.length_cons, List.length_nil]; omega), w64_succ (by omega), ih (i + 1) _ n (by omega) (by omega) (by simp only [List.length_append, List.length_cons, List.length_nil]; omega)]
    rw [List.drop_eq_getElem_cons hlt, List.map_cons, tl_cons]
    simp only [List.append_assoc, List.cons_append, List.nil_append]

theorem i_l1 {K : Nat} (a : TPeer) (v : Int × Unit) : ∀ (n : Nat) (q : ByteArray) (i : Int), i_PeerText.l1 K a n q v i = i_PeerText.l0 K a n q v i := by
  intro n
  induction n with
  | zero => intro q i; rfl
  | succ n ih =>
    intro q i
    show i_PeerText.l1b K a (i_PeerText.l1 K a n) q v i = i_PeerText.l0b K a (i_PeerText.l0 K a n) q v i
    unfold i_PeerText.l1b i_PeerText.l0b
    simp only [ih]

theorem lasts (a : TLog) (hw : wfE eLog a) (hn : a.2.2.length ≤ 1048576) : ∃ r t, s_LastOf a = some (r, t, ()) ∧ i_last a = some (r, ()) ∧ -9223372036854775808 ≤ r ∧ r ≤ 9223372036854775807 := by
  obtain ⟨⟨h1, h2⟩, _⟩ := hw
  have h1 : -9223372036854775808 ≤ a.1 := h1
  have h2 : a.1 ≤ 9223372036854775807 := h2
  unfold s_LastOf i_last
  by_cases h : a.2.2.length = 0
  · refine ⟨a.1, a.2.1, bif_t (by omega), ?_, h1, h2⟩
    rw [h, w64 (by omega) (by omega)]
    simp
  · rw [bif_f (by omega), w64 (n := ((a.2.2.length : Nat) : Int) - 1) (by omega) (by omega), bif_t (by omega), bif_t (by omega)]
    have hr := IntKind.wrap_i64 (a.1 + ((a.2.2.length : Nat) : Int))
    exact ⟨_, _, rfl, rfl, by omega, by omega⟩

theorem texts {K : Nat} (hK : 2097152 ≤ K) (a : TPeer) (hw : wfE ePeer a) (hs : wt ePeer a ≤ 1048576) : ∃ s : ByteArray, s_PeerText K a = some (s, ()) ∧ i_PeerText K a = some (s, ()) := by
  have hsm := small_of ePeer a hs
  obtain ⟨r, t, e1, e2, r1, r2⟩ := lasts a.2.1.2.2.1 hw.2.1.2.2.1 hsm.2.1.2.2.1.2.2.1
  have hv : inI (vals a r) := by
    intro x hx
    have k1 : a.2.2.2.2.2.2.2.2.2.length ≤ 1048576 := hsm.2.2.2.2.2.2.2.2.2.1
    simp only [vals, List.mem_cons, List.not_mem_nil, or_false] at hx
    rcases hx with rfl | rfl | rfl | rfl | rfl
    · exact hw.2.1.1
    · exact ⟨r1, r2⟩
    · exact hw.2.2.2.2.2.2.1
    · exact hw.2.1.2.2.1.1
    · omega
  have S := fun q hq => s_l0 hK a (r, t, ()) hv 5 0 q K (by omega) (by omega) hq
  have I := fun q hq => i_l0 hK a (r, ()) hv 5 0 q K (by omega) (by omega) hq
  have hrole : -9223372036854775808 ≤ a.2.2.1 ∧ a.2.2.1 ≤ 9223372036854775807 := hw.2.2.1
  unfold s_PeerText s_PeerText.b i_PeerText i_PeerText.b
  have win : ∀ b : Bool, decide (0 ≤ a.2.2.1 ∧ a.2.2.1 ≤ 2) = b → i_within a.2.2.1 0 2 = some (b, ()) := by
    intro b hb
    unfold i_within
    by_cases h : a.2.2.1 ≥ 0
    · rw [bif_t h, ← hb]
      congr 2
      exact decide_eq_decide.2 (by omega)
    · rw [bif_f h, ← hb, decide_eq_false (by omega)]
  by_cases h1 : a.2.2.1 = 1
  · rw [bif_t h1, bind_ok (win true (decide_eq_true (by omega)))]
    simp only [cond_true]
    rw [bif_t (by omega), bif_t (by omega), bind_ok e2, h1]
    unfold s_PeerText.j0
    rw [bind_ok e1]
    exact ⟨_, S [115, 116, 97, 110, 100, 115] (by decide), I [115, 116, 97, 110, 100, 115] (by decide)⟩
  · rw [bif_f h1]
    by_cases h2 : a.2.2.1 = 2
    · rw [bif_t h2, bind_ok (win true (decide_eq_true (by omega)))]
      simp only [cond_true]
      rw [bif_t (by omega), bif_t (by omega), bind_ok e2, h2]
      unfold s_PeerText.j0
      rw [bind_ok e1]
      exact ⟨_, S [108, 101, 97, 100, 115] (by decide), I [108, 101, 97, 100, 115] (by decide)⟩
    · rw [bif_f h2]
      unfold s_PeerText.j0
      rw [bind_ok e1]
      refine ⟨_, S [102, 111, 108, 108, 111, 119, 115] (by decide), ?_⟩
      by_cases h0 : a.2.2.1 = 0
      · rw [bind_ok (win true (decide_eq_true (by omega)))]
        simp only [cond_true]
        rw [bif_t (by omega), bif_t (by omega), bind_ok e2, h0]
        exact I [102, 111, 108, 108, 111, 119, 115] (by decide)
      · rw [bind_ok (win false (decide_eq_false (by omega)))]
        simp only [cond_false]
        rw [bind_ok e2, i_l1]
        exact I [102, 111, 108, 108, 111, 119, 115] (by decide)

theorem law {K : Nat} (hK : 2097152 ≤ K) (a : TPeer) (hw : wfE ePeer a) : ∃ u, l_FnExactPeerText K a = some (true, u) := by
  unfold l_FnExactPeerText
  obtain ⟨r, e, b, c⟩ := sz_Peer hK a hw 1048576 (by decide) (by decide)
  rw [bind_ok e]
  by_cases hn : r < 0
  · exact ⟨(), bif_t hn⟩
  have hwt : wt ePeer a ≤ 1048576 := by have := c (by omega); omega
  have hs : small ePeer a := small_of _ _ hwt
  have ht := to_Peer hK a hs
  obtain ⟨s, e1, e2⟩ := texts hK a hw hwt
  exact ⟨(), by rw [bif_f hn, bind_ok ht, bind_ok e1, bind_ok ht, bind_ok e2, bif_nf rfl, bind_ok ht, bind_ok (eq_Peer hK a hs), bif_ntrue]⟩

end Go.Proofs.YtilemnhdgfhkiaaDoor.Pt
