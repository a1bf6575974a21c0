/- The law, over plain values: what the two functions compute is the same. -/
import Derived.Test.YtilemnhdgfhkiaaGreatDoorWtPf
import Derived.Test.YtilemnhdgfhkiaaGreatDoorKp
set_option linter.all false
set_option maxRecDepth 100000
namespace Go.Proofs.YtilemnhdgfhkiaaGreatDoor.Wt
open Go Go.Kn

theorem s_Digits_loop (K : Nat) (a0 : Int) : ∀ (k m : Nat) (q0 : Int) (q1 : ByteArray), k < m → q0.natAbs < 10 ^ k → -9223372036854775808 ≤ q0 → q0 ≤ 9223372036854775807 → q1.size + k ≤ 1000 →
    s_Digits.l0 K a0 m q0 q1 = some (⟨((if a0 < 0 then [45] else []) ++ (digs q0.natAbs ++ q1.data.toList)).toArray⟩, ()) := by
  have fin : ∀ (m : Nat) (q1 : ByteArray), 0 < m → q1.size ≤ 1000 → s_Digits.l0 K a0 m 0 q1 = some (⟨((if a0 < 0 then [45] else []) ++ (digs 0 ++ q1.data.toList)).toArray⟩, ()) := by
    intro m q1 hm hq
    obtain ⟨m, rfl⟩ : ∃ x, m = x + 1 := ⟨m - 1, by omega⟩
    show s_Digits.l0b K a0 (s_Digits.l0 K a0 m) 0 q1 = _
    unfold s_Digits.l0b
    rw [bif_nf rfl]
    by_cases ha : a0 < 0
    · rw [bif_t ha, bif_fit (by rw [bs_size]; simp; omega), if_pos ha]; rfl
    · rw [bif_f ha, if_neg ha]; rfl
  intro k
  induction k with
  | zero =>
    intro m q0 q1 hm h _ _ hq
    have h0 : q0 = 0 := by simp at h; omega
    subst h0
    exact fin m q1 hm (by omega)
  | succ k ih =>
    intro m q0 q1 hm h hb0 hb1 hq
    by_cases h0 : q0 = 0
    · subst h0
      exact fin m q1 (by omega) (by omega)
    obtain ⟨m, rfl⟩ : ∃ x, m = x + 1 := ⟨m - 1, by omega⟩
    show s_Digits.l0b K a0 (s_Digits.l0 K a0 m) q0 q1 = _
    unfold s_Digits.l0b
    rw [bif_nt h0]
    have hlt : q0.natAbs / 10 < 10 ^ k := by rw [Nat.pow_succ] at h; omega
    have hd : (Int.tdiv q0 10).natAbs = q0.natAbs / 10 := by rw [Int.natAbs_tdiv]; rfl
    have hw : IntKind.i64.wrap (Int.tdiv q0 10) = Int.tdiv q0 10 := w64 (by omega) (by omega)
    have hm0 := Int.tmod_add_mul_tdiv q0 10
    have hm2 : (Int.tmod q0 10).natAbs = q0.natAbs % 10 := by rw [Int.natAbs_tmod]; rfl
    have hsz : ∀ c, (strOf [c]).size = 1 := fun c => by rw [← size_list, strOf_list]; rfl
    have key : ∀ c : Int, c = ((48 + q0.natAbs % 10 : Nat) : Int) → (bif sfit (strOf [c]) q1 then s_Digits.l0 K a0 m (IntKind.i64.wrap (Int.tdiv q0 10)) (sapp (strOf [c]) q1) else none) = some (⟨((if a0 < 0 then [45] else []) ++ (digs q0.natAbs ++ q1.data.toList)).toArray⟩, ()) := by
      intro c hc
      subst hc
      rw [bif_fit (by rw [hsz]; omega), hw, ih _ _ _ (by omega) (by omega) (by omega) (by omega) (by rw [sapp_size, hsz]; omega), hd, sapp_list, strOf_list]
      have : digs q0.natAbs = digs (q0.natAbs / 10) ++ [UInt8.ofNat (48 + q0.natAbs % 10)] := digs_step (by omega)
      rw [this, List.map_cons, List.map_nil, Int.toNat_natCast, List.append_assoc]
    by_cases hn : Int.tmod q0 10 < 0
    · rw [bif_t hn]
      refine key _ ?_
      rw [w64 (n := 0 - Int.tmod q0 10) (by omega) (by omega), w64 (by omega) (by omega), w8 (by omega) (by omega)]
      omega
    · rw [bif_f hn]
      refine key _ ?_
      rw [w64 (n := 48 + Int.tmod q0 10) (by omega) (by omega), w8 (by omega) (by omega)]
      omega

theorem s_Digits_ok {K : Nat} (hK : 100 ≤ K) {n : Int} (h0 : -9223372036854775808 ≤ n) (h1 : n ≤ 9223372036854775807) : s_Digits K n = some (itoaB n, ()) := by
  unfold s_Digits s_Digits.b
  by_cases h : n = 0
  · subst h
    rw [bif_t rfl]
    refine congrArg some (Prod.ext (ba_ext ?_) rfl)
    rw [itoaB_list, bs_list]
    simp [Lib.itoa, Lib.decDigits]
  · rw [bif_f h, s_Digits_loop K n 19 K n ByteArray.empty (by omega) (by omega) h0 h1 (by decide)]
    refine congrArg some (Prod.ext (ba_ext ?_) rfl)
    rw [itoaB_list, itoa_digs n h]
    show (if n < 0 then [45] else []) ++ (digs n.natAbs ++ []) = _
    rw [List.append_nil]
    split <;> rfl

theorem i_Digits_ok {n : Int} (h0 : -9223372036854775808 ≤ n) (h1 : n ≤ 9223372036854775807) : i_Digits n = some (itoaB n, ()) := by
  unfold i_Digits
  rw [bind_ok (lItoa_ok h0 h1)]

def tl (r : List (List UInt8)) : List UInt8 := r.flatMap fun x => 32 :: x
theorem tl_cons (a : List UInt8) (b : List (List UInt8)) : tl (a :: b) = 32 :: (a ++ tl b) := by simp [tl]
def inI (l : List Int) : Prop := ∀ x ∈ l, -9223372036854775808 ≤ x ∧ x ≤ 9223372036854775807
def vals (a : TPeer) (v : Int) : List Int := [a.2.1.1, v, a.2.2.2.2.2.2.1, a.2.1.2.2.1.1, ((a.2.2.2.2.2.2.2.2.2.length : Nat) : Int)]

theorem s_l0 {K : Nat} (hK : 2097152 ≤ K) (a : TPeer) (v : Int × Int × Unit) (hv : inI (vals a v.1)) : ∀ (d i : Nat) (q : List UInt8) (n : Nat), i + d = 5 → d < n → q.length + 60 * d ≤ 4611686018427387904 →
    s_PeerText.l0 K a n (bs q) v (i : Int) = some (bs (q ++ tl (((vals a v.1).drop i).map Lib.itoa)), ()) := by
  intro d
  induction d with
  | zero =>
    intro i q n hi hd hq
    obtain ⟨n, rfl⟩ : ∃ m, n = m + 1 := ⟨n - 1, by omega⟩
    show s_PeerText.l0b K a (s_PeerText.l0 K a n) (bs q) v (i : Int) = _
    unfold s_PeerText.l0b
    obtain rfl : i = 5 := by omega
    rw [bif_f (by decide)]
    simp [tl, vals]
  | succ d ih =>
    intro i q n hi hd hq
    obtain ⟨n, rfl⟩ : ∃ m, n = m + 1 := ⟨n - 1, by omega⟩
    have hlt : i < (vals a v.1).length := by show i < 5; omega
    have hb := hv _ (List.getElem_mem hlt)
    have hl := itoa_len hb.1 hb.2
    show s_PeerText.l0b K a (s_PeerText.l0 K a n) (bs q) v (i : Int) = _
    unfold s_PeerText.l0b
    have hg : [a.2.1.1, v.1, a.2.2.2.2.2.2.1, a.2.1.2.2.1.1, ((a.2.2.2.2.2.2.2.2.2.length : Nat) : Int)].getD i 0 = (vals a v.1)[i] := getD_get hlt
    rw [bif_t (by omega), bif_fitl (by simp only [List.length_cons, List.length_nil]; omega), bif_t (by omega), bif_t (by omega), Int.toNat_natCast, hg, bind_ok (s_Digits_ok (K := K) (by omega) hb.1 hb.2)]
    simp only [itoaB_bs, sapp_bs]
    rw [bif_fitl (by simp only [List.length_append, List.length_cons, List.length_nil]; omega), w64_succ (by omega), ih (i + 1) _ n (by omega) (by omega) (by simp only [List.length_append, List.length_cons, List.length_nil]; omega)]
    rw [List.drop_eq_getElem_cons hlt, List.map_cons, tl_cons]
    simp only [List.append_assoc, List.cons_append, List.nil_append]

theorem i_l0 {K : Nat} (hK : 2097152 ≤ K) (a : TPeer) (v : Int × Unit) (hv : inI (vals a v.1)) : ∀ (d i : Nat) (q : List UInt8) (n : Nat), i + d = 5 → d < n → q.length + 60 * d ≤ 4611686018427387904 →
    i_PeerText.l0 K a n (bs q) v (i : Int) = some (bs (q ++ tl (((vals a v.1).drop i).map Lib.itoa)), ()) := by
  intro d
  induction d with
  | zero =>
    intro i q n hi hd hq
    obtain ⟨n, rfl⟩ : ∃ m, n = m + 1 := ⟨n - 1, by omega⟩
    show i_PeerText.l0b K a (i_PeerText.l0 K a n) (bs q) v (i : Int) = _
    unfold i_PeerText.l0b
    obtain rfl : i = 5 := by omega
    rw [bif_f (by decide)]
    simp [tl, vals]
  | succ d ih =>
    intro i q n hi hd hq
    obtain ⟨n, rfl⟩ : ∃ m, n = m + 1 := ⟨n - 1, by omega⟩
    have hlt : i < (vals a v.1).length := by show i < 5; omega
    have hb := hv _ (List.getElem_mem hlt)
    have hl := itoa_len hb.1 hb.2
    show i_PeerText.l0b K a (i_PeerText.l0 K a n) (bs q) v (i : Int) = _
    unfold i_PeerText.l0b
    have hg : [a.2.1.1, v.1, a.2.2.2.2.2.2.1, a.2.1.2.2.1.1, ((a.2.2.2.2.2.2.2.2.2.length : Nat) : Int)].getD i 0 = (vals a v.1)[i] := getD_get hlt
    rw [bif_t (by omega), bif_t (by omega), bif_t (by omega), Int.toNat_natCast, hg, bind_ok (i_Digits_ok hb.1 hb.2)]
    simp only [itoaB_bs, sapp_bs]
    rw [bif_fitl (by simp only [List.length_append, List.length_cons, List.length_nil]; omega), bif_fitl (by simp only [List.length_append, List.length_cons, List.length_nil]; omega), w64_succ (by omega), ih (i + 1) _ n (by omega) (by omega) (by simp only [List.length_append, List.length_cons, List.length_nil]; omega)]
    rw [List.drop_eq_getElem_cons hlt, List.map_cons, tl_cons]
    simp only [List.append_assoc, List.cons_append, List.nil_append]

theorem i_l1 {K : Nat} (a : TPeer) (v : Int × Unit) : ∀ (n : Nat) (q : ByteArray) (i : Int), i_PeerText.l1 K a n q v i = i_PeerText.l0 K a n q v i := by
  intro n
  induction n with
  | zero => intro q i; rfl
  | succ n ih =>
    intro q i
    show i_PeerText.l1b K a (i_PeerText.l1 K a n) q v i = i_PeerText.l0b K a (i_PeerText.l0 K a n) q v i
    unfold i_PeerText.l1b i_PeerText.l0b
    simp only [ih]

theorem lasts (a : TLog) (hw : wfE eLog a) (hn : a.2.2.length ≤ 1048576) : ∃ r t, s_LastOf a = some (r, t, ()) ∧ i_last a = some (r, ()) ∧ -9223372036854775808 ≤ r ∧ r ≤ 9223372036854775807 := by
  obtain ⟨⟨h1, h2⟩, _⟩ := hw
  have h1 : -9223372036854775808 ≤ a.1 := h1
  have h2 : a.1 ≤ 9223372036854775807 := h2
  unfold s_LastOf i_last
  by_cases h : a.2.2.length = 0
  · refine ⟨a.1, a.2.1, bif_t (by omega), ?_, h1, h2⟩
    rw [h, w64 (by omega) (by omega)]
    simp
  · rw [bif_f (by omega), w64 (n := ((a.2.2.length : Nat) : Int) - 1) (by omega) (by omega), bif_t (by omega), bif_t (by omega)]
    have hr := IntKind.wrap_i64 (a.1 + ((a.2.2.length : Nat) : Int))
    exact ⟨_, _, rfl, rfl, by omega, by omega⟩

theorem tl_len (l : List Int) (h : inI l) : (tl (l.map Lib.itoa)).length ≤ 21 * l.length := by
  induction l with
  | nil => simp [tl]
  | cons x l ih =>
    have hx := h x List.mem_cons_self
    have := itoa_len hx.1 hx.2
    have := ih (fun y hy => h y (List.mem_cons_of_mem _ hy))
    rw [List.map_cons, tl_cons]
    simp only [List.length_cons, List.length_append]
    omega

theorem peer_texts {K : Nat} (hK : 2097152 ≤ K) (a : TPeer) (hw : wfE ePeer a) (hsm : small ePeer a) : ∃ s : ByteArray, s_PeerText K a = some (s, ()) ∧ i_PeerText K a = some (s, ()) ∧ s.size ≤ 1000 := by
  obtain ⟨r, t, e1, e2, r1, r2⟩ := lasts a.2.1.2.2.1 hw.2.1.2.2.1 hsm.2.1.2.2.1.2.2.1
  have hv : inI (vals a r) := by
    intro x hx
    have k1 : a.2.2.2.2.2.2.2.2.2.length ≤ 1048576 := hsm.2.2.2.2.2.2.2.2.2.1
    simp only [vals, List.mem_cons, List.not_mem_nil, or_false] at hx
    rcases hx with rfl | rfl | rfl | rfl | rfl
    · exact hw.2.1.1
    · exact ⟨r1, r2⟩
    · exact hw.2.2.2.2.2.2.1
    · exact hw.2.1.2.2.1.1
    · omega
  have S := fun q hq => s_l0 hK a (r, t, ()) hv 5 0 q K (by omega) (by omega) hq
  have I := fun q hq => i_l0 hK a (r, ()) hv 5 0 q K (by omega) (by omega) hq
  have Z : ∀ q : List UInt8, q.length ≤ 100 → (bs (q ++ tl (((vals a r).drop 0).map Lib.itoa))).size ≤ 1000 := by
    intro q hq
    have := tl_len (vals a r) hv
    rw [bs_size, List.length_append, List.drop_zero]
    have : (vals a r).length = 5 := rfl
    omega
  have hrole : -9223372036854775808 ≤ a.2.2.1 ∧ a.2.2.1 ≤ 9223372036854775807 := hw.2.2.1
  unfold s_PeerText s_PeerText.b i_PeerText i_PeerText.b
  have win : ∀ b : Bool, decide (0 ≤ a.2.2.1 ∧ a.2.2.1 ≤ 2) = b → i_within a.2.2.1 0 2 = some (b, ()) := by
    intro b hb
    unfold i_within
    by_cases h : a.2.2.1 ≥ 0
    · rw [bif_t h, ← hb]
      congr 2
      exact decide_eq_decide.2 (by omega)
    · rw [bif_f h, ← hb, decide_eq_false (by omega)]
  by_cases h1 : a.2.2.1 = 1
  · rw [bif_t h1, bind_ok (win true (decide_eq_true (by omega)))]
    simp only [cond_true]
    rw [bif_t (by omega), bif_t (by omega), bind_ok e2, h1]
    unfold s_PeerText.j0
    rw [bind_ok e1]
    exact ⟨_, S [115, 116, 97, 110, 100, 115] (by decide), I [115, 116, 97, 110, 100, 115] (by decide), Z _ (by decide)⟩
  · rw [bif_f h1]
    by_cases h2 : a.2.2.1 = 2
    · rw [bif_t h2, bind_ok (win true (decide_eq_true (by omega)))]
      simp only [cond_true]
      rw [bif_t (by omega), bif_t (by omega), bind_ok e2, h2]
      unfold s_PeerText.j0
      rw [bind_ok e1]
      exact ⟨_, S [108, 101, 97, 100, 115] (by decide), I [108, 101, 97, 100, 115] (by decide), Z _ (by decide)⟩
    · rw [bif_f h2]
      unfold s_PeerText.j0
      rw [bind_ok e1]
      refine ⟨_, S [102, 111, 108, 108, 111, 119, 115] (by decide), ?_, Z _ (by decide)⟩
      by_cases h0 : a.2.2.1 = 0
      · rw [bind_ok (win true (decide_eq_true (by omega)))]
        simp only [cond_true]
        rw [bif_t (by omega), bif_t (by omega), bind_ok e2, h0]
        exact I [102, 111, 108, 108, 111, 119, 115] (by decide)
      · rw [bind_ok (win false (decide_eq_false (by omega)))]
        simp only [cond_false]
        rw [bind_ok e2, i_l1]
        exact I [102, 111, 108, 108, 111, 119, 115] (by decide)

theorem sapp_assoc (a b c : ByteArray) : sapp (sapp a b) c = sapp a (sapp b c) := ba_ext (by simp only [sapp_list, List.append_assoc])

theorem loops {K : Nat} (hK : 2097152 ≤ K) (a : TWorld) (hw : wfE eWorld a) (hs : small eWorld a) : ∀ (d i : Nat) (q : ByteArray) (n : Nat), i + d = a.2.2.1.length → d < n → q.size + 2000 * d ≤ 4611686018427380000 →
    ∃ s : ByteArray, s_WorldText.l0 K a n q (i : Int) = some (s, ()) ∧ i_WorldText.l0 K a n q (i : Int) = some (s, ()) := by
  have hn : a.2.2.1.length ≤ 1048576 := hs.2.2.1.1
  have D : ∀ m : Nat, m ≤ 1048576 → s_Digits K (m : Int) = some (itoaB (m : Int), ()) ∧ i_Digits (m : Int) = some (itoaB (m : Int), ()) ∧ (itoaB (m : Int)).size ≤ 20 := fun m hm =>
    ⟨s_Digits_ok (by omega) (by omega) (by omega), i_Digits_ok (by omega) (by omega), itoaB_size (by omega) (by omega)⟩
  intro d
  induction d with
  | zero =>
    intro i q n hi hd hq
    obtain ⟨n, rfl⟩ : ∃ m, n = m + 1 := ⟨n - 1, by omega⟩
    have n1 : a.2.2.2.1.length ≤ 1048576 := hs.2.2.2.1.1
    have n2 : a.2.2.2.2.2.2.2.length ≤ 1048576 := hs.2.2.2.2.2.2.2.1
    have n3 : a.2.2.2.2.2.2.1.length ≤ 1048576 := hs.2.2.2.2.2.2.1.1
    obtain ⟨d1, e1, z1⟩ := D _ n1
    obtain ⟨d2, e2, z2⟩ := D _ n2
    obtain ⟨d3, e3, z3⟩ := D _ n3
    apply Exists.intro
    apply And.intro
    · show s_WorldText.l0b K a (s_WorldText.l0 K a n) q (i : Int) = _
      unfold s_WorldText.l0b
      rw [bif_f (by omega), bif_fit (by simp only [bs_size, sapp_size, List.length_cons, List.length_nil]; omega), bind_ok d1, bif_fit (by simp only [bs_size, sapp_size, List.length_cons, List.length_nil]; omega), bif_fit (by simp only [bs_size, sapp_size, List.length_cons, List.length_nil]; omega), bind_ok d2, bif_fit (by simp only [bs_size, sapp_size, List.length_cons, List.length_nil]; omega), bif_fit (by simp only [bs_size, sapp_size, List.length_cons, List.length_nil]; omega), bind_ok d3, bif_fit (by simp only [bs_size, sapp_size, List.length_cons, List.length_nil]; omega), bif_fit (by simp only [bs_size, sapp_size, List.length_cons, List.length_nil]; omega)]
    · show i_WorldText.l0b K a (i_WorldText.l0 K a n) q (i : Int) = _
      unfold i_WorldText.l0b
      rw [bif_f (by omega), bif_fit (by simp only [bs_size, sapp_size, List.length_cons, List.length_nil]; omega), bind_ok e1, bif_fit (by simp only [bs_size, sapp_size, List.length_cons, List.length_nil]; omega), bif_fit (by simp only [bs_size, sapp_size, List.length_cons, List.length_nil]; omega), bind_ok e2, bif_fit (by simp only [bs_size, sapp_size, List.length_cons, List.length_nil]; omega), bif_fit (by simp only [bs_size, sapp_size, List.length_cons, List.length_nil]; omega), bind_ok e3, bif_fit (by simp only [bs_size, sapp_size, List.length_cons, List.length_nil]; omega), bif_fit (by simp only [bs_size, sapp_size, List.length_cons, List.length_nil]; omega)]
  | succ d ih =>
    intro i q n hi hd hq
    obtain ⟨n, rfl⟩ : ∃ m, n = m + 1 := ⟨n - 1, by omega⟩
    have hlt : i < a.2.2.1.length := by omega
    obtain ⟨p, p1, p2, p3⟩ := peer_texts hK a.2.2.1[i] (hw.2.2.1.2 _ (List.getElem_mem hlt)) (hs.2.2.1.2 _ (List.getElem_mem hlt))
    obtain ⟨d1, e1, z1⟩ := D i (by omega)
    obtain ⟨s, h1, h2⟩ := ih (i + 1) (sapp q (sapp (itoaB (i : Int)) (sapp (bs [32]) (sapp p (bs [10]))))) n (by omega) (by omega) (by simp only [bs_size, sapp_size, List.length_cons, List.length_nil]; omega)
    refine ⟨s, ?_, ?_⟩
    · show s_WorldText.l0b K a (s_WorldText.l0 K a n) q (i : Int) = _
      unfold s_WorldText.l0b
      rw [bif_t (by omega), bind_ok d1, bif_fit (by simp only [bs_size, sapp_size, List.length_cons, List.length_nil]; omega), bif_fit (by simp only [bs_size, sapp_size, List.length_cons, List.length_nil]; omega), bif_t (by omega), bif_t (by omega), Int.toNat_natCast, getD_get hlt, bind_ok p1, bif_fit (by simp only [bs_size, sapp_size, List.length_cons, List.length_nil]; omega), bif_fit (by simp only [bs_size, sapp_size, List.length_cons, List.length_nil]; omega), w64_succ (by omega)]
      simp only [sapp_assoc]
      exact h1
    · show i_WorldText.l0b K a (i_WorldText.l0 K a n) q (i : Int) = _
      unfold i_WorldText.l0b
      rw [bif_t (by omega), bif_t (by omega), bif_t (by omega), bind_ok e1, bif_fit (by simp only [bs_size, sapp_size, List.length_cons, List.length_nil]; omega), Int.toNat_natCast, getD_get hlt, bind_ok p2, bif_fit (by simp only [bs_size, sapp_size, List.length_cons, List.length_nil]; omega), bif_fit (by simp only [bs_size, sapp_size, List.length_cons, List.length_nil]; omega), bif_fit (by simp only [bs_size, sapp_size, List.length_cons, List.length_nil]; omega), w64_succ (by omega)]
      simp only [sapp_assoc]
      exact h2

theorem texts {K : Nat} (hK : 2097152 ≤ K) (a : TWorld) (hw : wfE eWorld a) (hwt : wt eWorld a ≤ 1048576) : ∃ s : ByteArray, s_WorldText K a = some (s, ()) ∧ i_WorldText K a = some (s, ()) := by
  have hs := small_of eWorld a hwt
  have hn : a.2.2.1.length ≤ 1048576 := hs.2.2.1.1
  exact loops hK a hw hs a.2.2.1.length 0 ByteArray.empty K (by omega) (by omega) (by have : ByteArray.empty.size = 0 := rfl; omega)

theorem law {K : Nat} (hK : 2097152 ≤ K) (a : TWorld) (hw : wfE eWorld a) : ∃ u, l_FnExactWorldText K a = some (true, u) := by
  unfold l_FnExactWorldText
  obtain ⟨r, e, b, c⟩ := sz_World hK a hw 1048576 (by decide) (by decide)
  rw [bind_ok e]
  by_cases hn : r < 0
  · exact ⟨(), bif_t hn⟩
  have hwt : wt eWorld a ≤ 1048576 := by have := c (by omega); omega
  have hs : small eWorld a := small_of _ _ hwt
  have ht := to_World hK a hs
  obtain ⟨s, e1, e2⟩ := texts hK a hw hwt
  exact ⟨(), by rw [bif_f hn, bind_ok ht, bind_ok e1, bind_ok ht, bind_ok e2, bif_nf rfl, bind_ok ht, bind_ok (eq_World hK a hs), bif_ntrue]⟩

end Go.Proofs.YtilemnhdgfhkiaaGreatDoor.Wt
