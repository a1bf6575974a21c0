/- The law, over plain values: what the two functions compute is the same. -/
import Derived.Test.YtilemnhdgfhkiaaDoorFcSh
import Derived.Test.YtilemnhdgfhkiaaDoorKp
set_option linter.all false
set_option maxRecDepth 100000
namespace Go.Proofs.YtilemnhdgfhkiaaDoor.Fc
open Go Go.Kn

theorem s_Digits_loop (K : Nat) (a0 : Int) : ∀ (k m : Nat) (q0 : Int) (q1 : ByteArray), k < m → q0.natAbs < 10 ^ k → -9223372036854775808 ≤ q0 → q0 ≤ 9223372036854775807 → q1.size + k ≤ 1000 →
    s_Digits.l0 K a0 m q0 q1 = some (⟨((if a0 < 0 then [45] else []) ++ (digs q0.natAbs ++ q1.data.toList)).toArray⟩, ()) := by
  have fin : ∀ (m : Nat) (q1 : ByteArray), 0 < m → q1.size ≤ 1000 → s_Digits.l0 K a0 m 0 q1 = some (⟨((if a0 < 0 then [45] else []) ++ (digs 0 ++ q1.data.toList)).toArray⟩, ()) := by
    intro m q1 hm hq
    obtain ⟨m, rfl⟩ : ∃ x, m = x + 1 := ⟨m - 1, by omega⟩
    show s_Digits.l0b K a0 (s_Digits.l0 K a0 m) 0 q1 = _
    unfold s_Digits.l0b
    rw [bif_nf rfl]
    by_cases ha : a0 < 0
    · rw [bif_t ha, bif_fit (by rw [bs_size]; simp; omega), if_pos ha]; rfl
    · rw [bif_f ha, if_neg ha]; rfl
  intro k
  induction k with
  | zero =>
    intro m q0 q1 hm h _ _ hq
    have h0 : q0 = 0 := by simp at h; omega
    subst h0
    exact fin m q1 hm (by omega)
  | succ k ih =>
    intro m q0 q1 hm h hb0 hb1 hq
    by_cases h0 : q0 = 0
    · subst h0
      exact fin m q1 (by omega) (by omega)
    obtain ⟨m, rfl⟩ : ∃ x, m = x + 1 := ⟨m - 1, by omega⟩
    show s_Digits.l0b K a0 (s_Digits.l0 K a0 m) q0 q1 = _
    unfold s_Digits.l0b
    rw [bif_nt h0]
    have hlt : q0.natAbs / 10 < 10 ^ k := by rw [Nat.pow_succ] at h; omega
    have hd : (Int.tdiv q0 10).natAbs = q0.natAbs / 10 := by rw [Int.natAbs_tdiv]; rfl
    have hw : IntKind.i64.wrap (Int.tdiv q0 10) = Int.tdiv q0 10 := w64 (by omega) (by omega)
    have hm0 := Int.tmod_add_mul_tdiv q0 10
    have hm2 : (Int.tmod q0 10).natAbs = q0.natAbs % 10 := by rw [Int.natAbs_tmod]; rfl
    have hsz : ∀ c, (strOf [c]).size = 1 := fun c => by rw [← size_list, strOf_list]; rfl
    have key : ∀ c : Int, c = ((48 + q0.natAbs % 10 : Nat) : Int) → (bif sfit (strOf [c]) q1 then s_Digits.l0 K a0 m (IntKind.i64.wrap (Int.tdiv q0 10)) (sapp (strOf [c]) q1) else none) = some (⟨((if a0 < 0 then [45] else []) ++ (digs q0.natAbs ++ q1.data.toList)).toArray⟩, ()) := by
      intro c hc
      subst hc
      rw [bif_fit (by rw [hsz]; omega), hw, ih _ _ _ (by omega) (by omega) (by omega) (by omega) (by rw [sapp_size, hsz]; omega), hd, sapp_list, strOf_list]
      have : digs q0.natAbs = digs (q0.natAbs / 10) ++ [UInt8.ofNat (48 + q0.natAbs % 10)] := digs_step (by omega)
      rw [this, List.map_cons, List.map_nil, Int.toNat_natCast, List.append_assoc]
    by_cases hn : Int.tmod q0 10 < 0
    · rw [bif_t hn]
      refine key _ ?_
      rw [w64 (n := 0 - Int.tmod q0 10) (by omega) (by omega), w64 (by omega) (by omega), w8 (by omega) (by omega)]
      omega
    · rw [bif_f hn]
      refine key _ ?_
      rw [w64 (n := 48 + Int.tmod q0 10) (by omega) (by omega), w8 (by omega) (by omega)]
      omega

theorem s_Digits_ok {K : Nat} (hK : 100 ≤ K) {n : Int} (h0 : -9223372036854775808 ≤ n) (h1 : n ≤ 9223372036854775807) : s_Digits K n = some (itoaB n, ()) := by
  unfold s_Digits s_Digits.b
  by_cases h : n = 0
  · subst h
    rw [bif_t rfl]
    refine congrArg some (Prod.ext (ba_ext ?_) rfl)
    rw [itoaB_list, bs_list]
    simp [Lib.itoa, Lib.decDigits]
  · rw [bif_f h, s_Digits_loop K n 19 K n ByteArray.empty (by omega) (by omega) h0 h1 (by decide)]
    refine congrArg some (Prod.ext (ba_ext ?_) rfl)
    rw [itoaB_list, itoa_digs n h]
    show (if n < 0 then [45] else []) ++ (digs n.natAbs ++ []) = _
    rw [List.append_nil]
    split <;> rfl

/-- The words of a text. -/
def wordsL : List UInt8 → List UInt8 → List (List UInt8)
  | acc, [] => [acc]
  | acc, c :: r => if c = 32 then acc :: wordsL [] r else wordsL (acc ++ [c]) r

theorem wordsL_acc : ∀ (l acc : List UInt8), ∃ h t, wordsL [] l = h :: t ∧ wordsL acc l = (acc ++ h) :: t
  | [], acc => ⟨[], [], rfl, by simp [wordsL]⟩
  | c :: r, acc => by
    by_cases hc : c = 32
    · exact ⟨[], wordsL [] r, by simp [wordsL, hc], by simp [wordsL, hc]⟩
    · obtain ⟨h, t, e1, e2⟩ := wordsL_acc r [c]
      obtain ⟨h', t', e3, e4⟩ := wordsL_acc r (acc ++ [c])
      rw [e1] at e3
      obtain ⟨rfl, rfl⟩ := List.cons.inj e3
      exact ⟨[c] ++ h, t, by simp [wordsL, hc, e2], by simp [wordsL, hc, e4]⟩

theorem splitK_words : ∀ l : List UInt8, Lib.splitK [32] 0 (Lib.count l [32]) l = wordsL [] l
  | [] => by rw [Lib.count_miss (by simp [Lib.index])]; rfl
  | b :: r => by
    have ih := splitK_words r
    by_cases hb : b = 32
    · subst hb
      have hix : Lib.index (32 :: r) [32] = 0 := by rw [Lib.index]; simp [List.isPrefixOf]
      rw [Lib.count_cons_eq, show 1 + Lib.count r [32] = Lib.count r [32] + 1 by omega, Lib.splitK, if_neg (by rw [hix]; decide), hix]
      simp [wordsL, ih]
    · have hp : ([32] : List UInt8).isPrefixOf (b :: r) = false := by simp [List.isPrefixOf, Ne.symm hb]
      have hix : Lib.index (b :: r) [32] = if Lib.index r [32] == -1 then -1 else Lib.index r [32] + 1 := by rw [Lib.index, hp]; simp
      obtain ⟨h, t, e1, e2⟩ := wordsL_acc r [b]
      have hw : wordsL [] (b :: r) = ([b] ++ h) :: t := by simp [wordsL, hb, e2]
      rw [hw, Lib.count_cons_ne b 32 r hb]
      rw [e1] at ih
      by_cases hm : Lib.index r [32] = -1
      · rw [Lib.count_miss hm, Lib.splitK] at ih ⊢
        obtain ⟨rfl, rfl⟩ := List.cons.inj ih
        rfl
      · have hge := Lib.index_ge r [32]
        obtain ⟨j, hj⟩ : ∃ j : Nat, Lib.index r [32] = j := ⟨(Lib.index r [32]).toNat, by omega⟩
        have hix' : Lib.index (b :: r) [32] = ((j + 1 : Nat) : Int) := by rw [hix, if_neg (fun e => hm (beq_iff_eq.1 e)), hj]; omega
        obtain ⟨k, hk⟩ : ∃ k, Lib.count r [32] = k + 1 := by
          have := Lib.count_hit (s := r) (sub := [32]) (by simp) hj
          exact ⟨Lib.count (r.drop (j + [32].length)) [32], by omega⟩
        rw [hk, Lib.splitK, if_neg (fun e => hm (beq_iff_eq.1 e)), hj] at ih
        rw [hk, Lib.splitK, if_neg (by rw [hix']; intro e; have := beq_iff_eq.1 e; omega), hix']
        obtain ⟨rfl, rfl⟩ := List.cons.inj ih
        simp [Nat.add_right_comm]

theorem map_data_inj {a b : List ByteArray} (h : a.map (·.data.toList) = b.map (·.data.toList)) : a = b := by
  induction a generalizing b with
  | nil => cases b with
    | nil => rfl
    | cons _ _ => simp at h
  | cons x a ih =>
    cases b with
    | nil => simp at h
    | cons y b =>
      rw [List.map_cons, List.map_cons] at h
      obtain ⟨h1, h2⟩ := List.cons.inj h
      rw [ba_ext h1, ih h2]

def wordsB (a : ByteArray) : List ByteArray := (wordsL [] a.data.toList).map bs

theorem lSplit_words (a : ByteArray) (ha : a.size ≤ 1048576) : lSplit a (bs [32]) = some (wordsB a, ()) := by
  unfold lSplit
  rw [decide_eq_true (show a.size < 4294967281 by omega), decide_eq_true (show 1 ≤ (bs [32]).size by decide)]
  show some (_, ()) = _
  refine congrArg (fun l => some (l, ())) (map_data_inj ?_)
  rw [Lib.splitB_data]
  show Lib.splitK [32] 0 (Lib.count a.data.toList [32]) a.data.toList = _
  rw [splitK_words, wordsB, List.map_map]
  exact (List.map_id _).symm

theorem wordsL_len : ∀ (l acc : List UInt8), (wordsL acc l).length ≤ l.length + 1
  | [], acc => by simp [wordsL]
  | c :: r, acc => by
    unfold wordsL
    split
    · have := wordsL_len r []; simp only [List.length_cons]; omega
    · have := wordsL_len r (acc ++ [c]); simp only [List.length_cons]; omega
theorem wordsL_mem : ∀ (l acc : List UInt8) (w : List UInt8), w ∈ wordsL acc l → w.length ≤ acc.length + l.length
  | [], acc, w, h => by
    obtain rfl : w = acc := by simpa [wordsL] using h
    simp
  | c :: r, acc, w, h => by
    unfold wordsL at h
    split at h
    · rcases List.mem_cons.1 h with rfl | h
      · omega
      · have := wordsL_mem r [] w h
        simp only [List.length_cons, List.length_nil] at *
        omega
    · have := wordsL_mem r (acc ++ [c]) w h
      simp only [List.length_cons, List.length_append, List.length_nil] at *
      omega

theorem piece (a : ByteArray) (i j : Nat) : a.extract i j = bs ((a.data.toList.drop i).take (j - i)) := ba_ext (by rw [Lib.extract_data]; rfl)

theorem take_ext {l : List UInt8} {i k : Nat} (h : i + k < l.length) : (l.drop i).take (k + 1) = (l.drop i).take k ++ [l[i + k]] := by
  rw [List.take_add_one, List.getElem?_drop, List.getElem?_eq_getElem h]
  rfl

theorem s_words_loop {K : Nat} (a : ByteArray) (ha : a.size ≤ 1048576) : ∀ (d i j : Nat) (q : List ByteArray) (n : Nat), j + d = a.size → d + 1 < n → i ≤ j → q.length ≤ j →
    s_l19Words.l0 K a n q (i : Int) (j : Int) = some (q ++ (wordsL ((a.data.toList.drop i).take (j - i)) (a.data.toList.drop j)).map bs, ()) := by
  have hg : growTop = 70368744177664 := rfl
  have hsz := size_list a
  intro d
  induction d with
  | zero =>
    intro i j q n hj hd hij hq
    obtain ⟨n, rfl⟩ : ∃ m, n = m + 2 := ⟨n - 2, by omega⟩
    show s_l19Words.l0b K a (s_l19Words.l0 K a (n + 1)) q (i : Int) (j : Int) = _
    unfold s_l19Words.l0b
    rw [bif_t (by omega), bif_t (by omega), bif_t (by omega), bif_t (by omega), bif_t (by omega), bif_t (by simp only [List.length_cons, List.length_nil]; omega), w64_succ (by omega)]
    show s_l19Words.l0b K a (s_l19Words.l0 K a n) _ _ _ = _
    unfold s_l19Words.l0b
    rw [bif_f (by omega), Int.toNat_natCast, Int.toNat_natCast, piece, show a.data.toList.drop j = [] from List.drop_of_length_le (by omega)]
    rfl
  | succ d ih =>
    intro i j q n hj hd hij hq
    obtain ⟨n, rfl⟩ : ∃ m, n = m + 1 := ⟨n - 1, by omega⟩
    have hlt : j < a.data.toList.length := by omega
    show s_l19Words.l0b K a (s_l19Words.l0 K a n) q (i : Int) (j : Int) = _
    unfold s_l19Words.l0b
    have hb : byteAt a (j : Int) = ((a.data.toList[j]).toNat : Int) := by
      unfold byteAt
      rw [Int.toNat_natCast, getD_get hlt]
    rw [bif_t (by omega), bif_f (by omega), bif_t (by omega), bif_t (by omega), hb, w64_succ (by omega), List.drop_eq_getElem_cons hlt, wordsL]
    by_cases hc : a.data.toList[j] = 32
    · rw [bif_t (by rw [hc]; rfl), bif_t (by omega), bif_t (by omega), bif_t (by omega), bif_t (by simp only [List.length_cons, List.length_nil]; omega), if_pos hc]
      rw [ih (j + 1) (j + 1) _ n (by omega) (by omega) (by omega) (by simp only [List.length_append, List.length_cons, List.length_nil]; omega)]
      rw [Int.toNat_natCast, Int.toNat_natCast, piece, Nat.sub_self, List.take_zero, List.append_assoc]
      rfl
    · rw [bif_f (fun e => hc (UInt8.toNat_inj.1 (by have : (32 : UInt8).toNat = 32 := rfl; omega))), if_neg hc]
      rw [ih i (j + 1) q n (by omega) (by omega) (by omega) (by omega)]
      rw [show j + 1 - i = (j - i) + 1 by omega, take_ext (by omega)]
      simp only [show i + (j - i) = j by omega]

theorem s_words {K : Nat} (hK : 2097152 ≤ K) (a : ByteArray) (ha : a.size ≤ 1048576) : s_l19Words K a = some (wordsB a, ()) := by
  unfold s_l19Words s_l19Words.b
  exact s_words_loop a ha a.size 0 0 [] K (by omega) (by omega) (by omega) (by simp)

/- Searching. -/
theorem index_loop {K : Nat} (l : List ByteArray) (a : ByteArray) (hl : l.length ≤ 1048577) : ∀ (d i n : Nat), i + d = l.length → d < n →
    ∃ r, sl_Index.l0 K l a n (i : Int) = some (r, ()) ∧ ((r = -1 ∧ a ∉ l.drop i) ∨ ((i : Int) ≤ r ∧ r < (l.length : Int) ∧ a ∈ l.drop i)) := by
  intro d
  induction d with
  | zero =>
    intro i n hi hd
    obtain ⟨n, rfl⟩ : ∃ m, n = m + 1 := ⟨n - 1, by omega⟩
    refine ⟨-1, ?_, Or.inl ⟨rfl, by rw [List.drop_of_length_le (by omega)]; simp⟩⟩
    show sl_Index.l0b K l a (sl_Index.l0 K l a n) (i : Int) = _
    unfold sl_Index.l0b
    rw [bif_f (by omega)]
  | succ d ih =>
    intro i n hi hd
    obtain ⟨n, rfl⟩ : ∃ m, n = m + 1 := ⟨n - 1, by omega⟩
    have hlt : i < l.length := by omega
    have step : sl_Index.l0 K l a (n + 1) (i : Int) = bif decide (a.data.toList = (l[i]).data.toList) then some ((i : Int), ()) else sl_Index.l0 K l a n ((i + 1 : Nat) : Int) := by
      show sl_Index.l0b K l a (sl_Index.l0 K l a n) (i : Int) = _
      unfold sl_Index.l0b
      rw [bif_t (by omega), bif_t (by omega), bif_t (by omega), Int.toNat_natCast, getD_get hlt, w64_succ (by omega)]
    rw [step, List.drop_eq_getElem_cons hlt]
    by_cases h : a.data.toList = (l[i]).data.toList
    · refine ⟨(i : Int), bif_t h, Or.inr ⟨by omega, by omega, ?_⟩⟩
      rw [ba_ext h]
      exact List.mem_cons_self
    · rw [bif_f h]
      obtain ⟨r, e, c⟩ := ih (i + 1) n (by omega) (by omega)
      refine ⟨r, e, ?_⟩
      rcases c with ⟨c1, c2⟩ | ⟨c1, c2, c3⟩
      · refine Or.inl ⟨c1, fun hm => ?_⟩
        rcases List.mem_cons.1 hm with rfl | hm
        · exact h rfl
        · exact c2 hm
      · exact Or.inr ⟨by omega, c2, List.mem_cons_of_mem _ c3⟩

theorem index_ok {K : Nat} (hK : 2097152 ≤ K) (l : List ByteArray) (a : ByteArray) (hl : l.length ≤ 1048577) :
    ∃ r, sl_Index K l a = some (r, ()) ∧ ((r = -1 ∧ a ∉ l) ∨ (0 ≤ r ∧ r < (l.length : Int) ∧ a ∈ l)) := by
  unfold sl_Index sl_Index.b
  obtain ⟨r, e, c⟩ := index_loop (K := K) l a hl l.length 0 K (by omega) (by omega)
  exact ⟨r, e, by simpa using c⟩

def names : List ByteArray := [(bs [112, 117, 116]), (bs [103, 101, 116]), (bs [101, 112, 111, 99, 104]), (bs [106, 111, 105, 110]), (bs [108, 101, 97, 118, 101]), (bs [109, 97, 114, 107]), (bs [114, 101, 97, 100]), (bs [116, 105, 99, 107]), (bs [116, 114, 105, 109]), (bs [112, 97, 99, 107])]

theorem op_loop {K : Nat} (a : ByteArray) : ∀ (n i : Nat), i ≤ 10 → s_l19Op.l0 K a n ((i + 1 : Nat) : Int) = (sl_Index.l0 K names a n (i : Int)).map fun v => (v.1 + 1, ()) := by
  intro n
  induction n with
  | zero => intro i _; rfl
  | succ n ih =>
    intro i hi
    show s_l19Op.l0b K a (s_l19Op.l0 K a n) ((i + 1 : Nat) : Int) = (sl_Index.l0b K names a (sl_Index.l0 K names a n) (i : Int)).map _
    unfold s_l19Op.l0b sl_Index.l0b
    have hn : ((names.length : Nat) : Int) = 10 := rfl
    rw [hn]
    by_cases h : i = 10
    · rw [bif_f (by omega), bif_f (by omega)]; rfl
    · have e1 : ([ByteArray.empty, (bs [112, 117, 116]), (bs [103, 101, 116]), (bs [101, 112, 111, 99, 104]), (bs [106, 111, 105, 110]), (bs [108, 101, 97, 118, 101]), (bs [109, 97, 114, 107]), (bs [114, 101, 97, 100]), (bs [116, 105, 99, 107]), (bs [116, 114, 105, 109]), (bs [112, 97, 99, 107])].getD (Int.toNat ((i + 1 : Nat) : Int)) ByteArray.empty) = names.getD (Int.toNat (i : Int)) ByteArray.empty := by
        rw [Int.toNat_natCast, Int.toNat_natCast]; rfl
      rw [bif_t (show ((i + 1 : Nat) : Int) < 11 by omega), bif_t (show (0 : Int) ≤ ((i + 1 : Nat) : Int) by omega), bif_t (show ((i + 1 : Nat) : Int) < 11 by omega), bif_t (show (i : Int) < 10 by omega), bif_t (show (0 : Int) ≤ (i : Int) by omega), bif_t (show (i : Int) < 10 by omega), e1, w64_succ (by omega), w64_succ (by omega), ih (i + 1) (by omega)]
      by_cases hc : a.data.toList = (names.getD (Int.toNat (i : Int)) ByteArray.empty).data.toList
      · rw [bif_t hc, bif_t hc.symm]; rfl
      · rw [bif_f hc, bif_f (fun e => hc e.symm)]

theorem op_ok {K : Nat} (hK : 2097152 ≤ K) (a : ByteArray) : ∃ r, sl_Index K names a = some (r, ()) ∧ s_l19Op K a = some (r + 1, ()) ∧ ((r = -1 ∧ a ∉ names) ∨ (0 ≤ r ∧ r < 10 ∧ a ∈ names)) := by
  obtain ⟨r, e, c⟩ := index_ok hK names a (by decide)
  refine ⟨r, e, ?_, c⟩
  unfold s_l19Op s_l19Op.b
  have := op_loop (K := K) a K 0 (by omega)
  unfold sl_Index sl_Index.b at e
  rw [show ((0 : Nat) : Int) = (0 : Int) from rfl, e] at this
  exact this

theorem no_empty : ByteArray.empty ∉ names := by
  intro h
  simp only [names, List.mem_cons, List.not_mem_nil, or_false] at h
  rcases h with h | h | h | h | h | h | h | h | h | h <;> exact absurd (congrArg ByteArray.size h) (by rw [bs_size]; decide)

/- Numbers. -/
def isDig (c : UInt8) : Prop := 48 ≤ c.toNat ∧ c.toNat ≤ 57
def valL (acc : Nat) (l : List UInt8) : Nat := l.foldl (fun x c => x * 10 + (c.toNat - 48)) acc
theorem valL_nil (acc : Nat) : valL acc [] = acc := rfl
theorem valL_cons (acc : Nat) (c : UInt8) (r : List UInt8) : valL acc (c :: r) = valL (acc * 10 + (c.toNat - 48)) r := by
  unfold valL
  rw [List.foldl_cons]

theorem valL_lt (l : List UInt8) : ∀ (k acc : Nat), (∀ c ∈ l, isDig c) → acc + 1 ≤ k → valL acc l + 1 ≤ k * 10 ^ l.length := by
  induction l with
  | nil => intro k acc _ h; simp only [valL_nil, List.length_nil, Nat.pow_zero]; omega
  | cons c r ih =>
    intro k acc hd h
    have hc := hd c List.mem_cons_self
    have := ih (k * 10) (acc * 10 + (c.toNat - 48)) (fun x hx => hd x (List.mem_cons_of_mem _ hx)) (by unfold isDig at hc; omega)
    rw [List.length_cons, Nat.pow_succ, valL_cons]
    calc _ ≤ k * 10 * 10 ^ r.length := this
      _ = _ := by rw [Nat.mul_assoc, Nat.mul_comm 10]

theorem parse_ok : ∀ (l : List UInt8) (acc : Nat), (∀ c ∈ l, isDig c) → acc * 10 ^ l.length + 10 ^ l.length ≤ 1000000 → Lib.parseUint10 acc l = .ok (valL acc l)
  | [], acc, _, _ => rfl
  | c :: r, acc, hd, h => by
    have hc := hd c List.mem_cons_self
    have hp : 0 < 10 ^ r.length := Nat.pow_pos (by decide)
    rw [List.length_cons, Nat.pow_succ] at h
    have e : acc * (10 ^ r.length * 10) = acc * 10 * 10 ^ r.length := by rw [Nat.mul_assoc, Nat.mul_comm 10]
    rw [e] at h
    have h1 : acc * 10 * 1 ≤ acc * 10 * 10 ^ r.length := Nat.mul_le_mul_left _ hp
    unfold isDig at hc
    rw [Lib.parseUint10, if_pos hc, if_neg (by omega), if_neg (by omega), parse_ok r _ (fun x hx => hd x (List.mem_cons_of_mem _ hx)) ?_]
    · rfl
    · rw [Nat.add_mul]
      have h2 : (c.toNat - 48) * 10 ^ r.length ≤ 9 * 10 ^ r.length := Nat.mul_le_mul_right _ (by omega)
      omega

theorem digs_dig : ∀ (k u : Nat), u < 10 ^ k → ∀ c ∈ digs u, isDig c
  | 0, u, h, c, hc => by
    have : u = 0 := by simpa using h
    subst this; simp [digs] at hc
  | k + 1, u, h, c, hc => by
    by_cases h0 : u = 0
    · subst h0; simp [digs] at hc
    · rw [digs_step h0] at hc
      rcases List.mem_append.1 hc with hc | hc
      · exact digs_dig k (u / 10) (by rw [Nat.pow_succ] at h; omega) c hc
      · obtain rfl := List.mem_singleton.1 hc
        have : (UInt8.ofNat (48 + u % 10)).toNat = 48 + u % 10 := by
          rw [UInt8.toNat_ofNat']; omega
        unfold isDig
        omega
theorem itoa_dig {n : Int} (h0 : 0 ≤ n) (h1 : n ≤ 9223372036854775807) : Lib.itoa n ≠ [] ∧ ∀ c ∈ Lib.itoa n, isDig c := by
  by_cases h : n = 0
  · subst h
    rw [show Lib.itoa 0 = [48] by simp [Lib.itoa, Lib.decDigits]]
    exact ⟨by simp, fun c hc => by obtain rfl := List.mem_singleton.1 hc; exact ⟨by decide, by decide⟩⟩
  · rw [itoa_digs n h, if_neg (by omega)]
    refine ⟨?_, digs_dig 19 _ (by omega)⟩
    rw [digs_step (by omega)]
    simp

open Classical in
theorem s_num_loop {K : Nat} (hK : 100 ≤ K) (a : ByteArray) (ha : a.size ≤ 6) : ∀ (d i v n : Nat), i + d = a.size → d < n → v + 1 ≤ 10 ^ i →
    s_l19Num.l0 K a n (v : Int) (i : Int) = some (if (∀ c ∈ a.data.toList.drop i, isDig c) ∧ Lib.itoa ((valL v (a.data.toList.drop i) : Nat) : Int) = a.data.toList then ((valL v (a.data.toList.drop i) : Nat) : Int) else -1, ()) := by
  have hsz := size_list a
  have hp : ∀ i, i ≤ 6 → 10 ^ i ≤ 1000000 := fun i h => Nat.pow_le_pow_right (n := 10) (by decide) h
  intro d
  induction d with
  | zero =>
    intro i v n hi hd hv
    obtain ⟨n, rfl⟩ : ∃ m, n = m + 1 := ⟨n - 1, by omega⟩
    show s_l19Num.l0b K a (s_l19Num.l0 K a n) (v : Int) (i : Int) = _
    unfold s_l19Num.l0b
    have := hp i (by omega)
    rw [bif_f (by omega), bind_ok (s_Digits_ok hK (by omega) (by omega)), show a.data.toList.drop i = [] from List.drop_of_length_le (by omega)]
    rw [valL_nil]
    by_cases h : (itoaB (v : Int)).data.toList = a.data.toList
    · rw [if_pos ⟨by simp, h⟩]; exact bif_nf h
    · rw [if_neg (fun x => h x.2)]; exact bif_nt h
  | succ d ih =>
    intro i v n hi hd hv
    obtain ⟨n, rfl⟩ : ∃ m, n = m + 1 := ⟨n - 1, by omega⟩
    have hlt : i < a.data.toList.length := by omega
    have hpi := hp i (by omega)
    have hb : byteAt a (i : Int) = ((a.data.toList[i]).toNat : Int) := by
      unfold byteAt
      rw [Int.toNat_natCast, getD_get hlt]
    show s_l19Num.l0b K a (s_l19Num.l0 K a n) (v : Int) (i : Int) = _
    unfold s_l19Num.l0b
    rw [bif_t (by omega), bif_t (by omega), bif_t (by omega), hb, List.drop_eq_getElem_cons hlt]
    by_cases h1 : 48 ≤ (a.data.toList[i]).toNat
    · rw [bif_f (by omega), bif_t (by omega), bif_t (by omega)]
      by_cases h2 : (a.data.toList[i]).toNat ≤ 57
      · rw [bif_f (by omega), bif_t (by omega), bif_t (by omega), w64 (n := 10 * (v : Int)) (by omega) (by omega), w64 (n := ((a.data.toList[i]).toNat : Int)) (by omega) (by omega), w64 (n := 10 * (v : Int) + ((a.data.toList[i]).toNat : Int)) (by omega) (by omega), w64 (n := _ - 48) (by omega) (by omega), w64_succ (by omega)]
        rw [show (10 * (v : Int) + ((a.data.toList[i]).toNat : Int)) - 48 = ((v * 10 + ((a.data.toList[i]).toNat - 48) : Nat) : Int) by omega]
        rw [ih (i + 1) _ n (by omega) (by omega) (by rw [Nat.pow_succ]; omega), valL_cons]
        congr 2
        have hi : (∀ c ∈ a.data.toList[i] :: a.data.toList.drop (i + 1), isDig c) ↔ ∀ c ∈ a.data.toList.drop (i + 1), isDig c := by
          simp only [List.mem_cons, forall_eq_or_imp]
          exact ⟨fun x => x.2, fun x => ⟨⟨h1, h2⟩, x⟩⟩
        by_cases hq : (∀ c ∈ a.data.toList.drop (i + 1), isDig c) ∧ Lib.itoa ((valL (v * 10 + ((a.data.toList[i]).toNat - 48)) (a.data.toList.drop (i + 1)) : Nat) : Int) = a.data.toList
        · rw [if_pos hq, if_pos ⟨hi.2 hq.1, hq.2⟩]
        · rw [if_neg hq, if_neg (fun x => hq ⟨hi.1 x.1, x.2⟩)]
      · rw [bif_t (by omega), if_neg]
        intro x
        exact h2 (x.1 _ List.mem_cons_self).2
    · rw [bif_t (by omega), if_neg]
      intro x
      exact h1 (x.1 _ List.mem_cons_self).1

def isNum (a : ByteArray) : Prop := 1 ≤ a.size ∧ a.size ≤ 6 ∧ (∀ c ∈ a.data.toList, isDig c) ∧ Lib.itoa ((valL 0 a.data.toList : Nat) : Int) = a.data.toList

open Classical in
theorem s_num {K : Nat} (hK : 100 ≤ K) (a : ByteArray) : (isNum a ∧ s_l19Num K a = some (((valL 0 a.data.toList : Nat) : Int), ())) ∨ (¬ isNum a ∧ s_l19Num K a = some (-1, ())) := by
  unfold s_l19Num s_l19Num.b
  by_cases h1 : a.size < 1
  · exact Or.inr ⟨fun x => by have := x.1; omega, bif_t (by omega)⟩
  rw [bif_f (by omega)]
  by_cases h2 : a.size > 6
  · exact Or.inr ⟨fun x => by have := x.2.1; omega, bif_t (by omega)⟩
  rw [bif_f (by omega)]
  have := s_num_loop hK a (by omega) a.size 0 0 K (by omega) (by omega) (by decide)
  rw [show ((0 : Nat) : Int) = (0 : Int) from rfl, List.drop_zero] at this
  rw [this]
  by_cases h : (∀ c ∈ a.data.toList, isDig c) ∧ Lib.itoa ((valL 0 a.data.toList : Nat) : Int) = a.data.toList
  · exact Or.inl ⟨⟨by omega, by omega, h⟩, by rw [if_pos h]⟩
  · exact Or.inr ⟨fun x => h x.2.2, by rw [if_neg h]⟩

theorem atoi_dig (l : List UInt8) (hd : ∀ c ∈ l, isDig c) (h1 : l ≠ []) (h6 : l.length ≤ 6) : Lib.atoiAll l = .ok ((valL 0 l : Nat) : Int) := by
  have hp : 10 ^ l.length ≤ 1000000 := Nat.pow_le_pow_right (n := 10) (by decide) h6
  cases l with
  | nil => exact absurd rfl h1
  | cons c r =>
    have hc := hd c List.mem_cons_self
    unfold isDig at hc
    have hv := valL_lt (c :: r) 1 0 hd (by omega)
    unfold Lib.atoiAll
    simp only
    rw [if_neg (by omega), Lib.parseMag, if_neg (by simp), parse_ok (c :: r) 0 hd (by omega)]
    simp only
    rw [if_neg (by omega), if_neg (by omega), if_neg (by omega)]

theorem atoi_bound {l : List UInt8} {n : Int} (h : Lib.atoiAll l = .ok n) : n ≤ 9223372036854775807 := by
  cases l with
  | nil => simp [Lib.atoiAll] at h
  | cons c r =>
    unfold Lib.atoiAll at h
    simp only at h
    split at h
    · cases h
    · cases h
    · rename_i u hu
      have := Lib.parseMag_lt hu
      split at h
      · cases h
      · split at h
        · cases h
        · injection h with h
          split at h <;> omega

theorem i_Digits_ok {n : Int} (h0 : -9223372036854775808 ≤ n) (h1 : n ≤ 9223372036854775807) : i_Digits n = some (itoaB n, ()) := by
  unfold i_Digits
  rw [bind_ok (lItoa_ok h0 h1)]

theorem i_num (a : ByteArray) (ha : a.size ≤ 1048576) : (isNum a ∧ i_numberSaid a = some (((valL 0 a.data.toList : Nat) : Int), true, ())) ∨ (¬ isNum a ∧ ∃ n, i_numberSaid a = some (n, false, ())) := by
  have hsz := size_list a
  unfold i_numberSaid lAtoi
  rw [bif_t (by omega)]
  by_cases hn : isNum a
  · refine Or.inl ⟨hn, ?_⟩
    obtain ⟨n1, n2, n3, n4⟩ := hn
    have hv := valL_lt a.data.toList 1 0 n3 (by omega)
    have hp : 10 ^ a.data.toList.length ≤ 1000000 := Nat.pow_le_pow_right (n := 10) (by decide) (show a.data.toList.length ≤ 6 by omega)
    rw [atoi_dig _ n3 (by intro e; rw [e] at hsz; simp at hsz; omega) (by omega)]
    simp only [Option.bind_some, Bool.not_false, cond_true]
    rw [bif_t (by omega), bif_t (by omega), bind_ok (i_Digits_ok (by omega) (by omega))]
    show some (_, decide ((itoaB _).data.toList = a.data.toList), ()) = _
    rw [decide_eq_true (show (itoaB ((valL 0 a.data.toList : Nat) : Int)).data.toList = a.data.toList from n4)]
  · refine Or.inr ⟨hn, ?_⟩
    cases he : Lib.atoiAll a.data.toList with
    | ok n =>
      simp only [Option.bind_some, Bool.not_false, cond_true]
      by_cases h0 : n ≥ 0
      · rw [bif_t h0]
        by_cases h6 : ((a.size : Nat) : Int) ≤ 6
        · rw [bif_t h6, bind_ok (i_Digits_ok (by omega) (atoi_bound he))]
          refine ⟨n, ?_⟩
          show some (n, decide ((itoaB n).data.toList = a.data.toList), ()) = _
          rw [decide_eq_false]
          intro (hx : Lib.itoa n = a.data.toList)
          have hd := itoa_dig h0 (atoi_bound he)
          rw [hx] at hd
          have hb := atoi_dig _ hd.2 hd.1 (by omega)
          rw [hb] at he
          injection he with he
          refine hn ⟨?_, by omega, hd.2, by rw [he, hx]⟩
          have := List.length_pos_iff.2 hd.1
          omega
        · exact ⟨n, by rw [bif_f h6]⟩
      · exact ⟨n, by rw [bif_f h0]⟩
    | _ => exact ⟨_, rfl⟩

/- Texts. -/
theorem text_loop {K : Nat} (a : ByteArray) : ∀ (n : Nat) (i : Int), s_l2Text.l0 K a n i = i_wordsOk.l0 K a n i := by
  intro n
  induction n with
  | zero => intro i; rfl
  | succ n ih =>
    intro i
    show s_l2Text.l0b K a (s_l2Text.l0 K a n) i = i_wordsOk.l0b K a (i_wordsOk.l0 K a n) i
    unfold s_l2Text.l0b i_wordsOk.l0b
    simp only [ih]
    by_cases h0 : i < ((a.size : Nat) : Int)
    · by_cases h1 : (0 : Int) ≤ i
      · simp only [decide_eq_true h0, decide_eq_true h1, cond_true]
        generalize byteAt a i = c
        by_cases c1 : c < 97
        · have d1 : ¬ c ≥ 97 := by omega
          simp only [decide_eq_true c1, decide_eq_false d1, cond_true, cond_false]
          by_cases c2 : c < 48
          · have d2 : ¬ c ≥ 48 := by omega
            simp only [decide_eq_true c2, decide_eq_false d2, cond_true, cond_false]
          · have d2 : c ≥ 48 := by omega
            simp only [decide_eq_false c2, decide_eq_true d2, cond_true, cond_false]
            by_cases c3 : c > 57
            · have d3 : ¬ c ≤ 57 := by omega
              simp only [decide_eq_true c3, decide_eq_false d3, cond_true, cond_false]
            · have d3 : c ≤ 57 := by omega
              simp only [decide_eq_false c3, decide_eq_true d3, cond_true, cond_false]
        · have d1 : c ≥ 97 := by omega
          simp only [decide_eq_false c1, decide_eq_true d1, cond_true, cond_false]
          by_cases c2 : c > 122
          · have d2 : ¬ c ≤ 122 := by omega
            have d3 : c ≥ 48 := by omega
            have d4 : ¬ c ≤ 57 := by omega
            have d5 : ¬ c < 48 := by omega
            have d6 : c > 57 := by omega
            simp only [decide_eq_true c2, decide_eq_false d2, decide_eq_true d3, decide_eq_false d4, decide_eq_false d5, decide_eq_true d6, cond_true, cond_false]
          · have d2 : c ≤ 122 := by omega
            simp only [decide_eq_false c2, decide_eq_true d2, cond_true, cond_false]
      · simp only [decide_eq_true h0, decide_eq_false h1, cond_true, cond_false]
    · simp only [decide_eq_false h0, cond_false]

theorem text_eq (K : Nat) (a : ByteArray) : s_l2Text K a = i_wordsOk K a := text_loop a K 0

theorem text_some_loop {K : Nat} (a : ByteArray) (ha : a.size ≤ 1048576) : ∀ (d i n : Nat), i + d = a.size → d < n → ∃ b, i_wordsOk.l0 K a n (i : Int) = some (b, ()) := by
  intro d
  induction d with
  | zero =>
    intro i n hi hd
    obtain ⟨n, rfl⟩ : ∃ m, n = m + 1 := ⟨n - 1, by omega⟩
    show ∃ b, i_wordsOk.l0b K a (i_wordsOk.l0 K a n) (i : Int) = _
    unfold i_wordsOk.l0b
    rw [bif_f (by omega)]
    exact ⟨_, rfl⟩
  | succ d ih =>
    intro i n hi hd
    obtain ⟨n, rfl⟩ : ∃ m, n = m + 1 := ⟨n - 1, by omega⟩
    show ∃ b, i_wordsOk.l0b K a (i_wordsOk.l0 K a n) (i : Int) = _
    unfold i_wordsOk.l0b
    rw [bif_t (by omega), bif_t (by omega), bif_t (by omega), w64_succ (by omega)]
    obtain ⟨b, e⟩ := ih (i + 1) n (by omega) (by omega)
    rw [e]
    generalize byteAt a (i : Int) = c
    cases decide (c < 97) <;> cases decide (c < 48) <;> cases decide (c = 32) <;> cases decide (c > 57) <;> cases decide (c > 122) <;> exact ⟨_, rfl⟩

theorem text_some {K : Nat} (hK : 2097152 ≤ K) (a : ByteArray) (ha : a.size ≤ 1048576) : ∃ b, i_wordsOk K a = some (b, ()) :=
  text_some_loop a ha a.size 0 K (by omega) (by omega)

theorem cmdOk_eq (K : Nat) (c : TCmd) : s_CmdOk K c = i_CmdOk K c := by
  unfold s_CmdOk i_CmdOk
  simp only [text_eq]
  rfl

theorem within_ok (x lo hi : Int) : i_within x lo hi = some (decide (lo ≤ x ∧ x ≤ hi), ()) := by
  unfold i_within
  by_cases h : x ≥ lo
  · rw [bif_t h]; congr 2; exact decide_eq_decide.2 ⟨fun x => ⟨h, x⟩, fun x => x.2⟩
  · rw [bif_f h, decide_eq_false (fun x => h x.1)]

theorem cmd_some {K : Nat} (hK : 2097152 ≤ K) (o n1 n2 n3 : Int) (t4 t5 : ByteArray) (h4 : t4.size ≤ 1048576) (h5 : t5.size ≤ 1048576) :
    ∃ b, i_CmdOk K (0, 1, o, n1, n2, n3, t4, t5) = some (b, ()) ∧ (b = true → 1 ≤ o ∧ 0 ≤ n1 ∧ 0 ≤ n2 ∧ 0 ≤ n3) := by
  obtain ⟨b4, e4⟩ := text_some hK t4 h4
  obtain ⟨b5, e5⟩ := text_some hK t5 h5
  unfold i_CmdOk
  rw [bif_f (show ¬ (0 : Int) = -1 by decide)]
  simp only [within_ok, e4, e5, Option.bind_some]
  rw [bif_t (by decide), bif_t (by decide)]
  by_cases c1 : 1 ≤ o ∧ o ≤ 10
  · rw [bif_t c1]
    by_cases c2 : 0 ≤ n1 ∧ n1 ≤ 100000
    · rw [bif_t c2]
      by_cases c3 : 0 ≤ n2 ∧ n2 ≤ 100000
      · rw [bif_t c3]
        by_cases c4 : 0 ≤ n3 ∧ n3 ≤ 100000
        · rw [bif_t c4]
          cases b4
          · exact ⟨false, rfl, fun h => by cases h⟩
          · exact ⟨b5, rfl, fun _ => ⟨c1.1, c2.1, c3.1, c4.1⟩⟩
        · rw [bif_f c4]; exact ⟨false, rfl, fun h => by cases h⟩
      · rw [bif_f c3]; exact ⟨false, rfl, fun h => by cases h⟩
    · rw [bif_f c2]; exact ⟨false, rfl, fun h => by cases h⟩
  · rw [bif_f c1]; exact ⟨false, rfl, fun h => by cases h⟩

theorem num_both {K : Nat} (hK : 100 ≤ K) (a : ByteArray) (ha : a.size ≤ 1048576) : ∃ v n b, s_l19Num K a = some (v, ()) ∧ i_numberSaid a = some (n, b, ()) ∧ (b = true → v = n ∧ 0 ≤ n) ∧ (b = false → v = -1) ∧ (a = ByteArray.empty → b = false) := by
  rcases s_num hK a with ⟨h, e⟩ | ⟨h, e⟩
  · rcases i_num a ha with ⟨h', e'⟩ | ⟨h', e'⟩
    · refine ⟨_, _, true, e, e', fun _ => ⟨rfl, by omega⟩, (fun x => by cases x), fun x => ?_⟩
      subst x
      have := h.1
      exact absurd this (by decide)
    · exact absurd h h'
  · rcases i_num a ha with ⟨h', e'⟩ | ⟨h', n, e'⟩
    · exact absurd h' h
    · exact ⟨_, n, false, e, e', (fun x => by cases x), fun _ => rfl, fun _ => rfl⟩

open Classical in
theorem numbers3 {K : Nat} (hK : 100 ≤ K) {w1 w2 w3 : ByteArray} {n1 n2 n3 : Int} {b1 b2 b3 : Bool} (e1 : i_numberSaid w1 = some (n1, b1, ())) (e2 : i_numberSaid w2 = some (n2, b2, ())) (e3 : i_numberSaid w3 = some (n3, b3, ())) :
    i_numbersSaid K [w1, w2, w3] = some (if b1 = true ∧ b2 = true ∧ b3 = true then ([n1, n2, n3], true, ()) else ([], false, ())) := by
  obtain ⟨k, rfl⟩ : ∃ k, K = k + 4 := ⟨K - 4, by omega⟩
  unfold i_numbersSaid i_numbersSaid.b
  have step : ∀ (n : Nat) (q : List Int) (i : Nat), i < 3 → q.length ≤ 3 → i_numbersSaid.l0 (k + 4) [w1, w2, w3] (n + 1) q (i : Int) = (i_numberSaid ([w1, w2, w3].getD i ByteArray.empty)).bind fun v => bif !v.2.1 then some ([], false, ()) else i_numbersSaid.l0 (k + 4) [w1, w2, w3] n (q ++ [v.1]) ((i + 1 : Nat) : Int) := by
    intro n q i hi hq
    show i_numbersSaid.l0b (k + 4) [w1, w2, w3] (i_numbersSaid.l0 (k + 4) [w1, w2, w3] n) q (i : Int) = _
    unfold i_numbersSaid.l0b
    have hl : (([w1, w2, w3].length : Nat) : Int) = 3 := rfl
    have hg : growTop = 70368744177664 := rfl
    rw [hl, bif_t (by omega), bif_t (by omega), bif_t (by omega), Int.toNat_natCast, w64_succ (by omega)]
    refine congrArg _ (funext fun v => ?_)
    rw [bif_t (show (q.length + [v.1].length) * 9 ≤ growTop by simp only [List.length_cons, List.length_nil]; omega)]
  have fin : ∀ (n : Nat) (q : List Int), i_numbersSaid.l0 (k + 4) [w1, w2, w3] (n + 1) q ((3 : Nat) : Int) = some (q, true, ()) := by
    intro n q
    show i_numbersSaid.l0b (k + 4) [w1, w2, w3] (i_numbersSaid.l0 (k + 4) [w1, w2, w3] n) q ((3 : Nat) : Int) = _
    unfold i_numbersSaid.l0b
    exact bif_f (show ¬ ((3 : Nat) : Int) < ((([w1, w2, w3] : List ByteArray).length : Nat) : Int) by simp only [List.length_cons, List.length_nil]; omega)
  have h0 := step (k + 3) [] 0 (by omega) (by simp)
  have h1 := step (k + 2) [n1] 1 (by omega) (by simp)
  have h2 := step (k + 1) [n1, n2] 2 (by omega) (by simp)
  have h3 := fin k [n1, n2, n3]
  rw [show [w1, w2, w3].getD 0 ByteArray.empty = w1 from rfl, bind_ok e1] at h0
  rw [show [w1, w2, w3].getD 1 ByteArray.empty = w2 from rfl, bind_ok e2] at h1
  rw [show [w1, w2, w3].getD 2 ByteArray.empty = w3 from rfl, bind_ok e3] at h2
  refine h0.trans ?_
  cases b1
  · rfl
  refine h1.trans ?_
  cases b2
  · rfl
  refine h2.trans ?_
  cases b3
  · rfl
  exact h3

theorem l1In_ok (x lo hi : Int) : s_l1In x lo hi = some (decide (lo ≤ x ∧ x ≤ hi), ()) := within_ok x lo hi

theorem empty_iff (w : ByteArray) : (w.data.toList = ByteArray.empty.data.toList) ↔ ByteArray.empty = w := ⟨fun h => (ba_ext h).symm, fun h => by rw [← h]⟩

open Classical in
theorem cmd_spec {K : Nat} (w0 w1 w2 w3 : ByteArray) (t : List ByteArray) (ht : t.length ≤ 2) {o v1 v2 v3 : Int} {b : Bool} (e0 : s_l19Op K w0 = some (o, ())) (e1 : s_l19Num K w1 = some (v1, ())) (e2 : s_l19Num K w2 = some (v2, ())) (e3 : s_l19Num K w3 = some (v3, ()))
    (eb : i_CmdOk K (0, 1, o, v1, v2, v3, t.getD 0 ByteArray.empty, t.getD 1 ByteArray.empty) = some (b, ())) :
    s_l19Cmd K (w0 :: w1 :: w2 :: w3 :: t) = some (if b = true ∧ ByteArray.empty ∉ t then ((0, 1, o, v1, v2, v3, t.getD 0 ByteArray.empty, t.getD 1 ByteArray.empty), true, ()) else ((0, 0, 0, 0, 0, 0, ByteArray.empty, ByteArray.empty), false, ())) := by
  have hl : (((w0 :: w1 :: w2 :: w3 :: t).length : Nat) : Int) = (t.length : Int) + 4 := by simp only [List.length_cons]; omega
  unfold s_l19Cmd
  rw [hl, bind_ok (l1In_ok _ _ _), decide_eq_true (show 4 ≤ (t.length : Int) + 4 ∧ (t.length : Int) + 4 ≤ 6 by omega), bif_ntrue, bif_t (by omega), show (w0 :: w1 :: w2 :: w3 :: t).getD 0 ByteArray.empty = w0 from rfl, bind_ok e0, bif_t (by omega), show (w0 :: w1 :: w2 :: w3 :: t).getD 1 ByteArray.empty = w1 from rfl, bind_ok e1, bif_t (by omega), show (w0 :: w1 :: w2 :: w3 :: t).getD 2 ByteArray.empty = w2 from rfl, bind_ok e2, bif_t (by omega), show (w0 :: w1 :: w2 :: w3 :: t).getD 3 ByteArray.empty = w3 from rfl, bind_ok e3]
  match t, ht with
  | [], _ =>
    rw [bif_f (by simp only [List.length_cons, List.length_nil]; omega), bif_f (by simp only [List.length_cons, List.length_nil]; omega)]
    unfold s_l19Cmd.j1
    rw [cmdOk_eq]
    refine (bind_ok eb).trans ?_
    cases b
    · rw [if_neg (fun x => by cases x.1)]; rfl
    · rw [bif_ntrue, hl, bif_f (by simp only [List.length_cons, List.length_nil]; omega), bif_f (by simp only [List.length_cons, List.length_nil]; omega)]
      rw [if_pos ⟨rfl, by simp⟩]
      rfl
  | [w4], _ =>
    rw [bif_t (by simp only [List.length_cons, List.length_nil]; omega), bif_t (by simp only [List.length_cons, List.length_nil]; omega), bif_f (by simp only [List.length_cons, List.length_nil]; omega)]
    unfold s_l19Cmd.j0
    rw [cmdOk_eq, show (w0 :: w1 :: w2 :: w3 :: [w4]).getD 4 ByteArray.empty = w4 from rfl]
    refine (bind_ok eb).trans ?_
    cases b
    · rw [if_neg (fun x => by cases x.1)]; rfl
    · rw [bif_ntrue, hl, bif_t (by simp only [List.length_cons, List.length_nil]; omega), bif_f (show ¬ (([w4].length : Nat) : Int) + 4 > 5 by simp only [List.length_cons, List.length_nil]; omega)]
      by_cases h : ByteArray.empty = w4
      · rw [bif_t ((empty_iff w4).2 h), if_neg (fun x => x.2 (by rw [h]; exact List.mem_cons_self))]
      · rw [bif_f (fun x => h ((empty_iff w4).1 x)), if_pos ⟨rfl, by simpa using h⟩]
        rfl
  | [w4, w5], _ =>
    rw [bif_t (by simp only [List.length_cons, List.length_nil]; omega), bif_t (by simp only [List.length_cons, List.length_nil]; omega), bif_t (by simp only [List.length_cons, List.length_nil]; omega), bif_t (by simp only [List.length_cons, List.length_nil]; omega)]
    unfold s_l19Cmd.j0
    rw [cmdOk_eq, show (w0 :: w1 :: w2 :: w3 :: [w4, w5]).getD 4 ByteArray.empty = w4 from rfl, show (w0 :: w1 :: w2 :: w3 :: [w4, w5]).getD 5 ByteArray.empty = w5 from rfl]
    refine (bind_ok eb).trans ?_
    cases b
    · rw [if_neg (fun x => by cases x.1)]; rfl
    · rw [bif_ntrue, hl, bif_t (by simp only [List.length_cons, List.length_nil]; omega), bif_t (show (([w4, w5].length : Nat) : Int) + 4 > 5 by simp only [List.length_cons, List.length_nil]; omega)]
      by_cases h : ByteArray.empty = w4
      · rw [bif_t ((empty_iff w4).2 h), if_neg (fun x => x.2 (by rw [h]; exact List.mem_cons_self))]
      · rw [bif_f (fun x => h ((empty_iff w4).1 x))]
        by_cases h5 : ByteArray.empty = w5
        · rw [bif_t ((empty_iff w5).2 h5), if_neg (fun x => x.2 (by rw [h5]; exact List.mem_cons_of_mem _ List.mem_cons_self))]
        · rw [bif_f (fun x => h5 ((empty_iff w5).1 x)), if_pos ⟨rfl, by simp [h, h5]⟩]
          rfl

theorem contains_ok {K : Nat} (hK : 2097152 ≤ K) (l : List ByteArray) (a : ByteArray) (hl : l.length ≤ 1048577) : ∃ b, sl_Contains K l a = some (b, ()) ∧ (b = true ↔ a ∈ l) := by
  obtain ⟨r, e, c⟩ := index_ok hK l a hl
  unfold sl_Contains
  rw [bind_ok e]
  refine ⟨_, rfl, ?_⟩
  rw [decide_eq_true_iff]
  rcases c with ⟨c1, c2⟩ | ⟨c1, c2, c3⟩
  · exact ⟨fun h => by simp only at h; omega, fun h => absurd h c2⟩
  · exact ⟨fun _ => c3, fun _ => c1⟩

open Classical in
theorem cmd_impl {K : Nat} (hK : 2097152 ≤ K) (a w0 w1 w2 w3 : ByteArray) (t : List ByteArray) (ht : t.length ≤ 2) (hw : lSplit a (bs [32]) = some (w0 :: w1 :: w2 :: w3 :: t, ())) {r n1 n2 n3 : Int} {b b1 b2 b3 : Bool} (e0 : sl_Index K names w0 = some (r, ())) (hr : (r = -1 ∧ w0 ∉ names) ∨ (0 ≤ r ∧ r < 10 ∧ w0 ∈ names))
    (e1 : i_numberSaid w1 = some (n1, b1, ())) (e2 : i_numberSaid w2 = some (n2, b2, ())) (e3 : i_numberSaid w3 = some (n3, b3, ()))
    (eb : b1 = true ∧ b2 = true ∧ b3 = true → i_CmdOk K (0, 1, r + 1, n1, n2, n3, t.getD 0 ByteArray.empty, t.getD 1 ByteArray.empty) = some (b, ())) (hb : b = true → 0 ≤ r) :
    i_CmdSaid K a = some (if (b1 = true ∧ b2 = true ∧ b3 = true) ∧ b = true ∧ ByteArray.empty ∉ (w0 :: w1 :: w2 :: w3 :: t) then ((0, 1, r + 1, n1, n2, n3, t.getD 0 ByteArray.empty, t.getD 1 ByteArray.empty), true, ()) else ((0, 0, 0, 0, 0, 0, ByteArray.empty, ByteArray.empty), false, ())) := by
  have hl : (((w0 :: w1 :: w2 :: w3 :: t).length : Nat) : Int) = (t.length : Int) + 4 := by simp only [List.length_cons]; omega
  obtain ⟨c, ec, hc⟩ := contains_ok hK (w0 :: w1 :: w2 :: w3 :: t) ByteArray.empty (by simp only [List.length_cons]; omega)
  unfold i_CmdSaid
  rw [bind_ok hw, hl, bind_ok (within_ok _ _ _), decide_eq_true (show 4 ≤ (t.length : Int) + 4 ∧ (t.length : Int) + 4 ≤ 6 by omega), bif_ntrue, bind_ok ec]
  cases c
  case true =>
    rw [if_neg (fun x => x.2.2 (hc.1 rfl))]
    rfl
  have hne : ByteArray.empty ∉ (w0 :: w1 :: w2 :: w3 :: t) := fun x => by have := hc.2 x; cases this
  simp only [cond_false]
  rw [bif_t (by omega), show (List.take 4 (w0 :: w1 :: w2 :: w3 :: t)).drop 1 = [w1, w2, w3] from rfl, bind_ok (numbers3 (by omega) e1 e2 e3)]
  by_cases hn : b1 = true ∧ b2 = true ∧ b3 = true
  case neg =>
    rw [if_neg hn, if_neg (fun x => hn x.1)]
    rfl
  have eb := eb hn
  rw [if_pos hn]
  unfold i_opNames
  simp only [Option.bind_some, Bool.not_true, cond_false]
  rw [bif_t (by omega), show (w0 :: w1 :: w2 :: w3 :: t).getD 0 ByteArray.empty = w0 from rfl]
  have e0' : sl_Index K [(bs [112, 117, 116]), (bs [103, 101, 116]), (bs [101, 112, 111, 99, 104]), (bs [106, 111, 105, 110]), (bs [108, 101, 97, 118, 101]), (bs [109, 97, 114, 107]), (bs [114, 101, 97, 100]), (bs [116, 105, 99, 107]), (bs [116, 114, 105, 109]), (bs [112, 97, 99, 107])] w0 = some (r, ()) := e0
  have hcn : ∃ c, sl_Contains K [(bs [112, 117, 116]), (bs [103, 101, 116]), (bs [101, 112, 111, 99, 104]), (bs [106, 111, 105, 110]), (bs [108, 101, 97, 118, 101]), (bs [109, 97, 114, 107]), (bs [114, 101, 97, 100]), (bs [116, 105, 99, 107]), (bs [116, 114, 105, 109]), (bs [112, 97, 99, 107])] w0 = some (c, ()) ∧ (c = true ↔ w0 ∈ names) := contains_ok hK names w0 (by decide)
  obtain ⟨c', ec', hc'⟩ := hcn
  have hw1 : IntKind.i64.wrap (r + 1) = r + 1 := w64 (by omega) (by omega)
  rw [bind_ok e0']
  have h3 : ((([n1, n2, n3] : List Int).length : Nat) : Int) = 3 := rfl
  simp only [h3]
  rw [bif_t (show (0 : Int) < 3 by decide), bif_t (show (1 : Int) < 3 by decide), bif_t (show (2 : Int) < 3 by decide)]
  match t, ht with
  | [], _ =>
    rw [bif_f (by simp only [List.length_cons, List.length_nil]; omega), bif_f (by simp only [List.length_cons, List.length_nil]; omega)]
    unfold i_CmdSaid.j1 i_opNames
    simp only [hw1, Option.bind_some]
    by_cases h1 : r + 1 < 1
    · rw [bif_t h1, if_neg (fun x => by have := hb x.2.1; omega)]
    rw [bif_f h1, hl, bif_t (by simp only [List.length_cons, List.length_nil]; omega), show [w0, w1, w2, w3].getD 0 ByteArray.empty = w0 from rfl, bind_ok ec']
    obtain rfl : c' = true := hc'.2 (by rcases hr with h | h; omega; exact h.2.2)
    rw [bif_ntrue]
    refine (bind_ok eb).trans ?_
    cases b
    · rw [if_neg (fun x => by cases x.2.1)]; rfl
    · rw [bif_ntrue, if_pos ⟨hn, rfl, hne⟩]
      rfl
  | [w4], _ =>
    rw [bif_t (by simp only [List.length_cons, List.length_nil]; omega), bif_t (by simp only [List.length_cons, List.length_nil]; omega), bif_f (by simp only [List.length_cons, List.length_nil]; omega)]
    unfold i_CmdSaid.j0 i_opNames
    simp only [hw1, Option.bind_some]
    by_cases h1 : r + 1 < 1
    · rw [bif_t h1, if_neg (fun x => by have := hb x.2.1; omega)]
    rw [bif_f h1, hl, bif_t (by simp only [List.length_cons, List.length_nil]; omega), show [w0, w1, w2, w3, w4].getD 0 ByteArray.empty = w0 from rfl, bind_ok ec']
    obtain rfl : c' = true := hc'.2 (by rcases hr with h | h; omega; exact h.2.2)
    rw [bif_ntrue]
    refine (bind_ok eb).trans ?_
    cases b
    · rw [if_neg (fun x => by cases x.2.1)]; rfl
    · rw [bif_ntrue, if_pos ⟨hn, rfl, hne⟩]
      rfl
  | [w4, w5], _ =>
    rw [bif_t (by simp only [List.length_cons, List.length_nil]; omega), bif_t (by simp only [List.length_cons, List.length_nil]; omega), bif_t (by simp only [List.length_cons, List.length_nil]; omega), bif_t (by simp only [List.length_cons, List.length_nil]; omega)]
    unfold i_CmdSaid.j0 i_opNames
    simp only [hw1, Option.bind_some]
    by_cases h1 : r + 1 < 1
    · rw [bif_t h1, if_neg (fun x => by have := hb x.2.1; omega)]
    rw [bif_f h1, hl, bif_t (by simp only [List.length_cons, List.length_nil]; omega), show [w0, w1, w2, w3, w4, w5].getD 0 ByteArray.empty = w0 from rfl, bind_ok ec']
    obtain rfl : c' = true := hc'.2 (by rcases hr with h | h; omega; exact h.2.2)
    rw [bif_ntrue]
    refine (bind_ok eb).trans ?_
    cases b
    · rw [if_neg (fun x => by cases x.2.1)]; rfl
    · rw [bif_ntrue, if_pos ⟨hn, rfl, hne⟩]
      rfl

theorem four {α : Type} (l : List α) (h4 : 4 ≤ l.length) (h6 : l.length ≤ 6) : ∃ w0 w1 w2 w3 t, l = w0 :: w1 :: w2 :: w3 :: t ∧ t.length ≤ 2 := by
  match l, h4, h6 with
  | w0 :: w1 :: w2 :: w3 :: t, _, h6 => exact ⟨w0, w1, w2, w3, t, rfl, by simp only [List.length_cons] at h6; omega⟩

open Classical in
theorem said_both {K : Nat} (hK : 2097152 ≤ K) (a : ByteArray) (ha : a.size ≤ 1048576) : ∃ c b, s_CmdSaid K a = some (c, b, ()) ∧ i_CmdSaid K a = some (c, b, ()) ∧ (b = true → i_CmdOk K c = some (true, ())) := by
  have hs := s_words hK a ha
  have hi := lSplit_words a ha
  have hmem : ∀ w ∈ wordsB a, w.size ≤ 1048576 := by
    intro w hw
    obtain ⟨l, hl, rfl⟩ := List.mem_map.1 hw
    have := wordsL_mem _ _ l hl
    rw [bs_size]
    rw [size_list] at this
    simp only [List.length_nil] at this
    omega
  have hlen : (wordsB a).length ≤ 1048577 := by
    have := wordsL_len a.data.toList []
    rw [size_list] at this
    unfold wordsB
    rw [List.length_map]
    omega
  generalize wordsB a = ws at hs hi hmem hlen
  unfold s_CmdSaid
  rw [bind_ok hs]
  simp only
  by_cases h : 4 ≤ ws.length ∧ ws.length ≤ 6
  case neg =>
    refine ⟨(0, 0, 0, 0, 0, 0, ByteArray.empty, ByteArray.empty), false, ?_, ?_, (fun x => by cases x)⟩
    · unfold s_l19Cmd
      rw [bind_ok (l1In_ok _ _ _), decide_eq_false (by omega)]
      rfl
    · unfold i_CmdSaid
      rw [bind_ok hi, bind_ok (within_ok _ _ _), decide_eq_false (show ¬ (4 ≤ ((ws.length : Nat) : Int) ∧ ((ws.length : Nat) : Int) ≤ 6) by omega)]
      rfl
  obtain ⟨w0, w1, w2, w3, t, rfl, ht⟩ := four ws h.1 h.2
  simp only [List.mem_cons, forall_eq_or_imp] at hmem
  obtain ⟨m0, m1, m2, m3, mt⟩ := hmem
  have mz : ByteArray.empty.size ≤ 1048576 := by decide
  have mg : ∀ i, (t.getD i ByteArray.empty).size ≤ 1048576 := by
    intro i
    by_cases hi : i < t.length
    · rw [getD_get hi]; exact mt _ (List.getElem_mem hi)
    · rw [List.getD_eq_getElem?_getD, List.getElem?_eq_none (by omega)]; exact mz
  obtain ⟨r, o1, o2, o3⟩ := op_ok hK w0
  obtain ⟨v1, n1, b1, p1, q1, x1, y1, z1⟩ := num_both (K := K) (by omega) w1 m1
  obtain ⟨v2, n2, b2, p2, q2, x2, y2, z2⟩ := num_both (K := K) (by omega) w2 m2
  obtain ⟨v3, n3, b3, p3, q3, x3, y3, z3⟩ := num_both (K := K) (by omega) w3 m3
  obtain ⟨b, eb, hb⟩ := cmd_some hK (r + 1) v1 v2 v3 (t.getD 0 ByteArray.empty) (t.getD 1 ByteArray.empty) (mg 0) (mg 1)
  have S := cmd_spec w0 w1 w2 w3 t ht o2 p1 p2 p3 eb
  have I := cmd_impl hK a w0 w1 w2 w3 t ht hi o1 o3 q1 q2 q3 (b := b) (fun hn => by rw [← (x1 hn.1).1, ← (x2 hn.2.1).1, ← (x3 hn.2.2).1]; exact eb) (fun h => by have := (hb h).1; omega)
  rw [bind_ok S, I]
  by_cases hc : b = true ∧ ByteArray.empty ∉ t
  · rw [if_pos hc]
    have hb' := hb hc.1
    have t1 : b1 = true := by cases b1 with | true => rfl | false => have := y1 rfl; omega
    have t2 : b2 = true := by cases b2 with | true => rfl | false => have := y2 rfl; omega
    have t3 : b3 = true := by cases b3 with | true => rfl | false => have := y3 rfl; omega
    rw [if_pos, (x1 t1).1, (x2 t2).1, (x3 t3).1]
    · refine ⟨_, _, rfl, rfl, fun _ => ?_⟩
      rw [hc.1, (x1 t1).1, (x2 t2).1, (x3 t3).1] at eb
      exact eb
    · refine ⟨⟨t1, t2, t3⟩, hc.1, fun hm => ?_⟩
      rcases List.mem_cons.1 hm with e | hm
      · rcases o3 with h | h
        · omega
        · exact no_empty (e ▸ h.2.2)
      rcases List.mem_cons.1 hm with e | hm
      · rw [z1 e.symm] at t1; cases t1
      rcases List.mem_cons.1 hm with e | hm
      · rw [z2 e.symm] at t2; cases t2
      rcases List.mem_cons.1 hm with e | hm
      · rw [z3 e.symm] at t3; cases t3
      exact hc.2 hm
  · rw [if_neg hc, if_neg]
    · exact ⟨_, _, rfl, rfl, (fun x => by cases x)⟩
    · intro x
      exact hc ⟨x.2.1, fun hm => x.2.2 (by simp [hm])⟩


/- Draws. -/
def WC (c : Tl1Cur) : Prop := 0 ≤ c.2.1 ∧ c.1.length ≤ 1048576

theorem and255 (z : BitVec (IntKind.bits .i64)) : 0 ≤ IntKind.i64.wrap ((z &&& BitVec.ofInt (IntKind.bits .i64) 255).toNat : Int) ∧ IntKind.i64.wrap ((z &&& BitVec.ofInt (IntKind.bits .i64) 255).toNat : Int) ≤ 255 := by
  have h : (z &&& BitVec.ofInt (IntKind.bits .i64) 255).toNat ≤ 255 := by
    rw [BitVec.toNat_and]
    exact Nat.and_le_right
  rw [w64 (by omega) (by omega)]
  omega

theorem byte_ok (c : Tl1Cur) (h : WC c) : ∃ x c', s_l1Byte c = some (x, c', ()) ∧ 0 ≤ x ∧ x ≤ 255 ∧ WC c' := by
  obtain ⟨h1, h2⟩ := h
  unfold s_l1Byte
  by_cases hc : c.2.1 < ((c.1.length : Nat) : Int)
  · rw [bif_t hc, bif_t h1, bif_t hc]
    refine ⟨_, _, rfl, (and255 _).1, (and255 _).2, ?_, h2⟩
    show 0 ≤ IntKind.i64.wrap (c.2.1 + 1)
    rw [w64 (by omega) (by omega)]
    omega
  · rw [bif_f hc]
    exact ⟨_, _, rfl, (and255 _).1, (and255 _).2, h1, h2⟩

theorem below_ok (c : Tl1Cur) (h : WC c) (n : Int) : ∃ x c', s_l1Below c n = some (x, c', ()) ∧ WC c' ∧ 0 ≤ x ∧ (0 < n → x < n) := by
  unfold s_l1Below
  by_cases h0 : n ≤ 0
  · exact ⟨0, c, bif_t h0, h, Int.le_refl _, fun k => by omega⟩
  rw [bif_f h0]
  obtain ⟨x, c1, e1, x0, x1, k1⟩ := byte_ok c h
  by_cases h1 : n ≤ 256
  · rw [bif_t h1, bind_ok e1, bif_t (by omega)]
    exact ⟨_, _, rfl, k1, Int.tmod_nonneg _ x0, fun _ => Int.tmod_lt_of_pos _ (by omega)⟩
  obtain ⟨y, c2, e2, y0, y1, k2⟩ := byte_ok c1 k1
  obtain ⟨z, c3, e3, z0, z1, k3⟩ := byte_ok c2 k2
  obtain ⟨w, c4, e4, w0, w1, k4⟩ := byte_ok c3 k3
  rw [bif_f h1, bind_ok e1, bind_ok e2, bind_ok e3, bind_ok e4, bif_t (by omega)]
  refine ⟨_, _, rfl, k4, ?_, fun _ => Int.tmod_lt_of_pos _ (by omega)⟩
  refine Int.tmod_nonneg _ ?_
  show 0 ≤ IntKind.i64.wrap ((IntKind.i64.wrap ((IntKind.i64.wrap ((IntKind.i64.wrap (x * 16777216)) + (IntKind.i64.wrap (y * 65536)))) + (IntKind.i64.wrap (z * 256)))) + w)
  rw [w64 (n := x * 16777216) (by omega) (by omega), w64 (n := y * 65536) (by omega) (by omega), w64 (n := x * 16777216 + y * 65536) (by omega) (by omega), w64 (n := z * 256) (by omega) (by omega), w64 (n := x * 16777216 + y * 65536 + z * 256) (by omega) (by omega), w64 (by omega) (by omega)]
  omega

theorem once_ok (c : Tl1Cur) (h : WC c) (n : Int) : ∃ b c', s_l1Once c n = some (b, c', ()) ∧ WC c' := by
  obtain ⟨x, c1, e1, k1, _⟩ := below_ok c h n
  unfold s_l1Once
  rw [bind_ok e1]
  exact ⟨_, _, rfl, k1⟩

theorem pickInt_ok (c : Tl1Cur) (h : WC c) (l : List Int) (hl : 0 < l.length) : ∃ x c', s_l1PickInt c l = some (x, c', ()) ∧ WC c' ∧ x ∈ l := by
  obtain ⟨x, c1, e1, k1, x0, x1⟩ := below_ok c h ((l.length : Nat) : Int)
  have x1 := x1 (by omega)
  unfold s_l1PickInt
  rw [bind_ok e1, bif_t x0, bif_t x1]
  have hx : x.toNat < l.length := by omega
  refine ⟨_, _, rfl, k1, ?_⟩
  show l.getD x.toNat 0 ∈ l
  rw [getD_get hx]
  exact List.getElem_mem hx

theorem pick_ok (c : Tl1Cur) (h : WC c) (l : List ByteArray) (hl : 0 < l.length) : ∃ x c', s_l1Pick c l = some (x, c', ()) ∧ WC c' ∧ x ∈ l := by
  obtain ⟨x, c1, e1, k1, x0, x1⟩ := below_ok c h ((l.length : Nat) : Int)
  have x1 := x1 (by omega)
  unfold s_l1Pick
  rw [bind_ok e1, bif_t x0, bif_t x1]
  have hx : x.toNat < l.length := by omega
  refine ⟨_, _, rfl, k1, ?_⟩
  show l.getD x.toNat ByteArray.empty ∈ l
  rw [getD_get hx]
  exact List.getElem_mem hx

theorem new_loop {K : Nat} (a : List Int) (ha : a.length ≤ 1048576) : ∀ (d i : Nat) (q : Int) (n : Nat), i + d = 4000 → d < n → ∃ h, s_l1New.l0 K a n q (i : Int) = some ((a, 0, h), ()) := by
  intro d
  induction d with
  | zero =>
    intro i q n hi hd
    obtain ⟨n, rfl⟩ : ∃ m, n = m + 1 := ⟨n - 1, by omega⟩
    show ∃ h, s_l1New.l0b K a (s_l1New.l0 K a n) q (i : Int) = _
    unfold s_l1New.l0b
    by_cases h : (i : Int) < ((a.length : Nat) : Int)
    · rw [bif_t h, bif_f (by omega)]; exact ⟨_, rfl⟩
    · rw [bif_f h]; exact ⟨_, rfl⟩
  | succ d ih =>
    intro i q n hi hd
    obtain ⟨n, rfl⟩ : ∃ m, n = m + 1 := ⟨n - 1, by omega⟩
    show ∃ h, s_l1New.l0b K a (s_l1New.l0 K a n) q (i : Int) = _
    unfold s_l1New.l0b
    by_cases h : (i : Int) < ((a.length : Nat) : Int)
    · rw [bif_t h, bif_t (by omega), bif_t (by omega), bif_t h, w64_succ (by omega)]
      exact ih (i + 1) _ n (by omega) (by omega)
    · rw [bif_f h]; exact ⟨_, rfl⟩

theorem new_ok {K : Nat} (hK : 2097152 ≤ K) (a : List Int) (ha : a.length ≤ 1048576) : ∃ c, s_l1New K a = some (c, ()) ∧ WC c := by
  unfold s_l1New s_l1New.b
  obtain ⟨h, e⟩ := new_loop (K := K) a ha 4000 0 (IntKind.i64.wrap (24548 + ((a.length : Nat) : Int))) K (by omega) (by omega)
  exact ⟨_, e, Int.le_refl _, ha⟩

/-- A command whose numbers and texts are of a size. -/
def WCmd (c : TCmd) : Prop := (-9223372036854775808 ≤ c.1 ∧ c.1 ≤ 9223372036854775807) ∧ (-9223372036854775808 ≤ c.2.1 ∧ c.2.1 ≤ 9223372036854775807) ∧ (-9223372036854775808 ≤ c.2.2.1 ∧ c.2.2.1 ≤ 9223372036854775807) ∧
  (-9223372036854775808 ≤ c.2.2.2.1 ∧ c.2.2.2.1 ≤ 9223372036854775807) ∧ (-9223372036854775808 ≤ c.2.2.2.2.1 ∧ c.2.2.2.2.1 ≤ 9223372036854775807) ∧ (-9223372036854775808 ≤ c.2.2.2.2.2.1 ∧ c.2.2.2.2.2.1 ≤ 9223372036854775807) ∧
  c.2.2.2.2.2.2.1.size ≤ 1048576 ∧ c.2.2.2.2.2.2.2.size ≤ 1048576

theorem in_small (l : List Int) (h : l.all (fun x => decide (-9223372036854775808 ≤ x) && decide (x ≤ 9223372036854775807)) = true) {x : Int} (hx : x ∈ l) : -9223372036854775808 ≤ x ∧ x ≤ 9223372036854775807 := by
  have := List.all_eq_true.1 h x hx
  simpa using this
theorem in_short (l : List ByteArray) (h : l.all (fun x => decide (x.size ≤ 100)) = true) {x : ByteArray} (hx : x ∈ l) : x.size ≤ 100 := by
  have := List.all_eq_true.1 h x hx
  simpa using this

theorem drawText_ok (c : Tl1Cur) (h : WC c) : ∃ x c', s_l2DrawText c = some (x, c', ()) ∧ WC c' ∧ x.size ≤ 100 := by
  obtain ⟨x, c1, e1, k1, m⟩ := pick_ok c h [ByteArray.empty, (bs [97]), (bs [98]), (bs [107, 32, 49]), (bs [116, 101, 120, 116])] (by decide)
  unfold s_l2DrawText
  rw [bind_ok e1]
  exact ⟨_, _, rfl, k1, in_short _ (by decide) m⟩

theorem drawBody_ok (c : Tl1Cur) (h : WC c) : ∃ x c', s_l2DrawBody c = some (x, c', ()) ∧ WC c' ∧ WCmd x := by
  obtain ⟨o, c1, e1, k1, m1⟩ := pickInt_ok c h [1, 1, 1, 2, 2, 3, 4, 4, 5, 6, 7, 8, 9, 10] (by decide)
  obtain ⟨x2, c2, e2, k2, a2, b2⟩ := below_ok c1 k1 3
  obtain ⟨x3, c3, e3, k3, a3, b3⟩ := below_ok c2 k2 4
  obtain ⟨x4, c4, e4, k4, a4, b4⟩ := below_ok c3 k3 3
  have b2 := b2 (by decide)
  have b3 := b3 (by decide)
  have b4 := b4 (by decide)
  have m1 := in_small _ (by decide) m1
  have z0 : ByteArray.empty.size ≤ 1048576 := by decide
  unfold s_l2DrawBody
  rw [bind_ok e1, bind_ok e2, bind_ok e3, bind_ok e4]
  by_cases h1 : o = 1
  · obtain ⟨t5, c5, e5, k5, s5⟩ := drawText_ok c4 k4
    obtain ⟨t6, c6, e6, k6, s6⟩ := drawText_ok c5 k5
    obtain ⟨x7, c7, e7, k7, m7⟩ := pickInt_ok c6 k6 [0, 0, 0, 1] (by decide)
    have m7 := in_small _ (by decide) m7
    rw [bif_t h1, bind_ok e5, bind_ok e6, bind_ok e7]
    refine ⟨_, _, rfl, k7, ?_⟩
    unfold WCmd
    dsimp only
    omega
  rw [bif_f h1]
  by_cases h8 : o = 8
  · obtain ⟨x7, c7, e7, k7, m7⟩ := pickInt_ok c4 k4 [0, 10, 60] (by decide)
    have m7 := in_small _ (by decide) m7
    rw [bif_t h8, bind_ok e7]
    refine ⟨_, _, rfl, k7, ?_⟩
    unfold WCmd
    dsimp only
    omega
  rw [bif_f h8]
  refine ⟨_, _, rfl, k4, ?_⟩
  unfold WCmd
  dsimp only
  omega

theorem drawRight_ok (c : Tl1Cur) (h : WC c) : ∃ x c', s_l2DrawRight c = some (x, c', ()) ∧ WC c' ∧ WCmd x := by
  obtain ⟨o, c1, e1, k1⟩ := once_ok c h 10
  have z0 : ByteArray.empty.size ≤ 1048576 := by decide
  unfold s_l2DrawRight
  rw [bind_ok e1]
  cases o
  · obtain ⟨x, c2, e2, k2, m2⟩ := drawBody_ok c1 k1
    obtain ⟨x3, c3, e3, k3, a3, b3⟩ := below_ok c2 k2 4
    obtain ⟨x4, c4, e4, k4, a4, b4⟩ := below_ok c3 k3 6
    have b3 := b3 (by decide)
    have b4 := b4 (by decide)
    simp only [cond_false]
    rw [bind_ok e2, bind_ok e3, bind_ok e4]
    refine ⟨_, _, rfl, k4, ?_⟩
    unfold WCmd at m2 ⊢
    dsimp only
    rw [w64 (by omega) (by omega)]
    omega
  · refine ⟨_, _, rfl, k1, ?_⟩
    unfold WCmd
    dsimp only
    omega

theorem spoil_ok (c : Tl1Cur) (h : WC c) (x : TCmd) (hx : WCmd x) : ∃ y c', s_l2Spoil c x = some (y, c', ()) ∧ WC c' ∧ WCmd y := by
  obtain ⟨o, c1, e1, k1, _⟩ := below_ok c h 14
  unfold s_l2Spoil
  rw [bind_ok e1]
  by_cases h0 : o = 0
  · obtain ⟨x7, c7, e7, k7, m7⟩ := pickInt_ok c1 k1 [(-2), (-1), 3, 4] (by decide)
    have m7 := in_small _ (by decide) m7
    rw [bif_t h0, bind_ok e7]
    refine ⟨_, _, rfl, k7, ?_⟩
    unfold WCmd at hx ⊢
    dsimp only
    omega
  rw [bif_f h0]
  by_cases h1 : o = 1
  · obtain ⟨x7, c7, e7, k7, m7⟩ := pickInt_ok c1 k1 [0, (-1), 100000, 100001] (by decide)
    have m7 := in_small _ (by decide) m7
    rw [bif_t h1, bind_ok e7]
    refine ⟨_, _, rfl, k7, ?_⟩
    unfold WCmd at hx ⊢
    dsimp only
    omega
  rw [bif_f h1]
  by_cases h2 : o = 2
  · obtain ⟨x7, c7, e7, k7, m7⟩ := pickInt_ok c1 k1 [(-1), 0, 10, 11] (by decide)
    have m7 := in_small _ (by decide) m7
    rw [bif_t h2, bind_ok e7]
    refine ⟨_, _, rfl, k7, ?_⟩
    unfold WCmd at hx ⊢
    dsimp only
    omega
  rw [bif_f h2]
  by_cases h3 : o = 3
  · obtain ⟨x7, c7, e7, k7, m7⟩ := pickInt_ok c1 k1 [(-1), 100000, 100001, (-9223372036854775808)] (by decide)
    have m7 := in_small _ (by decide) m7
    rw [bif_t h3, bind_ok e7]
    refine ⟨_, _, rfl, k7, ?_⟩
    unfold WCmd at hx ⊢
    dsimp only
    omega
  rw [bif_f h3]
  by_cases h4 : o = 4
  · obtain ⟨x7, c7, e7, k7, m7⟩ := pick_ok c1 k1 [(bs [65]), (bs [48, 49, 50, 51, 52, 53, 54, 55, 56, 57, 48, 49, 50, 51, 52, 53, 54, 55, 56, 57, 48, 49, 50, 51, 52, 53, 54, 55, 56, 57, 48])] (by decide)
    have m7 := in_short _ (by decide) m7
    rw [bif_t h4, bind_ok e7]
    refine ⟨_, _, rfl, k7, ?_⟩
    unfold WCmd at hx ⊢
    dsimp only
    omega
  rw [bif_f h4]
  exact ⟨_, _, rfl, k1, hx⟩

theorem drawCmd_ok {K : Nat} (hK : 2097152 ≤ K) (a : List Int) (ha : a.length ≤ 1048576) : ∃ x, s_DrawCmdOk K a = some (x, ()) ∧ WCmd x := by
  obtain ⟨c, e, k⟩ := new_ok hK a ha
  obtain ⟨x, c1, e1, k1, m1⟩ := drawRight_ok c k
  obtain ⟨y, c2, e2, k2, m2⟩ := spoil_ok c1 k1 x m1
  unfold s_DrawCmdOk
  rw [bind_ok e, bind_ok e1, bind_ok e2]
  exact ⟨_, rfl, m2⟩

theorem drawDigits_ok {K : Nat} (hK : 2097152 ≤ K) (a : List Int) (ha : a.length ≤ 1048576) : ∃ x, s_DrawDigits K a = some (x, ()) ∧ -9223372036854775808 ≤ x ∧ x ≤ 9223372036854775807 := by
  obtain ⟨c, e, k⟩ := new_ok hK a ha
  obtain ⟨x, c1, e1, k1, m1⟩ := pickInt_ok c k [0, 7, (-12), 100000, 9223372036854775807, (-9223372036854775808)] (by decide)
  unfold s_DrawDigits
  rw [bind_ok e, bind_ok e1]
  exact ⟨_, rfl, in_small _ (by decide) m1⟩

theorem drawSetup_ok {K : Nat} (hK : 2097152 ≤ K) (a : List Int) (ha : a.length ≤ 1048576) : ∃ x, s_DrawSetupOk K a = some (x, ()) := by
  obtain ⟨c, e, k⟩ := new_ok hK a ha
  unfold s_DrawSetupOk
  rw [bind_ok e]
  have right : ∃ x c', s_l1DrawRight c = some (x, c', ()) ∧ WC c' := by
    obtain ⟨x1, c1, e1, k1, _⟩ := below_ok c k 3
    obtain ⟨x2, c2, e2, k2, _⟩ := pickInt_ok c1 k1 [1, 2, 5] (by decide)
    obtain ⟨x3, c3, e3, k3, _⟩ := pickInt_ok c2 k2 [1, 2, 3, 8] (by decide)
    obtain ⟨x4, c4, e4, k4, _⟩ := pickInt_ok c3 k3 [0, 1, 3, 10] (by decide)
    unfold s_l1DrawRight
    rw [bind_ok e1, bind_ok e2, bind_ok e3, bind_ok e4]
    exact ⟨_, _, rfl, k4⟩
  obtain ⟨x, c1, e1, k1⟩ := right
  obtain ⟨o, c2, e2, k2, _⟩ := below_ok c1 k1 12
  have draw : ∃ x c', s_l1Draw c = some (x, c', ()) := by
    unfold s_l1Draw
    rw [bind_ok e1, bind_ok e2]
    by_cases h0 : o = 0
    · obtain ⟨x3, c3, e3, k3, _⟩ := pickInt_ok c2 k2 [(-1), 0, 4, 5] (by decide)
      rw [bif_t h0, bind_ok e3]; exact ⟨_, _, rfl⟩
    rw [bif_f h0]
    by_cases h1 : o = 1
    · obtain ⟨x3, c3, e3, k3, _⟩ := pickInt_ok c2 k2 [0, 6] (by decide)
      rw [bif_t h1, bind_ok e3]; exact ⟨_, _, rfl⟩
    rw [bif_f h1]
    by_cases h2 : o = 2
    · obtain ⟨x3, c3, e3, k3, _⟩ := pickInt_ok c2 k2 [0, 9] (by decide)
      rw [bif_t h2, bind_ok e3]; exact ⟨_, _, rfl⟩
    rw [bif_f h2]
    by_cases h3 : o = 3
    · obtain ⟨x3, c3, e3, k3, _⟩ := pickInt_ok c2 k2 [(-1), 60, 61] (by decide)
      rw [bif_t h3, bind_ok e3]; exact ⟨_, _, rfl⟩
    rw [bif_f h3]
    exact ⟨_, _, rfl⟩
  obtain ⟨y, c3, e3⟩ := draw
  rw [bind_ok e3]
  exact ⟨_, rfl⟩

theorem ext_size (a : ByteArray) (i j : Nat) : (a.extract i j).size ≤ a.size := by
  rw [ByteArray.size_extract]; omega

theorem drawSaid_ok {K : Nat} (hK : 2097152 ≤ K) (a : List Int) (ha : a.length ≤ 1048576) : ∃ x, s_DrawCmdSaid K a = some (x, ()) ∧ x.size ≤ 1048576 := by
  obtain ⟨c, e, k⟩ := new_ok hK a ha
  have said : ∃ x c', s_l19DrawCmd c = some (x, c', ()) ∧ WC c' ∧ x.size ≤ 100 := by
    unfold s_l19DrawCmd
    obtain ⟨x, c1, e1, k1, m⟩ := pick_ok c k _ (show 0 < [(bs [112, 117, 116, 32, 48, 32, 48, 32, 48, 32, 107, 32, 116, 101, 120, 116]), (bs [112, 117, 116, 32, 48, 32, 49, 32, 48]), (bs [103, 101, 116, 32, 48, 32, 48, 32, 48]), (bs [106, 111, 105, 110, 32, 48, 32, 48, 32, 48]), (bs [109, 97, 114, 107, 32, 48, 32, 48, 32, 53]), (bs [116, 105, 99, 107, 32, 54, 48, 32, 48, 32, 48]), (bs [116, 114, 105, 109, 32, 48, 32, 48, 32, 48]), (bs [114, 101, 97, 100, 32, 48, 32, 48, 32, 48]), (bs [112, 117, 116, 32, 48, 32, 48]), (bs [103, 101, 116, 32, 48, 48, 32, 48, 32, 48]), (bs [101, 112, 111, 99, 104, 32, 48, 32, 50, 32, 48]), (bs [112, 97, 99, 107, 32, 48, 32, 48, 32, 48, 32, 97]), (bs [112, 117, 116, 32, 48, 32, 48, 32, 48, 32, 65])].length by decide)
    rw [bind_ok e1]
    exact ⟨_, _, rfl, k1, in_short _ (by decide) m⟩
  obtain ⟨x, c1, e1, k1, s1⟩ := said
  obtain ⟨y, c2, e2, k2, y0, y1⟩ := below_ok c1 k1 (IntKind.i64.wrap (((x.size : Nat) : Int) + 1))
  obtain ⟨b, c3, e3, k3⟩ := once_ok c2 k2 4
  rw [w64 (by omega) (by omega)] at y1
  have y1 := y1 (by omega)
  unfold s_DrawCmdSaid
  rw [bind_ok e, bind_ok e1, bind_ok e2, bind_ok e3]
  cases b
  · exact ⟨_, rfl, by dsimp only; omega⟩
  · obtain ⟨z, c4, e4, k4, m⟩ := pick_ok c3 k3 [(bs [32]), (bs [48]), (bs [120]), (bs [45])] (by decide)
    have s4 := in_short _ (by decide) m
    have q1 := ext_size x 0 (Int.toNat y)
    have q2 := ext_size x (Int.toNat y) (Int.toNat ((x.size : Nat) : Int))
    simp only [cond_true]
    rw [bif_t y0, bif_t (by omega), bind_ok e4]
    rw [bif_fit (by dsimp only; omega), bif_t y0, bif_t (by omega), bif_t (Int.le_refl _), bif_fit (by rw [sapp_size]; dsimp only; omega)]
    refine ⟨_, rfl, ?_⟩
    rw [sapp_size, sapp_size]
    dsimp only
    omega

theorem ok_some {K : Nat} (hK : 2097152 ≤ K) (c : TCmd) (hc : WCmd c) : ∃ b, i_CmdOk K c = some (b, ()) := by
  obtain ⟨b4, e4⟩ := text_some hK c.2.2.2.2.2.2.1 hc.2.2.2.2.2.2.1
  obtain ⟨b5, e5⟩ := text_some hK c.2.2.2.2.2.2.2 hc.2.2.2.2.2.2.2
  unfold i_CmdOk
  simp only [within_ok, e4, e5, Option.bind_some]
  cases decide (c.1 = -1) <;> cases decide (0 ≤ c.1 ∧ c.1 ≤ 3) <;> cases decide (1 ≤ c.2.1 ∧ c.2.1 ≤ 100000) <;> cases decide (1 ≤ c.2.2.1 ∧ c.2.2.1 ≤ 10) <;> cases decide (0 ≤ c.2.2.2.1 ∧ c.2.2.2.1 ≤ 100000) <;> cases decide (0 ≤ c.2.2.2.2.1 ∧ c.2.2.2.2.1 ≤ 100000) <;> cases decide (0 ≤ c.2.2.2.2.2.1 ∧ c.2.2.2.2.2.1 ≤ 100000) <;> cases b4 <;> exact ⟨_, rfl⟩

/- The text of a command. -/
def names11 : List ByteArray := [(bs [110, 111, 110, 101]), (bs [112, 117, 116]), (bs [103, 101, 116]), (bs [101, 112, 111, 99, 104]), (bs [106, 111, 105, 110]), (bs [108, 101, 97, 118, 101]), (bs [109, 97, 114, 107]), (bs [114, 101, 97, 100]), (bs [116, 105, 99, 107]), (bs [116, 114, 105, 109]), (bs [112, 97, 99, 107])]

def cmdT (c : TCmd) (nm : List UInt8) : List UInt8 :=
  Lib.itoa c.1 ++ (46 :: (Lib.itoa c.2.1 ++ (32 :: (nm ++ (32 :: (Lib.itoa c.2.2.2.1 ++ (32 :: (Lib.itoa c.2.2.2.2.1 ++ (32 :: (Lib.itoa c.2.2.2.2.2.1 ++ (32 :: 60 :: (c.2.2.2.2.2.2.1.data.toList ++ (62 :: 32 :: 60 :: (c.2.2.2.2.2.2.2.data.toList ++ [62]))))))))))))))

theorem s_text {K : Nat} (hK : 2097152 ≤ K) (c : TCmd) (hc : WCmd c) (p : Nat) (hp : p < 11) : s_CmdText.j0 K c (p : Int) = some (bs (cmdT c (names11.getD p ByteArray.empty).data.toList), ()) := by
  obtain ⟨h1, h2, h3, h4, h5, h6, h7, h8⟩ := hc
  have hn : (names11.getD p ByteArray.empty).size ≤ 100 := by
    rw [getD_get (by exact hp)]
    exact in_short names11 (by decide) (List.getElem_mem _)
  have z1 := itoaB_size h1.1 h1.2
  have z2 := itoaB_size h2.1 h2.2
  have z4 := itoaB_size h4.1 h4.2
  have z5 := itoaB_size h5.1 h5.2
  have z6 := itoaB_size h6.1 h6.2
  unfold s_CmdText.j0
  change _ at hn
  rw [bind_ok (s_Digits_ok (by omega) h1.1 h1.2)]
  rw [show [(bs [110, 111, 110, 101]), (bs [112, 117, 116]), (bs [103, 101, 116]), (bs [101, 112, 111, 99, 104]), (bs [106, 111, 105, 110]), (bs [108, 101, 97, 118, 101]), (bs [109, 97, 114, 107]), (bs [114, 101, 97, 100]), (bs [116, 105, 99, 107]), (bs [116, 114, 105, 109]), (bs [112, 97, 99, 107])] = names11 from rfl, Int.toNat_natCast]
  rw [bind_ok (s_Digits_ok (by omega) h2.1 h2.2), bind_ok (s_Digits_ok (by omega) h4.1 h4.2), bind_ok (s_Digits_ok (by omega) h5.1 h5.2), bind_ok (s_Digits_ok (by omega) h6.1 h6.2)]
  generalize names11.getD p ByteArray.empty = nm at hn ⊢
  simp only []
  repeat (first | rw [bif_fit (by simp only [bs_size, sapp_size, List.length_cons, List.length_nil]; omega)] | rw [bif_t (show (0 : Int) ≤ (p : Int) by omega)] | rw [bif_t (show (p : Int) < 11 by omega)])
  refine congrArg (fun x => some (x, ())) (ba_ext ?_)
  simp only [sapp_list, bs_list, itoaB_list, cmdT, List.append_assoc, List.cons_append, List.nil_append]

theorem lJoin_ok' {l : List ByteArray} {sep : ByteArray} (h1 : l.length ≤ 140737488355328) (h2 : (Lib.join (l.map (·.data.toList)) sep.data.toList).length ≤ 140737488355328) : lJoin l sep = some (bs (Lib.join (l.map (·.data.toList)) sep.data.toList), ()) := by
  unfold lJoin
  rw [decide_eq_true h1, decide_eq_true h2]
  rfl

theorem i_text {K : Nat} (c : TCmd) (hc : WCmd c) (nm : ByteArray) (hn : nm.size ≤ 100) : i_CmdText.j0 K c nm = some (bs (cmdT c nm.data.toList), ()) := by
  obtain ⟨h1, h2, h3, h4, h5, h6, h7, h8⟩ := hc
  have z1 := itoaB_size h1.1 h1.2
  have z2 := itoaB_size h2.1 h2.2
  have z4 := itoaB_size h4.1 h4.2
  have z5 := itoaB_size h5.1 h5.2
  have z6 := itoaB_size h6.1 h6.2
  have y1 := itoa_len h1.1 h1.2
  have y2 := itoa_len h2.1 h2.2
  have y4 := itoa_len h4.1 h4.2
  have y5 := itoa_len h5.1 h5.2
  have y6 := itoa_len h6.1 h6.2
  unfold i_CmdText.j0
  rw [bind_ok (i_Digits_ok h1.1 h1.2), bind_ok (i_Digits_ok h2.1 h2.2), bind_ok (i_Digits_ok h4.1 h4.2), bind_ok (i_Digits_ok h5.1 h5.2), bind_ok (i_Digits_ok h6.1 h6.2)]
  simp only []
  repeat rw [bif_fit (by simp only [bs_size, sapp_size, List.length_cons, List.length_nil]; omega)]
  have hj : Lib.join (List.map (fun x : ByteArray => x.data.toList) [sapp (sapp (itoaB c.1) (bs [46])) (itoaB c.2.1), nm, itoaB c.2.2.2.1, itoaB c.2.2.2.2.1, itoaB c.2.2.2.2.2.1, sapp (sapp (bs [60]) c.2.2.2.2.2.2.1) (bs [62]), sapp (sapp (bs [60]) c.2.2.2.2.2.2.2) (bs [62])]) (bs [32]).data.toList = cmdT c nm.data.toList := by
    rw [List.map_cons, Lib.join_cons]
    simp only [Lib.joinTail, List.map_cons, List.map_nil, List.flatten_cons, List.flatten_nil, sapp_list, bs_list, itoaB_list, cmdT, List.append_assoc, List.cons_append, List.nil_append, List.append_nil]
  rw [bind_ok (lJoin_ok' (by simp only [List.length_cons, List.length_nil]; omega) (by
    rw [hj]
    rw [← size_list] at h7 h8 hn
    simp only [cmdT, List.length_append, List.length_cons, List.length_nil]
    omega)), hj]

theorem text_both {K : Nat} (hK : 2097152 ≤ K) (c : TCmd) (hc : WCmd c) : ∃ t, i_CmdText K c = some (t, ()) ∧ s_CmdText K c = some (t, ()) ∧ t.data.toList ≠ [] := by
  unfold i_CmdText s_CmdText
  by_cases h : c.1 = -1
  · rw [bif_t h, bif_t h]
    exact ⟨_, rfl, rfl, by rw [bs_list]; simp⟩
  rw [bif_f h, bif_f h, bind_ok (within_ok _ _ _), bind_ok (l1In_ok _ _ _)]
  have fin : ∀ p : Nat, p < 11 → i_CmdText.j0 K c (names11.getD p ByteArray.empty) = some (bs (cmdT c (names11.getD p ByteArray.empty).data.toList), ()) := fun p hp => i_text c hc _ (by
    rw [getD_get (by exact hp)]
    exact in_short names11 (by decide) (List.getElem_mem _))
  have ne : ∀ nm, (bs (cmdT c nm)).data.toList ≠ [] := fun nm => by rw [bs_list]; simp [cmdT]
  by_cases h1 : 1 ≤ c.2.2.1 ∧ c.2.2.1 ≤ 10
  · obtain ⟨p, hp⟩ : ∃ p : Nat, c.2.2.1 = ((p + 1 : Nat) : Int) := ⟨c.2.2.1.toNat - 1, by omega⟩
    have hl : ∀ i : Nat, i < 10 → names.getD i ByteArray.empty = names11.getD (i + 1) ByteArray.empty := fun i _ => rfl
    refine ⟨_, ?_, ?_, ne (names11.getD (p + 1) ByteArray.empty).data.toList⟩
    · rw [decide_eq_true h1]
      simp only [cond_true]
      unfold i_opNames
      simp only [Option.bind_some]
      rw [show IntKind.i64.wrap (c.2.2.1 - 1) = (p : Int) by rw [w64 (by omega) (by omega)]; omega]
      rw [bif_t (show (0 : Int) ≤ (p : Int) by omega), bif_t (by simp only [List.length_cons, List.length_nil]; omega), Int.toNat_natCast]
      have := fin (p + 1) (by omega)
      rw [← hl p (by omega)] at this
      rw [← hl p (by omega)]
      exact this
    · rw [decide_eq_true (show 0 ≤ c.2.2.1 ∧ c.2.2.1 ≤ 10 by omega), bif_ntrue, hp]
      exact s_text hK c hc (p + 1) (by omega)
  · refine ⟨_, ?_, ?_, ne (names11.getD 0 ByteArray.empty).data.toList⟩
    · rw [decide_eq_false h1]
      simp only [cond_false]
      exact fin 0 (by decide)
    · have s0 := s_text hK c hc 0 (by decide)
      by_cases h2 : 0 ≤ c.2.2.1 ∧ c.2.2.1 ≤ 10
      · rw [decide_eq_true h2, bif_ntrue, show c.2.2.1 = ((0 : Nat) : Int) by omega]
        exact s0
      · rw [decide_eq_false h2]
        exact s0

theorem setup_some (p : TSetup) : ∃ b, i_SetupOk p = some (b, ()) ∧ s_SetupOk p = some (b, ()) := by
  have e : s_SetupOk p = i_SetupOk p := rfl
  rw [e]
  unfold i_SetupOk
  simp only [within_ok, Option.bind_some]
  cases decide (1 ≤ p.1 ∧ p.1 ≤ 4) <;> cases decide (1 ≤ p.2.1 ∧ p.2.1 ≤ 5) <;> cases decide (1 ≤ p.2.2.1 ∧ p.2.2.1 ≤ 8) <;> exact ⟨_, rfl, rfl⟩

theorem qCmd_same (c : TCmd) : qCmd c c = true := by
  simp [qCmd, eqv, eCmd, eAnswer]

theorem law {K : Nat} (hK : 2097152 ≤ K) (a : List Int) (hw : wfE (.sl (.i .u8)) a) : ∃ u, l_FnCommands K a = some (true, u) := by
  unfold l_FnCommands l_big
  simp only [Option.bind_some]
  by_cases h : ((a.length : Nat) : Int) > 1048576
  · exact ⟨(), bif_t h⟩
  rw [bif_f h]
  obtain ⟨x, e1, m1⟩ := drawCmd_ok hK a (by omega)
  have e2 : s_DrawCmdText K a = some (x, ()) := by unfold s_DrawCmdText; rw [bind_ok e1]
  obtain ⟨n, e3, n0, n1⟩ := drawDigits_ok hK a (by omega)
  obtain ⟨p, e4⟩ := drawSetup_ok hK a (by omega)
  obtain ⟨t, e5, t1⟩ := drawSaid_ok hK a (by omega)
  obtain ⟨y, b, e6, e7, hy⟩ := said_both hK t t1
  obtain ⟨b1, e8⟩ := ok_some hK x m1
  obtain ⟨tt, e9, e10, hne⟩ := text_both hK x m1
  obtain ⟨bp, e11, e12⟩ := setup_some p
  rw [bind_ok e1, bind_ok e2, bind_ok e3, bind_ok e4, bind_ok e5, bind_ok e7, bind_ok e6, bind_ok e8, cmdOk_eq, bind_ok e8, bif_nbeq, bind_ok e9, bind_ok e10, bif_nf rfl, bind_ok (i_Digits_ok n0 n1), bind_ok (s_Digits_ok (by omega) n0 n1), bif_nf rfl, bind_ok e11, bind_ok e12, bif_nbeq, bif_nbeq]
  simp only [qCmd_same, Bool.not_true, cond_false]
  rw [bind_ok e9, bif_nt (by exact hne)]
  cases b
  · exact ⟨(), rfl⟩
  · simp only [Bool.not_true, cond_false]
    rw [bind_ok (hy rfl)]
    exact ⟨(), rfl⟩

end Go.Proofs.YtilemnhdgfhkiaaDoor.Fc
