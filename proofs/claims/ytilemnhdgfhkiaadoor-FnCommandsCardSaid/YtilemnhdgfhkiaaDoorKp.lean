/- Plain facts: wraps, strings one behind the other, loops. -/
import Derived.Test.YtilemnhdgfhkiaaDoorKc
import Derived.IntWalk
set_option linter.all false
namespace Go.Kn

theorem w64 {n : Int} (h0 : -9223372036854775808 ≤ n) (h1 : n ≤ 9223372036854775807) : IntKind.i64.wrap n = n := by
  simp only [IntKind.wrap, IntKind.bits, IntKind.signed]
  simp
  omega
theorem w8 {n : Int} (h0 : 0 ≤ n) (h1 : n ≤ 255) : IntKind.u8.wrap n = n := by
  simp only [IntKind.wrap, IntKind.bits, IntKind.signed]
  simp
  omega

theorem bs_list (l : List UInt8) : (bs l).data.toList = l := rfl
theorem sapp_list (a b : ByteArray) : (sapp a b).data.toList = a.data.toList ++ b.data.toList := rfl
theorem size_list (a : ByteArray) : a.data.toList.length = a.size := Array.length_toList
theorem sapp_size (a b : ByteArray) : (sapp a b).size = a.size + b.size := by
  rw [← size_list, sapp_list, List.length_append, size_list, size_list]
theorem bs_size (l : List UInt8) : (bs l).size = l.length := by rw [← size_list, bs_list]
theorem sfit_ok {a b : ByteArray} (h : a.size + b.size ≤ 9223372036854775807) : sfit a b = true := by
  unfold sfit
  rw [size_list, size_list]
  exact Nat.ble_eq_true_of_le h
theorem ba_ext {a b : ByteArray} (h : a.data.toList = b.data.toList) : a = b := by
  apply ByteArray.ext
  exact Array.toList_inj.1 h
theorem strOf_list (l : List Int) : (strOf l).data.toList = l.map fun n => UInt8.ofNat n.toNat := rfl
theorem bind_ok {α β : Type} {x : Option α} {a : α} {f : α → Option β} (h : x = some a) : x.bind f = f a := by rw [h]; rfl
theorem bif_t {α : Type} {p : Prop} [Decidable p] {x y : α} (h : p) : (bif decide p then x else y) = x := by rw [decide_eq_true h]; rfl
theorem bif_f {α : Type} {p : Prop} [Decidable p] {x y : α} (h : ¬ p) : (bif decide p then x else y) = y := by rw [decide_eq_false h]; rfl
theorem bif_nt {α : Type} {p : Prop} [Decidable p] {x y : α} (h : ¬ p) : (bif !(decide p) then x else y) = x := by rw [decide_eq_false h]; rfl
theorem bif_nf {α : Type} {p : Prop} [Decidable p] {x y : α} (h : p) : (bif !(decide p) then x else y) = y := by rw [decide_eq_true h]; rfl
theorem bif_ntrue {α : Type} {x y : α} : (bif !true then x else y) = y := rfl
theorem bif_nbeq {α : Type} {b : Bool} {x y : α} : (bif !(b == b) then x else y) = y := by cases b <;> rfl
theorem bif_fit {α : Type} {a b : ByteArray} {x y : α} (h : a.size + b.size ≤ 9223372036854775807) : (bif sfit a b then x else y) = x := by rw [sfit_ok h]; rfl

/-- The digits of a number, none of 0. -/
def digs (u : Nat) : List UInt8 := if u = 0 then [] else Lib.decDigits u
theorem digs_step {u : Nat} (h : u ≠ 0) : digs u = digs (u / 10) ++ [UInt8.ofNat (48 + u % 10)] := by
  unfold digs
  rw [if_neg h, Lib.decDigits]
  by_cases h10 : u < 10
  · rw [dif_pos h10, if_pos (by omega), Nat.mod_eq_of_lt h10]; rfl
  · rw [dif_neg h10, if_neg (by omega)]
theorem digs_len : ∀ (k u : Nat), u < 10 ^ k → (digs u).length ≤ k
  | 0, u, h => by
    have : u = 0 := by simpa using h
    subst this; simp [digs]
  | k + 1, u, h => by
    by_cases h0 : u = 0
    · subst h0; simp [digs]
    · rw [digs_step h0, List.length_append]
      have := digs_len k (u / 10) (by rw [Nat.pow_succ] at h; omega)
      simp; omega
theorem itoa_digs (n : Int) (h : n ≠ 0) : Lib.itoa n = if n < 0 then 45 :: digs n.natAbs else digs n.natAbs := by
  unfold Lib.itoa digs
  by_cases h0 : n < 0
  · rw [if_pos h0, if_pos h0, if_neg (by omega)]
  · rw [if_neg h0, if_neg h0, if_neg (by omega)]
    congr 1
    omega
theorem itoa_len {n : Int} (h0 : -9223372036854775808 ≤ n) (h1 : n ≤ 9223372036854775807) : (Lib.itoa n).length ≤ 20 := by
  by_cases h : n = 0
  · subst h
    rw [show Lib.itoa 0 = [48] by simp [Lib.itoa, Lib.decDigits]]
    simp
  · rw [itoa_digs n h]
    have := digs_len 19 n.natAbs (by omega)
    split <;> simp <;> omega
def itoaB (n : Int) : ByteArray := ⟨(Lib.itoa n).toArray⟩
theorem itoaB_list (n : Int) : (itoaB n).data.toList = Lib.itoa n := rfl
theorem itoaB_size {n : Int} (h0 : -9223372036854775808 ≤ n) (h1 : n ≤ 9223372036854775807) : (itoaB n).size ≤ 20 := by rw [← size_list, itoaB_list]; exact itoa_len h0 h1
theorem lItoa_ok {n : Int} (h0 : -9223372036854775808 ≤ n) (h1 : n ≤ 9223372036854775807) : lItoa n = some (itoaB n, ()) := by
  unfold lItoa
  rw [decide_eq_true h0, decide_eq_true h1]; rfl

end Go.Kn

/- Plain facts: loops over lists, weights. -/
set_option linter.all false
namespace Go.Kn

/-- How many letters and elements a value holds. -/
def wt : (e : ET) → e.val → Nat
  | .s, v => ByteArray.size v
  | .sl x, l => List.length l + (List.map (wt x) l).sum
  | .p x y, v => wt x v.1 + wt y v.2
  | _, _ => 0

def small : (e : ET) → e.val → Prop
  | .s, v => ByteArray.size v ≤ 1048576
  | .sl x, l => List.length l ≤ 1048576 ∧ ∀ a ∈ l, small x a
  | .p x y, v => small x v.1 ∧ small y v.2
  | _, _ => True

theorem sum_mem {l : List Nat} {n : Nat} (h : n ∈ l) : n ≤ l.sum := by
  induction l with
  | nil => cases h
  | cons a l ih =>
    rw [List.sum_cons]
    rcases List.mem_cons.1 h with rfl | h
    · omega
    · have := ih h; omega

theorem small_of : ∀ (e : ET) (v : e.val), wt e v ≤ 1048576 → small e v
  | .s, v, h => h
  | .sl x, l, h => by
    have h : List.length l + (List.map (wt x) l).sum ≤ 1048576 := h
    refine ⟨by omega, fun a ha => small_of x a ?_⟩
    have := sum_mem (List.mem_map_of_mem (f := wt x) ha)
    omega
  | .p x y, v, h => by
    have h : wt x v.1 + wt y v.2 ≤ 1048576 := h
    exact ⟨small_of x v.1 (by omega), small_of y v.2 (by omega)⟩
  | .i _, _, _ => trivial
  | .b, _, _ => trivial
  | .er, _, _ => trivial
  | .u, _, _ => trivial

theorem getD_get {α : Type} {l : List α} {i : Nat} {z : α} (h : i < l.length) : l.getD i z = l[i] := by
  rw [List.getD_eq_getElem?_getD, List.getElem?_eq_getElem h]; rfl

theorem w64_succ {i : Nat} (h : i < 4611686018427387904) : IntKind.i64.wrap ((i : Int) + 1) = ((i + 1 : Nat) : Int) := by
  rw [w64 (by omega) (by omega)]; rfl

/-- A loop that copies a list. -/
theorem to_loop {α : Type} {a : List α} {z : α} {f : α → Option (α × Unit)} (hf : ∀ x ∈ a, f x = some (x, ())) (hn : a.length ≤ 1048576) {L : Nat → List α → Int → Option (List α × Unit)}
    (hL : ∀ n q0 q1, L (n + 1) q0 q1 = bif decide (q1 < ((a.length : Nat) : Int)) then bif decide ((0 : Int) ≤ q1) then bif decide (q1 < ((a.length : Nat) : Int)) then (f (a.getD (Int.toNat q1) z)).bind fun v1 =>
      bif decide ((0 : Int) ≤ q1) then bif decide (q1 < ((q0.length : Nat) : Int)) then L n (q0.set (Int.toNat q1) v1.1) (IntKind.i64.wrap (q1 + 1)) else none else none else none else none else some (q0, ())) :
    ∀ (d i : Nat) (q : List α) (n : Nat), i + d = a.length → d < n → q.length = a.length → q.take i = a.take i → L n q (i : Int) = some (a, ()) := by
  intro d
  induction d with
  | zero =>
    intro i q n hi hd hq ht
    obtain ⟨n, rfl⟩ : ∃ m, n = m + 1 := ⟨n - 1, by omega⟩
    rw [hL, bif_f (by omega)]
    rw [List.take_of_length_le (by omega), List.take_of_length_le (by omega)] at ht
    rw [ht]
  | succ d ih =>
    intro i q n hi hd hq ht
    obtain ⟨n, rfl⟩ : ∃ m, n = m + 1 := ⟨n - 1, by omega⟩
    have hlt : i < a.length := by omega
    rw [hL, bif_t (by omega), bif_t (by omega), bif_t (by omega), Int.toNat_natCast, getD_get hlt, bind_ok (hf _ (List.getElem_mem hlt)), bif_t (by omega), bif_t (by omega), w64_succ (by omega)]
    refine ih (i + 1) _ n (by omega) (by omega) (by simpa using hq) ?_
    apply List.ext_getElem?
    intro j
    rw [List.getElem?_take, List.getElem?_take]
    split
    · rename_i hj
      rw [List.getElem?_set]
      split
      · rename_i e
        subst e
        rw [if_pos (by omega), List.getElem?_eq_getElem hlt]
      · have := congrArg (fun l => l[j]?) ht
        simp only [List.getElem?_take] at this
        rwa [if_pos (by omega), if_pos (by omega)] at this
    · rfl

/-- A loop that copies a list of what is no struct. -/
theorem to_loop' {α : Type} {a : List α} {z : α} (hn : a.length ≤ 1048576) {L : Nat → List α → Int → Option (List α × Unit)}
    (hL : ∀ n q0 q1, L (n + 1) q0 q1 = bif decide (q1 < ((a.length : Nat) : Int)) then bif decide ((0 : Int) ≤ q1) then bif decide (q1 < ((a.length : Nat) : Int)) then
      bif decide ((0 : Int) ≤ q1) then bif decide (q1 < ((q0.length : Nat) : Int)) then L n (q0.set (Int.toNat q1) (a.getD (Int.toNat q1) z)) (IntKind.i64.wrap (q1 + 1)) else none else none else none else none else some (q0, ())) :
    ∀ (d i : Nat) (q : List α) (n : Nat), i + d = a.length → d < n → q.length = a.length → q.take i = a.take i → L n q (i : Int) = some (a, ()) :=
  to_loop (f := fun x => some (x, ())) (z := z) (fun _ _ => rfl) hn hL

theorem to_start {α : Type} {a : List α} {c : Nat} {z : α} {L : List α → Int → Option (List α × Unit)} (hc : c ≤ 1000) (hn : a.length ≤ 1048576) (h : L (List.replicate a.length z) 0 = some (a, ())) :
    (bif decide (((a.length : Nat) : Int) = ((a.length : Nat) : Int)) then bif decide ((0 : Int) ≤ ((a.length : Nat) : Int)) then bif decide ((Int.toNat ((a.length : Nat) : Int)) * c ≤ growTop) then L (List.replicate (Int.toNat ((a.length : Nat) : Int)) z) 0 else none else none else none) = some (a, ()) := by
  rw [bif_t rfl, bif_t (by omega), Int.toNat_natCast, bif_t (by
    have : a.length * c ≤ 1048576 * 1000 := Nat.mul_le_mul hn hc
    have : growTop = 70368744177664 := rfl
    omega)]
  exact h

/-- A loop that compares two lists, which are the same. -/
theorem eq_loop {α : Type} {a : List α} {z : α} {f : α → α → Option (Bool × Unit)} (hf : ∀ x ∈ a, f x x = some (true, ())) (hn : a.length ≤ 1048576) {L : Nat → Int → Option (Bool × Unit)}
    (hL : ∀ n q0, L (n + 1) q0 = bif decide (q0 < ((a.length : Nat) : Int)) then bif decide ((0 : Int) ≤ q0) then bif decide (q0 < ((a.length : Nat) : Int)) then bif decide ((0 : Int) ≤ q0) then bif decide (q0 < ((a.length : Nat) : Int)) then
      (f (a.getD (Int.toNat q0) z) (a.getD (Int.toNat q0) z)).bind fun v1 => bif !v1.1 then some (false, ()) else L n (IntKind.i64.wrap (q0 + 1)) else none else none else none else none else some (true, ())) :
    ∀ (d i : Nat) (n : Nat), i + d = a.length → d < n → L n (i : Int) = some (true, ()) := by
  intro d
  induction d with
  | zero =>
    intro i n hi hd
    obtain ⟨n, rfl⟩ : ∃ m, n = m + 1 := ⟨n - 1, by omega⟩
    rw [hL, bif_f (by omega)]
  | succ d ih =>
    intro i n hi hd
    obtain ⟨n, rfl⟩ : ∃ m, n = m + 1 := ⟨n - 1, by omega⟩
    have hlt : i < a.length := by omega
    rw [hL, bif_t (by omega), bif_t (by omega), bif_t (by omega), bif_t (by omega), bif_t (by omega), Int.toNat_natCast, getD_get hlt, bind_ok (hf _ (List.getElem_mem hlt)), w64_succ (by omega)]
    exact ih (i + 1) n (by omega) (by omega)
theorem eq_loop' {α : Type} {a : List α} {z : α} {f : α → α → Bool} (hf : ∀ x, f x x = true) (hn : a.length ≤ 1048576) {L : Nat → Int → Option (Bool × Unit)}
    (hL : ∀ n q0, L (n + 1) q0 = bif decide (q0 < ((a.length : Nat) : Int)) then bif decide ((0 : Int) ≤ q0) then bif decide (q0 < ((a.length : Nat) : Int)) then bif decide ((0 : Int) ≤ q0) then bif decide (q0 < ((a.length : Nat) : Int)) then
      bif !(f (a.getD (Int.toNat q0) z) (a.getD (Int.toNat q0) z)) then some (false, ()) else L n (IntKind.i64.wrap (q0 + 1)) else none else none else none else none else some (true, ())) :
    ∀ (d i : Nat) (n : Nat), i + d = a.length → d < n → L n (i : Int) = some (true, ()) :=
  eq_loop (f := fun x y => some (f x y, ())) (z := z) (fun x _ => by rw [hf]) hn hL

/-- A loop that counts what a list holds. -/
theorem sz_loop {x : ET} {a : List x.val} {z : x.val} {f : x.val → Int → Option (Int × Unit)} (hf : ∀ v ∈ a, ∀ q, 0 ≤ q → q ≤ 1048576 → ∃ r, f v q = some (r, ()) ∧ r ≤ q ∧ (0 ≤ r → (wt x v : Int) + r ≤ q))
    (hn : a.length ≤ 1048576) {L : Nat → Int → Int → Option (Int × Unit)}
    (hL : ∀ n q0 q1, L (n + 1) q0 q1 = bif decide (q1 < ((a.length : Nat) : Int)) then bif decide ((0 : Int) ≤ q1) then bif decide (q1 < ((a.length : Nat) : Int)) then (f (a.getD (Int.toNat q1) z) q0).bind fun v1 =>
      bif decide (v1.1 < 0) then some ((-1), ()) else L n v1.1 (IntKind.i64.wrap (q1 + 1)) else none else none else some (q0, ())) :
    ∀ (d i : Nat) (q : Int) (n : Nat), i + d = a.length → d < n → 0 ≤ q → q ≤ 1048576 → ∃ r, L n q (i : Int) = some (r, ()) ∧ r ≤ q ∧ (0 ≤ r → (((a.drop i).map (wt x)).sum : Int) + r ≤ q) := by
  intro d
  induction d with
  | zero =>
    intro i q n hi hd h0 h1
    obtain ⟨n, rfl⟩ : ∃ m, n = m + 1 := ⟨n - 1, by omega⟩
    refine ⟨q, by rw [hL, bif_f (by omega)], Int.le_refl _, fun _ => ?_⟩
    rw [List.drop_of_length_le (by omega)]; simp
  | succ d ih =>
    intro i q n hi hd h0 h1
    obtain ⟨n, rfl⟩ : ∃ m, n = m + 1 := ⟨n - 1, by omega⟩
    have hlt : i < a.length := by omega
    obtain ⟨r, e, b, c⟩ := hf _ (List.getElem_mem hlt) q h0 h1
    have step : L (n + 1) q (i : Int) = bif decide (r < 0) then some ((-1), ()) else L n r ((i + 1 : Nat) : Int) := by
      rw [hL, bif_t (by omega), bif_t (by omega), bif_t (by omega), Int.toNat_natCast, getD_get hlt, bind_ok e, w64_succ (by omega)]
    by_cases hr : r < 0
    · exact ⟨-1, by rw [step, bif_t hr], by omega, fun h => by omega⟩
    · obtain ⟨s, e2, b2, c2⟩ := ih (i + 1) r n (by omega) (by omega) (by omega) (by omega)
      refine ⟨s, by rw [step, bif_f hr, e2], by omega, fun hs => ?_⟩
      rw [List.drop_eq_getElem_cons hlt, List.map_cons, List.sum_cons]
      have := c (by omega)
      have := c2 hs
      push_cast
      omega

theorem sz_start {x : ET} {a : List x.val} {q : Int} {L : Int → Int → Option (Int × Unit)} (hn : a.length ≤ 9223372036854775807) (h0 : 0 ≤ q) (h1 : q ≤ 1048576)
    (h : a.length ≤ 1048576 → ∀ q, 0 ≤ q → q ≤ 1048576 → ∃ r, L q 0 = some (r, ()) ∧ r ≤ q ∧ (0 ≤ r → ((a.map (wt x)).sum : Int) + r ≤ q)) :
    ∃ r, (bif decide ((IntKind.i64.wrap (q - ((a.length : Nat) : Int))) < 0) then some ((-1), ()) else L (IntKind.i64.wrap (q - ((a.length : Nat) : Int))) 0) = some (r, ()) ∧ r ≤ q ∧ (0 ≤ r → (wt (.sl x) a : Int) + r ≤ q) := by
  rw [w64 (by omega) (by omega)]
  by_cases hr : q - (a.length : Int) < 0
  · exact ⟨-1, by rw [bif_t hr], by omega, fun h => by omega⟩
  · obtain ⟨r, e, b, c⟩ := h (by omega) (q - a.length) (by omega) (by omega)
    refine ⟨r, by rw [bif_f hr, e], by omega, fun hs => ?_⟩
    have := c hs
    show ((a.length + (a.map (wt x)).sum : Nat) : Int) + r ≤ q
    push_cast
    omega

theorem sum_zero {x : ET} (hx : ∀ v : x.val, wt x v = 0) : ∀ a : List x.val, (a.map (wt x)).sum = 0
  | [] => rfl
  | b :: a => by rw [List.map_cons, List.sum_cons, hx, sum_zero hx a]

theorem sz_flat {x : ET} {a : List x.val} {q : Int} (hx : ∀ v : x.val, wt x v = 0) (hn : a.length ≤ 9223372036854775807) (h0 : 0 ≤ q) (h1 : q ≤ 1048576) :
    ∃ r, (bif decide ((IntKind.i64.wrap (q - ((a.length : Nat) : Int))) < 0) then some ((-1), ()) else some (IntKind.i64.wrap (q - ((a.length : Nat) : Int)), ())) = some (r, ()) ∧ r ≤ q ∧ (0 ≤ r → (wt (.sl x) a : Int) + r ≤ q) := by
  refine sz_start (L := fun q _ => some (q, ())) hn h0 h1 fun _ q _ _ => ⟨q, rfl, Int.le_refl _, fun _ => ?_⟩
  rw [sum_zero hx]; omega

theorem sapp_bs (a b : List UInt8) : sapp (bs a) (bs b) = bs (a ++ b) := rfl
theorem sapp_bs_r (a : List UInt8) (k : ByteArray) : sapp (bs a) k = bs (a ++ k.data.toList) := rfl
theorem bs_self (k : ByteArray) : bs k.data.toList = k := ba_ext rfl
theorem itoaB_bs (n : Int) : itoaB n = bs (Lib.itoa n) := rfl
theorem bif_fitl {α : Type} {a b : List UInt8} {x y : α} (h : a.length + b.length ≤ 9223372036854775807) : (bif sfit (bs a) (bs b) then x else y) = x := bif_fit (by rw [bs_size, bs_size]; exact h)
theorem bif_fitr {α : Type} {a : List UInt8} {k : ByteArray} {x y : α} (h : a.length + k.data.toList.length ≤ 9223372036854775807) : (bif sfit (bs a) k then x else y) = x := bif_fit (by rw [bs_size, ← size_list]; exact h)

end Go.Kn
