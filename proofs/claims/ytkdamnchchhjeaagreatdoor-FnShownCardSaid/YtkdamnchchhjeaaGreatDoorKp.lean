/- Plain facts: wraps, strings one behind the other, loops. -/
import Derived.Test.YtkdamnchchhjeaaGreatDoorKc
import Derived.IntWalk
set_option linter.all false
namespace Go.Kn
theorem w64 {n : Int} (h0 : -9223372036854775808 ≤ n) (h1 : n ≤ 9223372036854775807) : IntKind.i64.wrap n = n := by
 simp only [IntKind.wrap, IntKind.bits, IntKind.signed]
 simp
 omega
theorem w8 {n : Int} (h0 : 0 ≤ n) (h1 : n ≤ 255) : IntKind.u8.wrap n = n := by
 simp only [IntKind.wrap, IntKind.bits, IntKind.signed]
 simp
 omega
theorem x_x6 (l : List UInt8) : (bs l).data.toList = l := rfl
theorem x_s7 (a b : ByteArray) : (sapp a b).data.toList = a.data.toList ++ b.data.toList := rfl
theorem x_c6 (a : ByteArray) : a.data.toList.length = a.size := Array.length_toList
theorem x_av (a b : ByteArray) : (sapp a b).size = a.size + b.size := by
 rw [← x_c6, x_s7, List.length_append, x_c6, x_c6]
theorem x_bu (l : List UInt8) : (bs l).size = l.length := by rw [← x_c6, x_x6]
theorem sfit_ok {a b : ByteArray} (h : a.size + b.size ≤ 9223372036854775807) : sfit a b = true := by
 unfold sfit
 rw [x_c6, x_c6]
 exact Nat.ble_eq_true_of_le h
theorem x_aah {a b : ByteArray} (h : a.data.toList = b.data.toList) : a = b := by
 apply ByteArray.ext
 exact Array.toList_inj.1 h
theorem x_u0 (l : List Int) : (x_wv l).data.toList = l.map fun n => UInt8.ofNat n.toNat := rfl
theorem x_aw {α β : Type} {x : Option α} {a : α} {f : α → Option β} (h : x = some a) : x.bind f = f a := by rw [h]; rfl
theorem x_cy {α : Type} {p : Prop} [Decidable p] {x y : α} (h : p) : (bif decide p then x else y) = x := by rw [decide_eq_true h]; rfl
theorem x_rz {α : Type} {p : Prop} [Decidable p] {x y : α} (h : ¬ p) : (bif decide p then x else y) = y := by rw [decide_eq_false h]; rfl
theorem bif_nt {α : Type} {p : Prop} [Decidable p] {x y : α} (h : ¬ p) : (bif !(decide p) then x else y) = x := by rw [decide_eq_false h]; rfl
theorem bif_nf {α : Type} {p : Prop} [Decidable p] {x y : α} (h : p) : (bif !(decide p) then x else y) = y := by rw [decide_eq_true h]; rfl
theorem bif_ntrue {α : Type} {x y : α} : (bif !true then x else y) = y := rfl
theorem bif_nbeq {α : Type} {b : Bool} {x y : α} : (bif !(b == b) then x else y) = y := by cases b <;> rfl
theorem x_b6 {α : Type} {a b : ByteArray} {x y : α} (h : a.size + b.size ≤ 9223372036854775807) : (bif sfit a b then x else y) = x := by rw [sfit_ok h]; rfl
def digs (u : Nat) : List UInt8 := if u = 0 then [] else Lib.decDigits u
theorem x_8k {u : Nat} (h : u ≠ 0) : digs u = digs (u / 10) ++ [UInt8.ofNat (48 + u % 10)] := by
 unfold digs
 rw [if_neg h, Lib.decDigits]
 by_cases h10 : u < 10
 ·rw [dif_pos h10, if_pos (by omega), Nat.mod_eq_of_lt h10]; rfl
 ·rw [dif_neg h10, if_neg (by omega)]
theorem x_adw : ∀ (k u : Nat), u < 10 ^ k → (digs u).length ≤ k
 | 0, u, h => by
  have : u = 0 := by simpa using h
  subst this; simp [digs]
 | k + 1, u, h => by
  by_cases h0 : u = 0
  ·subst h0; simp [digs]
  ·rw [x_8k h0, List.length_append]
   have := x_adw k (u / 10) (by rw [Nat.pow_succ] at h; omega)
   simp; omega
theorem x_7j (n : Int) (h : n ≠ 0) : Lib.itoa n = if n < 0 then 45 :: digs n.natAbs else digs n.natAbs := by
 unfold Lib.itoa digs
 by_cases h0 : n < 0
 ·rw [if_pos h0, if_pos h0, if_neg (by omega)]
 ·rw [if_neg h0, if_neg h0, if_neg (by omega)]
  congr 1
  omega
theorem x_c7 {n : Int} (h0 : -9223372036854775808 ≤ n) (h1 : n ≤ 9223372036854775807) : (Lib.itoa n).length ≤ 20 := by
 by_cases h : n = 0
 ·subst h
  rw [show Lib.itoa 0 = [48] by simp [Lib.itoa, Lib.decDigits]]
  simp
 ·rw [x_7j n h]
  have := x_adw 19 n.natAbs (by omega)
  split <;> simp <;> omega
def x_4l (n : Int) : ByteArray := ⟨(Lib.itoa n).toArray⟩
theorem x_ux (n : Int) : (x_4l n).data.toList = Lib.itoa n := rfl
theorem x_3n {n : Int} (h0 : -9223372036854775808 ≤ n) (h1 : n ≤ 9223372036854775807) : (x_4l n).size ≤ 20 := by rw [← x_c6, x_ux]; exact x_c7 h0 h1
theorem x_af6 {n : Int} (h0 : -9223372036854775808 ≤ n) (h1 : n ≤ 9223372036854775807) : lItoa n = some (x_4l n, ()) := by
 unfold lItoa
 rw [decide_eq_true h0, decide_eq_true h1]; rfl
end Go.Kn
set_option linter.all false
namespace Go.Kn
def wt : (e : ET) → e.val → Nat
 | .s, v => ByteArray.size v
 | .sl x, l => List.length l + (List.map (wt x) l).sum
 | .p x y, v => wt x v.1 + wt y v.2
 | _, _ => 0
def small : (e : ET) → e.val → Prop
 | .s, v => ByteArray.size v ≤ 1048576
 | .sl x, l => List.length l ≤ 1048576 ∧ ∀ a ∈ l, small x a
 | .p x y, v => small x v.1 ∧ small y v.2
 | _, _ => True
theorem sum_mem {l : List Nat} {n : Nat} (h : n ∈ l) : n ≤ l.sum := by
 induction l with
 | nil => cases h
 | cons a l ih =>
  rw [List.sum_cons]
  rcases List.mem_cons.1 h with rfl | h
  ·omega
  ·have := ih h; omega
theorem x_6g : ∀ (e : ET) (v : e.val), wt e v ≤ 1048576 → small e v
 | .s, v, h => h
 | .sl x, l, h => by
  have h : List.length l + (List.map (wt x) l).sum ≤ 1048576 := h
  refine ⟨by omega, fun a ha => x_6g x a ?_⟩
  have := sum_mem (List.mem_map_of_mem (f := wt x) ha)
  omega
 | .p x y, v, h => by
  have h : wt x v.1 + wt y v.2 ≤ 1048576 := h
  exact ⟨x_6g x v.1 (by omega), x_6g y v.2 (by omega)⟩
 | .i _, _, _ => trivial
 | .b, _, _ => trivial
 | .er, _, _ => trivial
 | .u, _, _ => trivial
theorem x_ep {α : Type} {l : List α} {i : Nat} {z : α} (h : i < l.length) : l.getD i z = l[i] := by
 rw [List.getD_eq_getElem?_getD, List.getElem?_eq_getElem h]; rfl
theorem x_er {i : Nat} (h : i < 4611686018427387904) : IntKind.i64.wrap ((i : Int) + 1) = ((i + 1 : Nat) : Int) := by
 rw [w64 (by omega) (by omega)]; rfl
theorem to_loop {α : Type} {a : List α} {z : α} {f : α → Option (α × Unit)} (hf : ∀ x ∈ a, f x = some (x, ())) (hn : a.length ≤ 1048576) {L : Nat → List α → Int → Option (List α × Unit)}
  (hL : ∀ n q0 q1, L (n + 1) q0 q1 = bif decide (q1 < ((a.length : Nat) : Int)) then bif decide ((0 : Int) ≤ q1) then bif decide (q1 < ((a.length : Nat) : Int)) then (f (a.getD (Int.toNat q1) z)).bind fun v1 =>
   bif decide ((0 : Int) ≤ q1) then bif decide (q1 < ((q0.length : Nat) : Int)) then L n (q0.set (Int.toNat q1) v1.1) (IntKind.i64.wrap (q1 + 1)) else none else none else none else none else some (q0, ())) :
  ∀ (d i : Nat) (q : List α) (n : Nat), i + d = a.length → d < n → q.length = a.length → q.take i = a.take i → L n q (i : Int) = some (a, ()) := by
 intro d
 induction d with
 | zero =>
  intro i q n hi hd hq ht
  obtain ⟨n, rfl⟩ : ∃ m, n = m + 1 := ⟨n - 1, by omega⟩
  rw [hL, x_rz (by omega)]
  rw [List.take_of_length_le (by omega), List.take_of_length_le (by omega)] at ht
  rw [ht]
 | succ d ih =>
  intro i q n hi hd hq ht
  obtain ⟨n, rfl⟩ : ∃ m, n = m + 1 := ⟨n - 1, by omega⟩
  have hlt : i < a.length := by omega
  rw [hL, x_cy (by omega), x_cy (by omega), x_cy (by omega), Int.toNat_natCast, x_ep hlt, x_aw (hf _ (List.getElem_mem hlt)), x_cy (by omega), x_cy (by omega), x_er (by omega)]
  refine ih (i + 1) _ n (by omega) (by omega) (by simpa using hq) ?_
  apply List.ext_getElem?
  intro j
  rw [List.getElem?_take, List.getElem?_take]
  split
  ·rename_i hj
   rw [List.getElem?_set]
   split
   ·rename_i e
    subst e
    rw [if_pos (by omega), List.getElem?_eq_getElem hlt]
   ·have := congrArg (fun l => l[j]?) ht
    simp only [List.getElem?_take] at this
    rwa [if_pos (by omega), if_pos (by omega)] at this
  ·rfl
theorem to_loop' {α : Type} {a : List α} {z : α} (hn : a.length ≤ 1048576) {L : Nat → List α → Int → Option (List α × Unit)}
  (hL : ∀ n q0 q1, L (n + 1) q0 q1 = bif decide (q1 < ((a.length : Nat) : Int)) then bif decide ((0 : Int) ≤ q1) then bif decide (q1 < ((a.length : Nat) : Int)) then
   bif decide ((0 : Int) ≤ q1) then bif decide (q1 < ((q0.length : Nat) : Int)) then L n (q0.set (Int.toNat q1) (a.getD (Int.toNat q1) z)) (IntKind.i64.wrap (q1 + 1)) else none else none else none else none else some (q0, ())) :
  ∀ (d i : Nat) (q : List α) (n : Nat), i + d = a.length → d < n → q.length = a.length → q.take i = a.take i → L n q (i : Int) = some (a, ()) :=
 to_loop (f := fun x => some (x, ())) (z := z) (fun _ _ => rfl) hn hL
theorem to_start {α : Type} {a : List α} {c : Nat} {z : α} {L : List α → Int → Option (List α × Unit)} (hc : c ≤ 1000) (hn : a.length ≤ 1048576) (h : L (List.replicate a.length z) 0 = some (a, ())) :
  (bif decide (((a.length : Nat) : Int) = ((a.length : Nat) : Int)) then bif decide ((0 : Int) ≤ ((a.length : Nat) : Int)) then bif decide ((Int.toNat ((a.length : Nat) : Int)) * c ≤ x_g) then L (List.replicate (Int.toNat ((a.length : Nat) : Int)) z) 0 else none else none else none) = some (a, ()) := by
 rw [x_cy rfl, x_cy (by omega), Int.toNat_natCast, x_cy (by
  have : a.length * c ≤ 1048576 * 1000 := Nat.mul_le_mul hn hc
  have : x_g = 70368744177664 := rfl
  omega)]
 exact h
theorem eq_loop {α : Type} {a : List α} {z : α} {f : α → α → Option (Bool × Unit)} (hf : ∀ x ∈ a, f x x = some (true, ())) (hn : a.length ≤ 1048576) {L : Nat → Int → Option (Bool × Unit)}
  (hL : ∀ n q0, L (n + 1) q0 = bif decide (q0 < ((a.length : Nat) : Int)) then bif decide ((0 : Int) ≤ q0) then bif decide (q0 < ((a.length : Nat) : Int)) then bif decide ((0 : Int) ≤ q0) then bif decide (q0 < ((a.length : Nat) : Int)) then
   (f (a.getD (Int.toNat q0) z) (a.getD (Int.toNat q0) z)).bind fun v1 => bif !v1.1 then some (false, ()) else L n (IntKind.i64.wrap (q0 + 1)) else none else none else none else none else some (true, ())) :
  ∀ (d i : Nat) (n : Nat), i + d = a.length → d < n → L n (i : Int) = some (true, ()) := by
 intro d
 induction d with
 | zero =>
  intro i n hi hd
  obtain ⟨n, rfl⟩ : ∃ m, n = m + 1 := ⟨n - 1, by omega⟩
  rw [hL, x_rz (by omega)]
 | succ d ih =>
  intro i n hi hd
  obtain ⟨n, rfl⟩ : ∃ m, n = m + 1 := ⟨n - 1, by omega⟩
  have hlt : i < a.length := by omega
  rw [hL, x_cy (by omega), x_cy (by omega), x_cy (by omega), x_cy (by omega), x_cy (by omega), Int.toNat_natCast, x_ep hlt, x_aw (hf _ (List.getElem_mem hlt)), x_er (by omega)]
  exact ih (i + 1) n (by omega) (by omega)
theorem eq_loop' {α : Type} {a : List α} {z : α} {f : α → α → Bool} (hf : ∀ x, f x x = true) (hn : a.length ≤ 1048576) {L : Nat → Int → Option (Bool × Unit)}
  (hL : ∀ n q0, L (n + 1) q0 = bif decide (q0 < ((a.length : Nat) : Int)) then bif decide ((0 : Int) ≤ q0) then bif decide (q0 < ((a.length : Nat) : Int)) then bif decide ((0 : Int) ≤ q0) then bif decide (q0 < ((a.length : Nat) : Int)) then
   bif !(f (a.getD (Int.toNat q0) z) (a.getD (Int.toNat q0) z)) then some (false, ()) else L n (IntKind.i64.wrap (q0 + 1)) else none else none else none else none else some (true, ())) :
  ∀ (d i : Nat) (n : Nat), i + d = a.length → d < n → L n (i : Int) = some (true, ()) :=
 eq_loop (f := fun x y => some (f x y, ())) (z := z) (fun x _ => by rw [hf]) hn hL
theorem sz_loop {x : ET} {a : List x.val} {z : x.val} {f : x.val → Int → Option (Int × Unit)} (hf : ∀ v ∈ a, ∀ q, 0 ≤ q → q ≤ 1048576 → ∃ r, f v q = some (r, ()) ∧ r ≤ q ∧ (0 ≤ r → (wt x v : Int) + r ≤ q))
  (hn : a.length ≤ 1048576) {L : Nat → Int → Int → Option (Int × Unit)}
  (hL : ∀ n q0 q1, L (n + 1) q0 q1 = bif decide (q1 < ((a.length : Nat) : Int)) then bif decide ((0 : Int) ≤ q1) then bif decide (q1 < ((a.length : Nat) : Int)) then (f (a.getD (Int.toNat q1) z) q0).bind fun v1 =>
   bif decide (v1.1 < 0) then some ((-1), ()) else L n v1.1 (IntKind.i64.wrap (q1 + 1)) else none else none else some (q0, ())) :
  ∀ (d i : Nat) (q : Int) (n : Nat), i + d = a.length → d < n → 0 ≤ q → q ≤ 1048576 → ∃ r, L n q (i : Int) = some (r, ()) ∧ r ≤ q ∧ (0 ≤ r → (((a.drop i).map (wt x)).sum : Int) + r ≤ q) := by
 intro d
 induction d with
 | zero =>
  intro i q n hi hd h0 h1
  obtain ⟨n, rfl⟩ : ∃ m, n = m + 1 := ⟨n - 1, by omega⟩
  refine ⟨q, by rw [hL, x_rz (by omega)], Int.le_refl _, fun _ => ?_⟩
  rw [List.drop_of_length_le (by omega)]; simp
 | succ d ih =>
  intro i q n hi hd h0 h1
  obtain ⟨n, rfl⟩ : ∃ m, n = m + 1 := ⟨n - 1, by omega⟩
  have hlt : i < a.length := by omega
  obtain ⟨r, e, b, c⟩ := hf _ (List.getElem_mem hlt) q h0 h1
  have step : L (n + 1) q (i : Int) = bif decide (r < 0) then some ((-1), ()) else L n r ((i + 1 : Nat) : Int) := by
   rw [hL, x_cy (by omega), x_cy (by omega), x_cy (by omega), Int.toNat_natCast, x_ep hlt, x_aw e, x_er (by omega)]
  by_cases hr : r < 0
  ·exact ⟨-1, by rw [step, x_cy hr], by omega, fun h => by omega⟩
  ·obtain ⟨s, e2, b2, c2⟩ := ih (i + 1) r n (by omega) (by omega) (by omega) (by omega)
   refine ⟨s, by rw [step, x_rz hr, e2], by omega, fun hs => ?_⟩
   rw [List.drop_eq_getElem_cons hlt, List.map_cons, List.sum_cons]
   have := c (by omega)
   have := c2 hs
   push_cast
   omega
theorem sz_start {x : ET} {a : List x.val} {q : Int} {L : Int → Int → Option (Int × Unit)} (hn : a.length ≤ 9223372036854775807) (h0 : 0 ≤ q) (h1 : q ≤ 1048576)
  (h : a.length ≤ 1048576 → ∀ q, 0 ≤ q → q ≤ 1048576 → ∃ r, L q 0 = some (r, ()) ∧ r ≤ q ∧ (0 ≤ r → ((a.map (wt x)).sum : Int) + r ≤ q)) :
  ∃ r, (bif decide ((IntKind.i64.wrap (q - ((a.length : Nat) : Int))) < 0) then some ((-1), ()) else L (IntKind.i64.wrap (q - ((a.length : Nat) : Int))) 0) = some (r, ()) ∧ r ≤ q ∧ (0 ≤ r → (wt (.sl x) a : Int) + r ≤ q) := by
 rw [w64 (by omega) (by omega)]
 by_cases hr : q - (a.length : Int) < 0
 ·exact ⟨-1, by rw [x_cy hr], by omega, fun h => by omega⟩
 ·obtain ⟨r, e, b, c⟩ := h (by omega) (q - a.length) (by omega) (by omega)
  refine ⟨r, by rw [x_rz hr, e], by omega, fun hs => ?_⟩
  have := c hs
  show ((a.length + (a.map (wt x)).sum : Nat) : Int) + r ≤ q
  push_cast
  omega
theorem x_aiu {x : ET} (hx : ∀ v : x.val, wt x v = 0) : ∀ a : List x.val, (a.map (wt x)).sum = 0
 | [] => rfl
 | b :: a => by rw [List.map_cons, List.sum_cons, hx, x_aiu hx a]
theorem sz_flat {x : ET} {a : List x.val} {q : Int} (hx : ∀ v : x.val, wt x v = 0) (hn : a.length ≤ 9223372036854775807) (h0 : 0 ≤ q) (h1 : q ≤ 1048576) :
  ∃ r, (bif decide ((IntKind.i64.wrap (q - ((a.length : Nat) : Int))) < 0) then some ((-1), ()) else some (IntKind.i64.wrap (q - ((a.length : Nat) : Int)), ())) = some (r, ()) ∧ r ≤ q ∧ (0 ≤ r → (wt (.sl x) a : Int) + r ≤ q) := by
 refine sz_start (L := fun q _ => some (q, ())) hn h0 h1 fun _ q _ _ => ⟨q, rfl, Int.le_refl _, fun _ => ?_⟩
 rw [x_aiu hx]; omega
theorem x_n2 (a b : List UInt8) : sapp (bs a) (bs b) = bs (a ++ b) := rfl
theorem x_62 (a : List UInt8) (k : ByteArray) : sapp (bs a) k = bs (a ++ k.data.toList) := rfl
theorem bs_self (k : ByteArray) : bs k.data.toList = k := x_aah rfl
theorem x_hx (n : Int) : x_4l n = bs (Lib.itoa n) := rfl
theorem x_bx {α : Type} {a b : List UInt8} {x y : α} (h : a.length + b.length ≤ 9223372036854775807) : (bif sfit (bs a) (bs b) then x else y) = x := x_b6 (by rw [x_bu, x_bu]; exact h)
theorem x_ags {α : Type} {a : List UInt8} {k : ByteArray} {x y : α} (h : a.length + k.data.toList.length ≤ 9223372036854775807) : (bif sfit (bs a) k then x else y) = x := x_b6 (by rw [x_bu, ← x_c6]; exact h)
end Go.Kn
set_option linter.all false
namespace Go.Kn
def Tot {α : Type} (x : Option α) (Q : α → Prop) : Prop := ∃ a, x = some a ∧ Q a
theorem tr {α : Type} {a : α} {Q : α → Prop} (h : Q a) : Tot (some a) Q := ⟨a, rfl, h⟩
theorem Tot.mono {α : Type} {x : Option α} {Q R : α → Prop} (h : Tot x Q) (k : ∀ a, Q a → R a) : Tot x R := by
 obtain ⟨a, e, q⟩ := h
 exact ⟨a, e, k a q⟩
theorem tb {α β : Type} {x : Option α} {f : α → Option β} {Q : α → Prop} {R : β → Prop} (h : Tot x Q) (k : ∀ a, Q a → Tot (f a) R) : Tot (x.bind f) R := by
 obtain ⟨a, rfl, q⟩ := h
 exact k a q
theorem Tot.bind1 {α β : Type} {x : Option (α × Unit)} {f : α × Unit → Option β} {Q : α → Prop} {R : β → Prop} (h : Tot x fun r => Q r.1) (k : ∀ a, Q a → Tot (f (a, ())) R) : Tot (x.bind f) R := by
 obtain ⟨⟨a, ⟨⟩⟩, rfl, q⟩ := h
 exact k a q
theorem tc {α : Type} {p : Prop} [Decidable p] {x : Option α} {Q : α → Prop} (h : p) (k : Tot x Q) : Tot (bif decide p then x else none) Q := by
 rw [decide_eq_true h]; exact k
theorem Tot.fit {α : Type} {a b : ByteArray} {x : Option α} {Q : α → Prop} (h : a.size + b.size ≤ 9223372036854775807) (k : Tot x Q) : Tot (bif sfit a b then x else none) Q := by
 rw [sfit_ok h]; exact k
theorem ti {α : Type} {p : Prop} [Decidable p] {x y : Option α} {Q : α → Prop} (h : p → Tot x Q) (k : ¬ p → Tot y Q) : Tot (bif decide p then x else y) Q := by
 by_cases hp : p
 ·rw [decide_eq_true hp]; exact h hp
 ·rw [decide_eq_false hp]; exact k hp
theorem tn {α : Type} {p : Prop} [Decidable p] {x y : Option α} {Q : α → Prop} (h : ¬ p → Tot x Q) (k : p → Tot y Q) : Tot (bif !(decide p) then x else y) Q := by
 by_cases hp : p
 ·rw [decide_eq_true hp]; exact k hp
 ·rw [decide_eq_false hp]; exact h hp
theorem tB {α : Type} {b : Bool} {x y : Option α} {Q : α → Prop} (h : b = true → Tot x Q) (k : b = false → Tot y Q) : Tot (bif b then x else y) Q := by
 cases b
 ·exact k rfl
 ·exact h rfl
theorem tN {α : Type} {b : Bool} {x y : Option α} {Q : α → Prop} (h : b = false → Tot x Q) (k : b = true → Tot y Q) : Tot (bif !b then x else y) Q := by
 cases b
 ·exact h rfl
 ·exact k rfl
end Go.Kn
set_option linter.all false
namespace Go.Kn
theorem l1_ {A β : Type} {L : Nat → A → Option β} {b : (A → Option β) → A → Option β} (hL : ∀ n x, L (n + 1) x = b (L n) x) (I : Nat → A → Prop) {Q : β → Prop}
  (step : ∀ m x L', I m x → (∀ m' x', m' < m → I m' x' → Tot (L' x') Q) → Tot (b L' x) Q) : ∀ {m n : Nat} {x : A}, m < n → I m x → Tot (L n x) Q := by
 intro m
 induction m using Nat.strongRecOn with
 | ind m ih =>
  intro n x h hi
  obtain ⟨n, rfl⟩ : ∃ k, n = k + 1 := ⟨n - 1, by omega⟩
  rw [hL]
  exact step m x _ hi fun m' x' hm h' => ih m' hm (by omega) h'
theorem l2_ {A B β : Type} {L : Nat → A → B → Option β} {b : (A → B → Option β) → A → B → Option β} (hL : ∀ n x y, L (n + 1) x y = b (L n) x y) (I : Nat → A → B → Prop) {Q : β → Prop}
  (step : ∀ m x y L', I m x y → (∀ m' x' y', m' < m → I m' x' y' → Tot (L' x' y') Q) → Tot (b L' x y) Q) {m n : Nat} {x : A} {y : B} (h : m < n) (hi : I m x y) : Tot (L n x y) Q :=
 l1_ (L := fun n (q : A × B) => L n q.1 q.2) (b := fun L' q => b (fun x y => L' (x, y)) q.1 q.2) (fun n q => hL n q.1 q.2) (fun m q => I m q.1 q.2)
  (fun m q L' hi k => step m q.1 q.2 (fun x y => L' (x, y)) hi fun m' x' y' hm h' => k m' (x', y') hm h') (x := (x, y)) h hi
theorem l3_ {A B C β : Type} {L : Nat → A → B → C → Option β} {b : (A → B → C → Option β) → A → B → C → Option β} (hL : ∀ n x y z, L (n + 1) x y z = b (L n) x y z) (I : Nat → A → B → C → Prop) {Q : β → Prop}
  (step : ∀ m x y z L', I m x y z → (∀ m' x' y' z', m' < m → I m' x' y' z' → Tot (L' x' y' z') Q) → Tot (b L' x y z) Q) {m n : Nat} {x : A} {y : B} {z : C} (h : m < n) (hi : I m x y z) : Tot (L n x y z) Q :=
 l1_ (L := fun n (q : A × B × C) => L n q.1 q.2.1 q.2.2) (b := fun L' q => b (fun x y z => L' (x, y, z)) q.1 q.2.1 q.2.2) (fun n q => hL n q.1 q.2.1 q.2.2) (fun m q => I m q.1 q.2.1 q.2.2)
  (fun m q L' hi k => step m q.1 q.2.1 q.2.2 (fun x y z => L' (x, y, z)) hi fun m' x' y' z' hm h' => k m' (x', y', z') hm h') (x := (x, y, z)) h hi
theorem l4_ {A B C E β : Type} {L : Nat → A → B → C → E → Option β} {b : (A → B → C → E → Option β) → A → B → C → E → Option β} (hL : ∀ n x y z u, L (n + 1) x y z u = b (L n) x y z u) (I : Nat → A → B → C → E → Prop) {Q : β → Prop}
  (step : ∀ m x y z u L', I m x y z u → (∀ m' x' y' z' u', m' < m → I m' x' y' z' u' → Tot (L' x' y' z' u') Q) → Tot (b L' x y z u) Q) {m n : Nat} {x : A} {y : B} {z : C} {u : E} (h : m < n) (hi : I m x y z u) : Tot (L n x y z u) Q :=
 l1_ (L := fun n (q : A × B × C × E) => L n q.1 q.2.1 q.2.2.1 q.2.2.2) (b := fun L' q => b (fun x y z u => L' (x, y, z, u)) q.1 q.2.1 q.2.2.1 q.2.2.2) (fun n q => hL n q.1 q.2.1 q.2.2.1 q.2.2.2) (fun m q => I m q.1 q.2.1 q.2.2.1 q.2.2.2)
  (fun m q L' hi k => step m q.1 q.2.1 q.2.2.1 q.2.2.2 (fun x y z u => L' (x, y, z, u)) hi fun m' x' y' z' u' hm h' => k m' (x', y', z', u') hm h') (x := (x, y, z, u)) h hi
theorem l5_ {A B C E F β : Type} {L : Nat → A → B → C → E → F → Option β} {b : (A → B → C → E → F → Option β) → A → B → C → E → F → Option β} (hL : ∀ n x y z u v, L (n + 1) x y z u v = b (L n) x y z u v) (I : Nat → A → B → C → E → F → Prop) {Q : β → Prop}
  (step : ∀ m x y z u v L', I m x y z u v → (∀ m' x' y' z' u' v', m' < m → I m' x' y' z' u' v' → Tot (L' x' y' z' u' v') Q) → Tot (b L' x y z u v) Q) {m n : Nat} {x : A} {y : B} {z : C} {u : E} {v : F} (h : m < n) (hi : I m x y z u v) : Tot (L n x y z u v) Q :=
 l1_ (L := fun n (q : A × B × C × E × F) => L n q.1 q.2.1 q.2.2.1 q.2.2.2.1 q.2.2.2.2) (b := fun L' q => b (fun x y z u v => L' (x, y, z, u, v)) q.1 q.2.1 q.2.2.1 q.2.2.2.1 q.2.2.2.2) (fun n q => hL n q.1 q.2.1 q.2.2.1 q.2.2.2.1 q.2.2.2.2) (fun m q => I m q.1 q.2.1 q.2.2.1 q.2.2.2.1 q.2.2.2.2)
  (fun m q L' hi k => step m q.1 q.2.1 q.2.2.1 q.2.2.2.1 q.2.2.2.2 (fun x y z u v => L' (x, y, z, u, v)) hi fun m' x' y' z' u' v' hm h' => k m' (x', y', z', u', v') hm h') (x := (x, y, z, u, v)) h hi
def Is (b : Bool) (p : Prop) : Prop := b = true ↔ p
theorem Is.t {b : Bool} {p : Prop} (h : Is b p) (hp : p) : b = true := h.2 hp
theorem Is.f {b : Bool} {p : Prop} (h : Is b p) (hp : ¬ p) : b = false := by cases b <;> simp_all [Is]
theorem is_dec {p : Prop} [Decidable p] : Is (decide p) p := by simp [Is]
theorem x_26 {p : Prop} (h : p) : Is true p := ⟨fun _ => h, fun _ => rfl⟩
theorem x_i {p : Prop} (h : ¬ p) : Is false p := ⟨fun k => absurd k (by decide), fun k => absurd k h⟩
theorem tf {α : Type} {b : Bool} {p : Prop} {x y : Option α} {Q : α → Prop} (hb : Is b p) (h : p → Tot x Q) (k : ¬ p → Tot y Q) : Tot (bif b then x else y) Q := by
 cases b
 ·exact k fun hp => by have := hb.2 hp; cases this
 ·exact h (hb.1 rfl)
theorem tg {α : Type} {b : Bool} {p : Prop} {x y : Option α} {Q : α → Prop} (hb : Is b p) (h : ¬ p → Tot x Q) (k : p → Tot y Q) : Tot (bif !b then x else y) Q := by
 cases b
 ·exact h fun hp => by have := hb.2 hp; cases this
 ·exact k (hb.1 rfl)
theorem Tot.of {α : Type} {x : Option α} {a : α} (h : x = some a) : Tot x fun r => r = a := ⟨a, h, rfl⟩
theorem Tot.eq {α : Type} {x : Option α} {a : α} (h : Tot x fun r => r = a) : x = some a := by obtain ⟨b, h, rfl⟩ := h; exact h
theorem te {α β : Type} {x : Option α} {a : α} {f : α → Option β} {R : β → Prop} (h : x = some a) (k : Tot (f a) R) : Tot (x.bind f) R := by rw [h]; exact k
theorem Tot.and {α : Type} {x : Option α} {Q R : α → Prop} (h : Tot x Q) (k : Tot x R) : Tot x fun a => Q a ∧ R a := by
 obtain ⟨a, e, q⟩ := h
 obtain ⟨b, e', r⟩ := k
 rw [e] at e'
 obtain rfl := Option.some.inj e'
 exact ⟨a, e, q, r⟩
theorem x_br {α : Type} {l : List α} {i : Nat} {z : α} (h : i < l.length) : l.getD i z ∈ l := by
 rw [List.getD_eq_getElem?_getD, List.getElem?_eq_getElem h]
 exact List.getElem_mem h
theorem x_b4 {α : Type} {l : List α} {i : Nat} {z : α} (h : i < l.length) : l.getD i z = l[i] := by
 rw [List.getD_eq_getElem?_getD, List.getElem?_eq_getElem h]; rfl
theorem all_getD {α : Type} {l : List α} {z : α} {P : α → Prop} : (∀ i, i < l.length → P (l.getD i z)) ↔ ∀ x ∈ l, P x := by
 constructor
 ·intro h x hx
  obtain ⟨i, hi, rfl⟩ := List.mem_iff_getElem.1 hx
  have := h i hi
  rwa [x_b4 hi] at this
 ·intro h i hi
  exact h _ (x_br hi)
theorem tE {α : Type} {Q : α → Prop} (h : False) : Tot (none : Option α) Q := h.elim
theorem grow_ok {n m : Nat} (h : n * m ≤ 70368744177664) : n * m ≤ x_g := h
theorem tv {α β : Type} {x : Option (α × Unit)} {a : α} {f : α × Unit → Option β} {R : β → Prop} (h : Tot x fun r => r.1 = a) (k : Tot (f (a, ())) R) : Tot (x.bind f) R := by
 obtain ⟨⟨b, ⟨⟩⟩, rfl, h⟩ := h
 subst h
 exact k
theorem x_c2 {α : Type} {l m : List α} {i : Nat} {z : α} (h : i < l.length) : (l ++ m).getD i z = l.getD i z := by
 rw [x_b4 h, x_b4 (by rw [List.length_append]; omega), List.getElem_append_left h]
theorem x_h1 {α : Type} {l : List α} {x z : α} : (l ++ [x]).getD l.length z = x := by
 rw [x_b4 (by simp), List.getElem_append_right (Nat.le_refl _)]; simp
theorem x_sy {α : Type} {l : List α} {n i : Nat} {z : α} : (l.drop n).getD i z = l.getD (n + i) z := by
 simp [List.getD_eq_getElem?_getD, List.getElem?_drop]
theorem tA {β : Type} {L : Nat → Int → Option β} {b : (Int → Option β) → Int → Option β} (hL : ∀ n x, L (n + 1) x = b (L n) x) (N : Nat) (P : Nat → Prop) {R : β → Prop}
  (step : ∀ (i : Nat) L', i < N → (P i → Tot (L' ((i : Int) + 1)) R) → (∀ j, j < i → P j) → Tot (b L' (i : Int)) R)
  (fin : ∀ L', (∀ i, i < N → P i) → Tot (b L' (N : Int)) R) {n : Nat} (hn : N < n) : Tot (L n 0) R := by
 refine l1_ hL (fun m q => ∃ i : Nat, q = i ∧ i + m = N ∧ ∀ j, j < i → P j) (fun m x L' hi k => ?_) hn ⟨0, rfl, by omega, fun j h => by omega⟩
 obtain ⟨i, rfl, hm, ha⟩ := hi
 rcases Nat.lt_or_ge i N with h | h
 ·refine step i L' h (fun hp => k (m - 1) _ (by omega) ⟨i + 1, by push_cast; rfl, by omega, fun j hj => ?_⟩) ha
  rcases Nat.lt_or_ge j i with h | h
  ·exact ha j h
  ·obtain rfl : j = i := by omega
   exact hp
 ·obtain rfl : i = N := by omega
  exact fin L' ha
theorem x_29 {x l : Int} (h0 : 0 ≤ x) (hl : 0 < l) : 0 ≤ Int.tdiv x l ∧ Int.tdiv x l ≤ x ∧ Int.tdiv x l * l ≤ x ∧ x < (Int.tdiv x l + 1) * l := by
 rw [Int.tdiv_eq_ediv_of_nonneg h0]
 refine ⟨Int.ediv_nonneg h0 (Int.le_of_lt hl), Int.ediv_le_self _ h0, Int.ediv_mul_le _ (by omega), Int.lt_ediv_add_one_mul_self _ hl⟩
theorem x_77 {x y l : Int} (h0 : 0 ≤ x) (h : x ≤ y) (hl : 0 < l) : Int.tdiv x l ≤ Int.tdiv y l := by
 rw [Int.tdiv_eq_ediv_of_nonneg h0, Int.tdiv_eq_ediv_of_nonneg (by omega)]
 exact Int.ediv_le_ediv hl h
theorem x_72 {x y l : Int} (h0 : 0 ≤ y) (hl : 0 < l) (h : Int.tdiv x l < Int.tdiv y l) : (Int.tdiv x l + 1) * l ≤ y :=
 Int.le_trans (Int.mul_le_mul_of_nonneg_right (by omega) (by omega)) (x_29 h0 hl).2.2.1
def flat : ET → Bool
 | .p x y => flat x && flat y
 | .i _ => true
 | .b => true
 | .s => true
 | _ => false
theorem x_aia : ∀ (e : ET) (a b : e.val), flat e = true → (eqv e a b = true ↔ a = b)
 | .p x y, a, b, h => by
  simp only [flat, Bool.and_eq_true] at h
  simp only [eqv, Bool.and_eq_true, x_aia x _ _ h.1, x_aia y _ _ h.2]
  exact ⟨fun h => Prod.ext h.1 h.2, fun h => by rw [h]; exact ⟨rfl, rfl⟩⟩
 | .i k, a, b, h => by simp only [eqv, decide_eq_true_eq]
 | .b, a, b, h => by
  show ((a : Bool) == (b : Bool)) = true ↔ _
  rw [beq_iff_eq]
 | .s, a, b, h => by
  simp only [eqv, decide_eq_true_eq]
  exact ⟨fun h => x_aah h, fun h => by rw [h]⟩
 | .er, _, _, h => by simp [flat] at h
 | .u, _, _, h => by simp [flat] at h
 | .sl _, _, _, h => by simp [flat] at h
end Go.Kn
