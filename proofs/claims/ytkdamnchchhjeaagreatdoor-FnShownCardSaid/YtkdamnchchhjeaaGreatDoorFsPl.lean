/- Plain facts of what the functions compute. -/
import Derived.Test.YtkdamnchchhjeaaGreatDoorFsPl0
set_option linter.all false
set_option maxRecDepth 100000
namespace Go.Proofs.YtkdamnchchhjeaaGreatDoor.Fs
open Go Go.Kn
open List (length_append length_cons length_nil length_take length_drop length_singleton length_set length_replicate length_map mem_append mem_singleton mem_cons)
theorem t_l7Keep {K : Nat} (hK : 2097152 ≤ K) {b : List Int} (hb : BSt b) (c : x_d) (hc : C7 b c) (rows : Int) (hr : 0 ≤ rows ∧ rows ≤ 4) : Tot (x_j K c rows) fun r => KSz r.1 ∧ C7 b r.2.1 := by
 have hl := hb.2
 unfold x_j x_j.b
 have L3 : ∀ (u : x_d × Unit) (rs : List TRow) (ms : List x_v) (gs : List x_o), C7 b u.1 → rs.length < 2097152 → (∀ r ∈ rs, RSz r) → MsSz ms → gs.length < 2097152 → (∀ g ∈ gs, GSz g) → Tot (x_j.j0 K (x_j.l3 K c rows K) u rs ms gs) fun r => KSz r.1 ∧ C7 b r.2.1 := by
  intro u rs ms gs hu h1 h2 h3 h4 h5
  unfold x_j.j0
  refine tb (x_b0 hK hb _ hu) fun v7 g7 => ?_
  refine l1_ (L := fun n (q : Int × (x_d × Unit) × List Int × List x_a2) => x_j.l3 K c rows n q.1 q.2.1 rs ms gs v7 q.2.2.1 q.2.2.2) (b := fun L' q => x_j.l3b K c rows (fun a b _ _ _ _ e f => L' (a, b, e, f)) q.1 q.2.1 rs ms gs v7 q.2.2.1 q.2.2.2)
   (fun _ _ => rfl) (fun m q => ∃ i : Nat, q.1 = i ∧ i + m = 4 ∧ C7 b q.2.1.1 ∧ q.2.2.1.length = i ∧ q.2.2.2.length = i ∧ ∀ a ∈ q.2.2.2, ASz a) (fun m q L' hi kk => ?_) (x := (0, v7.2, [], [])) (m := 4) (by omega) ⟨0, rfl, by omega, g7.2.1, rfl, rfl, fun a ha => by simp at ha⟩
  obtain ⟨j, v, ds, as⟩ := q
  obtain ⟨i, hj, hm, hv, hd, ha, haz⟩ := hi
  simp only at hj hv hd ha haz
  subst hj
  unfold x_j.l3b
  simp only
  refine ti (fun a1 => ?_) fun a1 => tr ⟨⟨h1, h2, h3, h4, h5, by show ds.length < _; omega, by show as.length < _; omega, haz⟩, hv⟩
  rw [w64 (n := (i : Int) + 1) (by omega) (by omega)]
  refine tb (x_b0 hK hb _ hv) fun v8 g8 => tb (x_b0 hK hb _ g8.2.1) fun v9 g9 => tb (x_b0 hK hb _ g9.2.1) fun v10 g10 => tb (x_ok hK hb _ g10.2.1) fun v11 g11 => tb (x_ok hK hb _ g11.2.1) fun v12 g12 => tc (by show _ ≤ 70368744177664; (try dsimp only); (try simp only [ll_]); omega) (tc (by show _ ≤ 70368744177664; (try dsimp only); (try simp only [ll_]); omega) ?_)
  refine kk (m - 1) ((i : Int) + 1, v12.2, ds ++ [v8.1], as ++ [(v9.1, IntKind.i64.wrap (v10.1 - 1), v11.1, v12.1)]) (by omega) ⟨i + 1, by push_cast; rfl, by omega, g12.2.1, by show (ds ++ [_]).length = _; simp; omega, by show (as ++ [_]).length = _; simp; omega, fun a ha => ?_⟩
  have ha : a ∈ as ++ [_] := ha
  rw [mem_append, mem_singleton] at ha
  rcases ha with ha | rfl
  ·exact haz a ha
  ·exact ⟨g11.1, g12.1⟩
 have L2 : ∀ (u : x_d × Unit) (rs : List TRow) (ms : List x_v), C7 b u.1 → rs.length < 2097152 → (∀ r ∈ rs, RSz r) → MsSz ms → Tot (x_j.j1 K (x_j.l2 K c rows K) u rs ms) fun r => KSz r.1 ∧ C7 b r.2.1 := by
  intro u rs ms hu h1 h2 h3
  unfold x_j.j1
  refine tb (x_b0 hK hb _ hu) fun v5 g5 => ?_
  have lf := x_tj (b := b) (c := v5.2.1)
  refine l1_ (L := fun n (q : (Int × x_d × Unit) × Int × (x_d × Unit) × List x_o) => x_j.l2 K c rows n q.1 q.2.1 q.2.2.1 rs ms q.2.2.2) (b := fun L' q => x_j.l2b K c rows (fun a b d _ _ e => L' (a, b, d, e)) (x_j.l3 K c rows K) q.1 q.2.1 q.2.2.1 rs ms q.2.2.2)
   (fun _ _ => rfl) (fun m q => q.1.1 ≤ 2147483647 ∧ (0 ≤ q.2.1 ∧ q.2.1 ≤ 2147483647) ∧ C7 b q.2.2.1.1 ∧ left b q.2.2.1.1 = m ∧ q.2.2.2.length + m ≤ b.length + 1 ∧ ∀ g ∈ q.2.2.2, GSz g) (fun m q L' hi kk => ?_) (x := (v5, 0, v5.2, [])) (m := left b v5.2.1) (by omega) ⟨g5.1.2, by show (0 : Int) ≤ 0 ∧ (0 : Int) ≤ 2147483647; decide, g5.2.1, rfl, by show 0 + _ ≤ _; omega, fun a ha => by simp at ha⟩
  obtain ⟨w, j, v, gs⟩ := q
  obtain ⟨hw, hj, hv, hm, hlen, hgs⟩ := hi
  simp only at hw hj hv hm hlen hgs
  unfold x_j.l2b
  simp only
  have fin := L3 v rs ms gs hv h1 h2 h3 (by omega) hgs
  refine ti (fun a1 => tB (fun a2 => ?_) fun _ => fin) fun _ => fin
  rw [w64 (n := j + 1) (by omega) (by omega)]
  have a1 : j < w.1 := a1
  refine tb (t_l7Group hK hb _ hv rows hr) fun v6 g6 => tc (by show _ ≤ 70368744177664; (try dsimp only); (try simp only [ll_]); omega) ?_
  have lt := x_vc hv g6.2.1 g6.2.2 a2
  refine kk (left b v6.2.1) (w, j + 1, v6.2, gs ++ [v6.1]) (by omega) ⟨hw, ⟨by show 0 ≤ j + 1; omega, by show j + 1 ≤ _; omega⟩, g6.2.1, rfl, by show (gs ++ [_]).length + _ ≤ _; simp; omega, fun g hg => ?_⟩
  have hg : g ∈ gs ++ [_] := hg
  rw [mem_append, mem_singleton] at hg
  rcases hg with hg | rfl
  ·exact hgs g hg
  ·exact g6.1
 have L1 : ∀ (u : x_d × Unit) (rs : List TRow), C7 b u.1 → rs.length < 2097152 → (∀ r ∈ rs, RSz r) → Tot (x_j.j2 K (x_j.l1 K c rows K) u rs) fun r => KSz r.1 ∧ C7 b r.2.1 := by
  intro u rs hu h1 h2
  unfold x_j.j2
  refine tb (x_b0 hK hb _ hu) fun v3 g3 => ?_
  have lf := x_tj (b := b) (c := v3.2.1)
  refine l1_ (L := fun n (q : (Int × x_d × Unit) × Int × (x_d × Unit) × List x_v) => x_j.l1 K c rows n q.1 q.2.1 q.2.2.1 rs q.2.2.2) (b := fun L' q => x_j.l1b K c rows (fun a b d _ e => L' (a, b, d, e)) (x_j.l2 K c rows K) q.1 q.2.1 q.2.2.1 rs q.2.2.2)
   (fun _ _ => rfl) (fun m q => q.1.1 ≤ 2147483647 ∧ (0 ≤ q.2.1 ∧ q.2.1 ≤ 2147483647) ∧ C7 b q.2.2.1.1 ∧ left b q.2.2.1.1 = m ∧ q.2.2.2.length + m ≤ b.length + 1 ∧ ∀ g ∈ q.2.2.2, g.2.2.2.2.length < 2097152) (fun m q L' hi kk => ?_) (x := (v3, 0, v3.2, [])) (m := left b v3.2.1) (by omega) ⟨g3.1.2, by show (0 : Int) ≤ 0 ∧ (0 : Int) ≤ 2147483647; decide, g3.2.1, rfl, by show 0 + _ ≤ _; omega, fun a ha => by simp at ha⟩
  obtain ⟨w, j, v, ms⟩ := q
  obtain ⟨hw, hj, hv, hm, hlen, hms⟩ := hi
  simp only at hw hj hv hm hlen hms
  unfold x_j.l1b
  simp only
  have fin := L2 v rs ms hv h1 h2 ⟨by omega, hms⟩
  refine ti (fun a1 => tB (fun a2 => ?_) fun _ => fin) fun _ => fin
  rw [w64 (n := j + 1) (by omega) (by omega)]
  have a1 : j < w.1 := a1
  refine tb (t_l7Maker hK hb _ hv) fun v4 g4 => tc (by show _ ≤ 70368744177664; (try dsimp only); (try simp only [ll_]); omega) ?_
  have lt := x_vc hv g4.2.1 g4.2.2 a2
  refine kk (left b v4.2.1) (w, j + 1, v4.2, ms ++ [v4.1]) (by omega) ⟨hw, ⟨by show 0 ≤ j + 1; omega, by show j + 1 ≤ _; omega⟩, g4.2.1, rfl, by show (ms ++ [_]).length + _ ≤ _; simp; omega, fun g hg => ?_⟩
  have hg : g ∈ ms ++ [_] := hg
  rw [mem_append, mem_singleton] at hg
  rcases hg with hg | rfl
  ·exact hms g hg
  ·exact g4.1
 refine tb (x_b0 hK hb _ hc) fun v1 g1 => ?_
 have lf := x_tj (b := b) (c := v1.2.1)
 refine l1_ (L := fun n (q : (Int × x_d × Unit) × Int × (x_d × Unit) × List TRow) => x_j.l0 K c rows n q.1 q.2.1 q.2.2.1 q.2.2.2) (b := fun L' q => x_j.l0b K c rows (fun a b d e => L' (a, b, d, e)) (x_j.l1 K c rows K) q.1 q.2.1 q.2.2.1 q.2.2.2)
  (fun _ _ => rfl) (fun m q => q.1.1 ≤ 2147483647 ∧ (0 ≤ q.2.1 ∧ q.2.1 ≤ 2147483647) ∧ C7 b q.2.2.1.1 ∧ left b q.2.2.1.1 = m ∧ q.2.2.2.length + m ≤ b.length + 1 ∧ ∀ g ∈ q.2.2.2, RSz g) (fun m q L' hi kk => ?_) (x := (v1, 0, v1.2, [])) (m := left b v1.2.1) (by omega) ⟨g1.1.2, by show (0 : Int) ≤ 0 ∧ (0 : Int) ≤ 2147483647; decide, g1.2.1, rfl, by show 0 + _ ≤ _; omega, fun a ha => by simp at ha⟩
 obtain ⟨w, j, v, rs⟩ := q
 obtain ⟨hw, hj, hv, hm, hlen, hrs⟩ := hi
 simp only at hw hj hv hm hlen hrs
 unfold x_j.l0b
 simp only
 have fin := L1 v rs hv (by omega) hrs
 refine ti (fun a1 => tB (fun a2 => ?_) fun _ => fin) fun _ => fin
 rw [w64 (n := j + 1) (by omega) (by omega)]
 have a1 : j < w.1 := a1
 refine tb (t_l7Row hK hb _ hv) fun v2 g2 => tc (by show _ ≤ 70368744177664; (try dsimp only); (try simp only [ll_]); omega) ?_
 have lt := x_vc hv g2.2.1 g2.2.2 a2
 refine kk (left b v2.2.1) (w, j + 1, v2.2, rs ++ [v2.1]) (by omega) ⟨hw, ⟨by show 0 ≤ j + 1; omega, by show j + 1 ≤ _; omega⟩, g2.2.1, rfl, by show (rs ++ [_]).length + _ ≤ _; simp; omega, fun g hg => ?_⟩
 have hg : g ∈ rs ++ [_] := hg
 rw [mem_append, mem_singleton] at hg
 rcases hg with hg | rfl
 ·exact hrs g hg
 ·exact g2.1
theorem x_ad4 {K : Nat} (hK : 2097152 ≤ K) (s : x_n) (b : List Int) (hb : BSt b) : Tot (x_vm K s b) fun x => (x.2.1 = true → KOk s x.1) ∧ (x.2.1 = false → x.1 = ([], [], [], 0, [], [])) := by
 have no : Tot (some ((([], [], [], 0, [], []) : x_ao), false, ())) fun x => (x.2.1 = true → KOk s x.1) ∧ (x.2.1 = false → x.1 = ([], [], [], 0, [], [])) := tr ⟨fun h => bad h, fun _ => rfl⟩
 unfold x_vm
 refine tb (x_kr s) fun v1 g1 => tg g1 (fun _ => no) fun a => ?_
 refine tb (t_l7Keep hK hb (b, 0, true) ⟨rfl, Int.le_refl _, by show (0 : Int) ≤ _; omega⟩ _ (by have := a.1; omega)) fun v2 g2 => tN (fun _ => no) fun _ => tn (fun _ => no) fun _ => ?_
 exact tb (x_5z hK s _ g2.1) fun v3 g3 => tg g3 (fun _ => no) fun k => tr ⟨fun _ => k, fun h => bad' h⟩
theorem HSz.bd {h : x_ff} (k : HSz h) : LBd h.2.2.1 := ⟨k.2.1, k.1.1⟩
theorem putN_len {d : Nat} {l es : List x_au} : ∀ j, (putN d l es j).length ≤ l.length + j
 | 0 => Nat.le_refl _
 | j + 1 => by
  have := putN_len (d := d) (l := l) (es := es) j
  unfold putN x_xl
  split
  ·omega
  ·simp only [length_append, length_take, length_singleton]; omega
theorem snap_st (s : ByteArray) (h : s.size ≤ 30000) : BSt (x_dm s) := ⟨(x_ph s).1, by rw [(x_ph s).2]; omega⟩
theorem t_l11Do {K : Nat} (hK : 2097152 ≤ K) (p : x_n) (h : x_ff) (hh : HOk p h) (r : x_gs) (hr : NtOk r) : Tot (x_6v K p h r) fun x => HSz x.1 := by
 obtain ⟨h1, h2, h3, h4, h5⟩ := hh
 have hz : HSz h := HOk.sz ⟨h1, h2, h3, h4, h5⟩
 have hb := h3.1
 have he := hr.2.2.1
 unfold x_6v
 refine ti (fun _ => tr hz) fun _ => ti (fun _ => ?_) fun _ => ti (fun _ => ?_) fun _ => tr hz
 ·refine tb (x_af5 hK _ hz.1 _ _ _ he.sz he.2) fun v1 g1 => tB (fun a => tr ?_) fun _ => tr hz
  have g := g1.1 h3
  by_cases k : PutOk h.2.2.1 r.2.2.2.1 r.2.1 r.2.2.2.2.1
  ·rw [g.1 k]
   exact ⟨k.2.2.sz, hz.2⟩
  ·rw [g.2 k] at a; exact bad a
 ·refine tb (x_ad4 hK p _ (snap_st _ hr.2.2.2.1)) fun v2 g2 => tN (fun _ => tr hz) fun a => ti (fun _ => tr hz) fun a2 => ?_
  have hk := (g2.1 a).sz
  have hp := hr.2.1
  refine tb (x_mo _ hz.bd _) fun v3 g3 => ti (fun _ => ?_) fun _ => tr ⟨⟨by show ([] : List x_au).length < _; decide, fun x hx => by simp at hx⟩, by show -1000000 ≤ r.2.2.2.1 ∧ r.2.2.2.1 ≤ 1000000; omega, hk⟩
  refine tb (x_act _ hz.bd _) fun v4 g4 => tr ?_
  have := (x_7o h3 r.2.2.2.1).1
  rw [g4]
  have hb2 := this.1
  exact ⟨this.sz, ⟨show -1000000 ≤ (x_ui h.2.2.1 r.2.2.2.1).1 by omega, show (x_ui h.2.2.1 r.2.2.2.1).1 ≤ 1000000 by omega⟩, hk⟩
theorem x_6n {K : Nat} (hK : 2097152 ≤ K) (p : x_n) (h : x_ff) (hz : HSz h) (r : x_gs) (he : EsSz r.2.2.2.2.1) : Tot (x_iw K p h r) fun x => x.1 = h ∨ (HOk p h ∧ HOk p x.1 ∧ NtOk r) := by
 unfold x_iw
 have cp := x_7f hK h hz.1.1 hz.2.2
 refine tb (x_5s hK p h hz) fun v1 g1 => tg g1 (fun _ => tv cp (tr (.inl rfl))) fun a1 => ?_
 refine tb (x_1f hK r he) fun v2 g2 => tg g2 (fun _ => tv cp (tr (.inl rfl))) fun a2 => ?_
 refine tv cp (tb (t_l11Do hK p h a1 r a2) fun v6 g6 => tb (x_5s hK p _ g6) fun v7 g7 => tg g7 (fun _ => tv cp (tr (.inl rfl))) fun a3 => tr (.inr ⟨a1, a3, a2⟩))
theorem x_yj {K : Nat} (hK : 2097152 ≤ K) (p : x_n) (n : x_bt) (hn : NSz n) (hb : BOk n.2.2.2.2.2.2.2.2.1.1) (r : x_gs) (he : EsSz r.2.2.2.2.1) : Tot (x_jh K p n r) fun x => (x.2.1 = false ∧ x.1 = n) ∨ (x.2.1 = true ∧ POk p x.1 (n.2.2.2.1.length : Int) ∧ BOk x.1.2.2.2.2.2.2.2.2.1.1 ∧ ∃ h d, x.1 = (n.1, h, n.2.2.1, n.2.2.2.1, n.2.2.2.2.1, n.2.2.2.2.2.1, n.2.2.2.2.2.2.1, n.2.2.2.2.2.2.2.1, d, n.2.2.2.2.2.2.2.2.2)) := by
 unfold x_jh
 have cp := x_ft hK n hn
 have hz := hn.1.1
 refine tv cp (tb (x_jy hK r he) fun v2 g2 => ?_)
 have hl2 := g2.2.2.2
 refine tb (t_Append _ hn.2.2.2.2 v2.1 (by omega)) fun v3 g3 => tb (x_6n hK p _ hz r he) fun v4 g4 => tN (fun _ => tv cp (tr (.inl ⟨rfl, rfl⟩))) fun a => ?_
 rcases g3 with ⟨_, h1, h2, h3⟩ | ⟨h1, _⟩
 ·refine tb (x_1f hK r he) fun v5 g5 => tg g5 (fun _ => tv cp (tr (.inl ⟨rfl, rfl⟩))) fun a2 => ?_
  have hz4 : HSz v4.1 := by
   rcases g4 with e | e
   ·rw [e]; exact hz
   ·exact e.2.1.sz
  refine tb (x_iy hK p _ _ ?_) fun v6 g6 => tg g6 (fun _ => tv cp (tr (.inl ⟨rfl, rfl⟩))) fun a3 => tr (.inr ⟨rfl, a3, ?_, v4.1, v3.1, rfl⟩)
  ·exact ⟨hz4, hn.1.2.1, hn.1.2.2.1, hn.1.2.2.2⟩
  ·show BOk v3.1.1
   rw [h2]
   exact hb.app g2.2.2.1
 ·rw [h1] at a; exact bad a
def AT (a : x_a2) : Prop := a.2.2.1.size ≤ 30 ∧ a.2.2.2.size ≤ 30
theorem AT.sz {a : x_a2} (h : AT a) : ASz a := ⟨by have := h.1; omega, by have := h.2; omega⟩
def KW (N : Nat) (s : x_n) (k : x_ao) : Prop := SOk s ∧ (k.1.length : Int) = s.1 ∧ k.2.2.1.length = 2 ∧ k.2.2.2.2.1.length = 4 ∧ k.2.2.2.2.2.length = 4 ∧ (0 ≤ k.2.2.2.1 ∧ k.2.2.2.1 ≤ 100000) ∧ (k.2.1.length ≤ N ∧ ∀ m ∈ k.2.1, m.2.2.2.2.length ≤ 5) ∧
 (∀ i, i < k.1.length → ROk (k.1.getD i zRow)) ∧ (∀ i, i < 2 → GOk s.1 (k.2.2.1.getD i x_d9)) ∧ ∀ i, i < 4 → AT (k.2.2.2.2.2.getD i x_e6)
theorem AOk.at {a : x_a2} (h : AOk a) : AT a := ⟨h.2.2.1.1, h.2.2.2.1⟩
theorem KOk.kw {s : x_n} {k : x_ao} (h : KOk s k) {N : Nat} (hN : 16 ≤ N) : KW N s k := by
 obtain ⟨h1, h2, h3, h4, h5, h6, h7, h8, h9, h10⟩ := h
 refine ⟨h1, h2, h3, h4, h5, h6, ⟨Nat.le_trans h7.len hN, fun m hm => ?_⟩, h8, h9, fun i hi => (h10 i hi).2.at⟩
 obtain ⟨i, hi, rfl⟩ := List.mem_iff_getElem.1 hm
 have := (h7 i hi).1.2.1
 rw [x_b4 hi] at this
 have := h1.2.1
 omega
theorem KW.mono {N M : Nat} {s : x_n} {k : x_ao} (h : KW N s k) (hN : N ≤ M) : KW M s k := ⟨h.1, h.2.1, h.2.2.1, h.2.2.2.1, h.2.2.2.2.1, h.2.2.2.2.2.1, ⟨Nat.le_trans h.2.2.2.2.2.2.1.1 hN, h.2.2.2.2.2.2.1.2⟩, h.2.2.2.2.2.2.2⟩
theorem KW.sz {N : Nat} {s : x_n} {k : x_ao} (h : KW N s k) (hN : N < 2097152) : KSz k := by
 obtain ⟨h1, h2, h3, h4, h5, h6, h7, h8, h9, h10⟩ := h
 have hr := h1.1
 refine ⟨by omega, fun r hr => ?_, ⟨by omega, fun m hm => by have := h7.2 m hm; omega⟩, by omega, fun g hg => ?_, by omega, by omega, fun a ha => ?_⟩
 ·obtain ⟨i, hi, rfl⟩ := List.mem_iff_getElem.1 hr
  have := (h8 i hi).sz
  rwa [x_b4 hi] at this
 ·obtain ⟨i, hi, rfl⟩ := List.mem_iff_getElem.1 hg
  have := (h9 i (by omega)).sz (by omega)
  rwa [x_b4 hi] at this
 ·obtain ⟨i, hi, rfl⟩ := List.mem_iff_getElem.1 ha
  have := (h10 i (by omega)).sz
  rwa [x_b4 hi] at this
def PI (N : Nat) (p : x_n) (s : Int) (n : x_bt) : Prop := (1 ≤ s ∧ s ≤ 5 ∧ 0 ≤ n.1 ∧ n.1 ≤ s - 1) ∧ HOk p n.2.1 ∧ ((n.2.2.2.1.length : Int) = s ∧ (n.2.2.2.2.1.length : Int) = s ∧ (n.2.2.2.2.2.1.length : Int) = s) ∧ (n.2.1.2.2.1.1 ≤ n.2.2.2.2.2.2.1 ∧ n.2.2.2.2.2.2.1 ≤ 300) ∧ KW N p n.2.2.2.2.2.2.2.1 ∧
 (n.2.2.2.2.2.2.2.2.1.1.length ≤ 80000 ∧ BOk n.2.2.2.2.2.2.2.2.1.1) ∧ n.2.2.2.2.2.2.2.2.2.length ≤ 40 ∧ ∀ r ∈ n.2.2.2.2.2.2.2.2.2, RpSz r
theorem PI.mono {N M : Nat} {p : x_n} {s : Int} {n : x_bt} (h : PI N p s n) (hN : N ≤ M) : PI M p s n := ⟨h.1, h.2.1, h.2.2.1, h.2.2.2.1, h.2.2.2.2.1.mono hN, h.2.2.2.2.2⟩
theorem PI.nsz {N : Nat} {p : x_n} {s : Int} {n : x_bt} (h : PI N p s n) (hN : N < 2097152) : NSz n := by
 obtain ⟨h1, h2, h3, h4, h5, h6, h7, h8⟩ := h
 exact ⟨⟨h2.sz, h5.sz hN, by omega, h8⟩, by omega, by omega, by omega, by omega⟩
theorem POk.pi {p : x_n} {n : x_bt} {s : Int} (h : POk p n s) (hb : BOk n.2.2.2.2.2.2.2.2.1.1) {N : Nat} (hN : 16 ≤ N) : PI N p s n := by
 have hz := h.sz
 obtain ⟨h1, h2, h3, h4, h5, h6, h7, h8, h9, h10, h11, h12, h13, h14⟩ := h
 exact ⟨⟨h1.1, h1.2, h2.1, h2.2⟩, h3, ⟨h6, h7, h8⟩, ⟨h11.1, by have := h3.2.2.1.last; omega⟩, h12.kw hN, ⟨h13.1, hb⟩, h14, hz.2.2.2⟩
theorem HOk.lsz {p : x_n} {h : x_ff} (k : HOk p h) : h.2.2.1.2.2.length < 2097152 ∧ (-1000000 ≤ h.2.2.1.1 ∧ h.2.2.1.1 ≤ 1000000) := ⟨k.sz.1.1, k.sz.2.1⟩
def W1 (N : Nat) (w x : x_e) : Prop := x.1 = w.1 ∧ x.2.1 = w.2.1 ∧ PI N w.1 w.2.1 x.2.2.1
def WI (N : Nat) (w : x_e) : Prop := PI N w.1 w.2.1 w.2.2.1
theorem W1.wi {N : Nat} {w x : x_e} (h : W1 N w x) : WI N x := by unfold WI; rw [h.1, h.2.1]; exact h.2.2
theorem W1.trans {N M : Nat} {w x y : x_e} (h : W1 N w x) (k : W1 M x y) : W1 M w y := ⟨k.1.trans h.1, k.2.1.trans h.2.1, by rw [← h.1, ← h.2.1]; exact k.2.2⟩
theorem WI.refl {N : Nat} {w : x_e} (h : WI N w) : W1 N w w := ⟨rfl, rfl, h⟩
theorem W1.mono {N M : Nat} {w x : x_e} (h : W1 N w x) (hN : N ≤ M) : W1 M w x := ⟨h.1, h.2.1, h.2.2.mono hN⟩
variable {K N : Nat}
theorem EsSz.nil : EsSz [] := ⟨by show (0 : Nat) < _; decide, fun x hx => by simp at hx⟩
theorem x_kf (hK : 2097152 ≤ K) (hN : N < 2097152) (w : x_e) (h : WI N w) (r : x_gs) (he : EsSz r.2.2.2.2.1) : Tot (x_fh K w r) fun x => W1 N w x.1 := by
 unfold x_fh
 refine tN (fun _ => tr h.refl) fun _ => tb (x_yj hK _ _ (h.nsz hN) h.2.2.2.2.2.1.2 r he) fun v g => tr ⟨rfl, rfl, ?_⟩
 show PI N _ _ v.1
 rcases g with ⟨_, g⟩ | ⟨_, g, b, hh, d, e⟩
 ·rw [g]; exact h
 ·rw [e] at g b ⊢
  obtain ⟨h1, h2, h3, h4, h5, h6, h7⟩ := h
  exact ⟨h1, g.2.2.1, h3, ⟨g.2.2.2.2.2.2.2.2.2.2.1.1, h4.2⟩, h5, ⟨g.2.2.2.2.2.2.2.2.2.2.2.2.1.1, b⟩, h7⟩
theorem x_qj (hK : 2097152 ≤ K) (hN : N < 2097152) (w : x_e) (h : WI N w) (t : Int) : Tot (x_hd K w t) fun x => W1 N w x.1 := by
 unfold x_hd
 exact ti (fun _ => tb (x_kf hK hN w h _ EsSz.nil) fun v g => tr ⟨g.1, g.2.1, g.2.2⟩) fun _ => tr ⟨rfl, rfl, h⟩
theorem t_Newer (l : TLog) (h : l.2.2.length < 2097152 ∧ (-1000000 ≤ l.1 ∧ l.1 ≤ 1000000)) (a b : Int) : Tot (x_14 l a b) fun _ => True := by
 unfold x_14
 exact tb (x_ew l h.1 h.2) fun v g => ti (fun _ => tr trivial) fun _ => ti (fun _ => tr trivial) fun _ => tr trivial
theorem t_Tell (hK : 2097152 ≤ K) (hN : N < 2097152) {p : x_n} {s : Int} (n : x_bt) (h : PI N p s n) (r : TRpc) (hr : RpSz r) : Tot (s_Tell K n r) fun x => PI N p s x.1 := by
 unfold s_Tell
 refine tv (x_ft hK n (h.nsz hN)) (ti (fun _ => tr h) fun a => tv (x_5t r hr.1) ?_)
 obtain ⟨h1, h2, h3, h4, h5, h6, h7, h8⟩ := h
 refine tc (by show _ ≤ 70368744177664; (try dsimp only); (try simp only [ll_]); omega) (tr ⟨h1, h2, h3, h4, h5, h6, ?_, fun q hq => ?_⟩)
 ·show (n.2.2.2.2.2.2.2.2.2 ++ [r]).length ≤ 40
  simp only [length_append, length_singleton]; omega
 ·have hq : q ∈ n.2.2.2.2.2.2.2.2.2 ++ [r] := hq
  rw [mem_append, mem_singleton] at hq
  rcases hq with hq | rfl
  ·exact h8 q hq
  ·exact hr
theorem x_m0 (hK : 2097152 ≤ K) (hN : N < 2097152) (w : x_e) (h : WI N w) (r : TRpc) (hr : RpSz r) : Tot (x_ek K w r) fun x => W1 N w x.1 := by
 unfold x_ek
 refine tN (fun _ => tr h.refl) fun _ => tb (t_Tell hK hN _ h _ hr) fun v g => tB (fun _ => ?_) fun _ => tr ⟨rfl, rfl, g⟩
 exact tb (x_acc hK _ _ hr) fun v2 g2 => tr ⟨rfl, rfl, g⟩
theorem t_l14Ask (hK : 2097152 ≤ K) (hN : N < 2097152) (w : x_e) (h : WI N w) (r : TRpc) : Tot (x_fy K w r) fun x => W1 N w x.1 := by
 have j : ∀ b, Tot (x_fy.j0 K b w r) fun x => W1 N w x.1 := fun b => by
  unfold x_fy.j0
  refine tB (fun _ => ti (fun _ => ?_) fun _ => ?_) fun _ => ?_
  ·exact tb (x_kf hK hN w h _ EsSz.nil) fun v g => tb (x_m0 hK hN _ g.wi _ EsSz.nil) fun v5 g5 => tr (g.trans g5)
  ·exact tb (x_m0 hK hN _ h _ EsSz.nil) fun v5 g5 => tr g5
  ·exact tb (x_m0 hK hN _ h _ EsSz.nil) fun v5 g5 => tr g5
 have nw := t_Newer w.2.2.1.2.1.2.2.1 h.2.1.lsz r.2.2.2.2.1 r.2.2.2.2.2.1
 unfold x_fy
 exact ti (fun _ => ti (fun _ => tb nw fun v _ => j _) fun _ => ti (fun _ => tb nw fun v _ => j _) fun _ => j _) fun _ => j _
theorem t_l1Bit (b : Bool) : Tot (x_3s b) fun r => 0 ≤ r.1 ∧ r.1 ≤ 1 := by
 unfold x_3s
 exact tB (fun _ => tr (by decide)) fun _ => tr (by decide)
theorem x_7h (hK : 2097152 ≤ K) (hN : N < 2097152) (w : x_e) (h : WI N w) : Tot (x_pf K w) fun x => W1 N w x.1 := by
 have hs := h.1
 unfold x_pf
 refine tv (x_ft hK _ (h.nsz hN)) (tb (x_ew _ h.2.1.lsz.1 h.2.1.lsz.2) fun v2 g2 => tb (x_0u hK _ _ (by omega)) fun v3 g3 => ?_)
 refine tc rfl (tc (by omega) (tc (by show _ ≤ 70368744177664; (try dsimp only); (try simp only [ll_]); omega) ?_))
 have hw : WI N (w.1, w.2.1, (w.2.2.1.1, w.2.2.1.2.1, 2, w.2.2.1.2.2.2.1, v3.1, List.replicate (Int.toNat w.2.1) 0, w.2.2.1.2.2.2.2.2.2.1, w.2.2.1.2.2.2.2.2.2.2.1, w.2.2.1.2.2.2.2.2.2.2.2.1, w.2.2.1.2.2.2.2.2.2.2.2.2), w.2.2.2) := by
  obtain ⟨h1, h2, h3, h4⟩ := h
  refine ⟨h1, h2, ⟨h3.1, ?_, ?_⟩, h4⟩
  ·show ((v3.1.length : Nat) : Int) = w.2.1
   rw [g3, length_replicate]; omega
  ·show (((List.replicate (Int.toNat w.2.1) (0 : Int)).length : Nat) : Int) = w.2.1
   rw [length_replicate]; omega
 refine tb (x_kf hK hN _ hw _ ⟨by show (1 : Nat) < _; decide, fun x hx => ?_⟩) fun v4 g4 => ?_
 ·obtain rfl := mem_singleton.1 hx
  exact ⟨by show ByteArray.empty.size < _; decide, by show ByteArray.empty.size < _; decide⟩
 ·have back : W1 N w (v4.1.1, v4.1.2.1, (w.2.2.1.1, w.2.2.1.2.1, 0, w.2.2.1.2.2.2.1, w.2.2.1.2.2.2.2.1, w.2.2.1.2.2.2.2.2.1, w.2.2.1.2.2.2.2.2.2.1, w.2.2.1.2.2.2.2.2.2.2.1, w.2.2.1.2.2.2.2.2.2.2.2.1, w.2.2.1.2.2.2.2.2.2.2.2.2), true) := ⟨g4.1, g4.2.1, h⟩
  exact tN (fun _ => tr back) fun _ => ti (fun _ => tr back) fun _ => tr ⟨g4.1, g4.2.1, g4.2.2⟩
theorem t_l14Vote (hK : 2097152 ≤ K) (hN : N < 2097152) (w : x_e) (h : WI N w) (r : TRpc) (hf : 0 ≤ r.2.1 ∧ r.2.1 ≤ w.2.1 - 1) : Tot (x_bi K w r) fun x => W1 N w x.1 := by
 have hs := h.1
 have hv := h.2.2.1.1
 unfold x_bi x_bi.b
 refine tn (fun _ => tr h.refl) fun _ => tN (fun _ => tr h.refl) fun _ => tn (fun _ => tr h.refl) fun _ => ?_
 refine tc (by omega) (tc (by omega) ?_)
 have hw : WI N (w.1, w.2.1, (w.2.2.1.1, w.2.2.1.2.1, w.2.2.1.2.2.1, w.2.2.1.2.2.2.1.set (Int.toNat r.2.1) true, w.2.2.1.2.2.2.2.1, w.2.2.1.2.2.2.2.2.1, w.2.2.1.2.2.2.2.2.2.1, w.2.2.1.2.2.2.2.2.2.2.1, w.2.2.1.2.2.2.2.2.2.2.2.1, w.2.2.1.2.2.2.2.2.2.2.2.2), w.2.2.2) := by
  obtain ⟨h1, h2, h3, h4⟩ := h
  refine ⟨h1, h2, ⟨?_, h3.2⟩, h4⟩
  show (((w.2.2.1.2.2.2.1.set (Int.toNat r.2.1) true).length : Nat) : Int) = w.2.1
  rw [length_set]; exact hv
 refine l2_ (L := x_bi.l0 K w r) (fun _ _ _ => rfl) (fun m _ x => ∃ i : Nat, x = i ∧ (i : Int) + m = w.2.1) (fun m c x L' hi k => ?_) (m := (w.2.1).toNat) (by omega) ⟨0, rfl, by omega⟩
 obtain ⟨i, rfl, hm⟩ := hi
 unfold x_bi.l0b
 refine ti (fun a => ?_) fun a => ?_
 ·have e : (((w.2.2.1.2.2.2.1.set (Int.toNat r.2.1) true).length : Nat) : Int) = w.2.1 := by rw [length_set]; exact hv
  rw [w64 (n := (i : Int) + 1) (by omega) (by omega)]
  exact tc (by omega) (tc (by omega) (tb (t_l1Bit _) fun v1 g1 => k (m - 1) _ _ (by omega) ⟨i + 1, by push_cast; rfl, by omega⟩))
 ·unfold x_6o
  refine tb (Q := fun _ => True) (tr trivial) fun v2 _ => ti (fun _ => ?_) fun _ => tr ⟨rfl, rfl, hw⟩
  exact tb (x_7h hK hN _ hw) fun v3 g3 => tr ⟨g3.1, g3.2.1, g3.2.2⟩
theorem x_mj (hK : 2097152 ≤ K) (hN : N < 2097152) (w : x_e) (h : WI N w) (t : Int) (b : Bool) (i : Int) : Tot (x_eb K w t b i) fun x => W1 N w x.1 := by
 unfold x_eb
 exact tb (x_m0 hK hN w h _ EsSz.nil) fun v g => tr g
theorem t_l14Lost (hK : 2097152 ≤ K) (n : x_bt) (h : LBd n.2.1.2.2.1) (hb : 0 ≤ n.2.1.2.2.1.1) (hc : n.2.2.2.2.2.2.1 ≤ 300) (l : TLog) (hl : LBd l) : Tot (x_bp K n l) fun _ => True := by
 have hb1 := h.1
 unfold x_bp x_bp.b
 refine tb (x_ew l hl.2 hl.1) fun v g => ti (fun _ => tr trivial) fun _ => ?_
 rw [w64 (n := n.2.1.2.2.1.1 + 1) (by omega) (by omega)]
 refine l1_ (L := x_bp.l0 K n l) (fun _ _ => rfl) (fun m x => 0 ≤ x ∧ x ≤ 1000001 ∧ (x ≤ n.2.2.2.2.2.2.1 → x + m = n.2.2.2.2.2.2.1 + 1)) (fun m x L' hi k => ?_) (m := (n.2.2.2.2.2.2.1 + 1 - (n.2.1.2.2.1.1 + 1)).toNat) (by omega) ⟨by omega, by omega, fun a => by omega⟩
 unfold x_bp.l0b
 refine ti (fun a => ?_) fun a => tr trivial
 obtain ⟨i1, i2, i3⟩ := hi
 have := i3 a
 rw [w64 (n := x + 1) (by omega) (by omega)]
 exact tb (x_mo l hl _) fun v2 _ => tb (x_mo _ h _) fun v3 _ => tn (fun _ => tr trivial) fun _ => k (m - 1) _ (by omega) ⟨by omega, by omega, fun _ => by omega⟩
theorem x_5q (hK : 2097152 ≤ K) (a b : List x_au) (h : a.length < 2097152) : Tot (x_ah K a b) fun _ => True := by
 unfold x_ah x_ah.b
 refine l1_ (L := x_ah.l0 K a b) (fun _ _ => rfl) (fun m x => ∃ i : Nat, x = i ∧ i + m = a.length) (fun m x L' hi k => ?_) (m := a.length) (by omega) ⟨0, rfl, by omega⟩
 obtain ⟨i, rfl, hm⟩ := hi
 unfold x_ah.l0b
 refine ti (fun h1 => ti (fun h2 => ?_) fun _ => tr trivial) fun _ => tr trivial
 rw [w64 (n := (i : Int) + 1) (by omega) (by omega)]
 exact tc (by omega) (tc h1 (tc (by omega) (tc h2 (tN (fun _ => tr trivial) fun _ => k (m - 1) _ (by omega) ⟨i + 1, by push_cast; rfl, by omega⟩))))
theorem x_25 (hK : 2097152 ≤ K) (w : x_e) (h : WI N w) (a : Int) : Tot (x_a0 K w a) fun x => W1 N w x.1 := by
 have hs := h.1
 unfold x_a0 x_a0.b
 refine l3_ (L := x_a0.l0 K w a) (fun _ _ _ _ => rfl) (fun m x p q => ∃ i : Nat, x = i ∧ (i : Int) + m = w.2.1 ∧ (p.length : Int) = w.2.1 ∧ (q.length : Int) = w.2.1) (fun m x p q L' hi k => ?_) (m := (w.2.1).toNat) (by omega) ⟨0, rfl, by omega, h.2.2.1.2.1, h.2.2.1.2.2⟩
 obtain ⟨i, rfl, hm, hp, hq⟩ := hi
 unfold x_a0.l0b
 refine ti (fun h1 => ?_) fun _ => ?_
 ·rw [w64 (n := (i : Int) + 1) (by omega) (by omega)]
  refine tc (by omega) (tc (by omega) (tb (x_n1 _ _) fun v1 _ => tc (by omega) (tc (by omega) (tc (by omega) (tc (by omega) (tb (x_n1 _ _) fun v2 _ => tc (by omega) (tc (by omega) ?_)))))))
  exact k (m - 1) _ _ _ (by omega) ⟨i + 1, by push_cast; rfl, by omega, by rw [length_set]; exact hp, by rw [length_set]; exact hq⟩
 ·obtain ⟨h1, h2, h3, h4⟩ := h
  exact tr ⟨rfl, rfl, h1, h2, ⟨h3.1, hp, hq⟩, h4⟩
variable {K N : Nat}
theorem x_rw {α : Type} {l : List α} {i j : Nat} {x z : α} : (l.set j x).getD i z = l.getD i z ∨ (l.set j x).getD i z = x := by
 by_cases h : i < l.length
 ·have h' : i < (l.set j x).length := by rw [length_set]; exact h
  rw [x_b4 h', x_b4 h, List.getElem_set]
  split
  ·exact .inr rfl
  ·exact .inl rfl
 ·left
  simp only [List.getD_eq_getElem?_getD]
  rw [List.getElem?_eq_none (l := l) (by omega), List.getElem?_eq_none (l := l.set j x) (by rw [length_set]; omega)]
theorem az (c n : Int) : AT (c, n, ByteArray.empty, ByteArray.empty) := ⟨by show ByteArray.empty.size ≤ _; decide, by show ByteArray.empty.size ≤ _; decide⟩
theorem KW.row {s : x_n} {k : x_ao} (h : KW N s k) {r : TRow} (hr : ROk r) (i : Nat) : KW N s (k.1.set i r, k.2.1, k.2.2.1, k.2.2.2.1, k.2.2.2.2.1, k.2.2.2.2.2) := by
 obtain ⟨h1, h2, h3, h4, h5, h6, h7, h8, h9, h10⟩ := h
 refine ⟨h1, ?_, h3, h4, h5, h6, h7, fun j hj => ?_, h9, h10⟩
 ·show ((k.1.set i r).length : Int) = _
  rw [length_set]; exact h2
 ·have hj : j < (k.1.set i r).length := hj
  show ROk ((k.1.set i r).getD j zRow)
  rw [length_set] at hj
  rcases x_rw (l := k.1) (i := j) (j := i) (x := r) (z := zRow) with e | e <;> rw [e]
  ·exact h8 j hj
  ·exact hr
theorem KW.group {s : x_n} {k : x_ao} (h : KW N s k) {g : x_o} (hg : GOk s.1 g) (i : Nat) : KW N s (k.1, k.2.1, k.2.2.1.set i g, k.2.2.2.1, k.2.2.2.2.1, k.2.2.2.2.2) := by
 obtain ⟨h1, h2, h3, h4, h5, h6, h7, h8, h9, h10⟩ := h
 refine ⟨h1, h2, ?_, h4, h5, h6, h7, h8, fun j hj => ?_, h10⟩
 ·show (k.2.2.1.set i g).length = _
  rw [length_set]; exact h3
 ·show GOk _ ((k.2.2.1.set i g).getD j x_d9)
  rcases x_rw (l := k.2.2.1) (i := j) (j := i) (x := g) (z := x_d9) with e | e <;> rw [e]
  ·exact h9 j hj
  ·exact hg
theorem KW.makers {M : Nat} {s : x_n} {k : x_ao} (h : KW N s k) {l : List x_v} (hl : l.length ≤ M ∧ ∀ m ∈ l, m.2.2.2.2.length ≤ 5) : KW M s (k.1, l, k.2.2.1, k.2.2.2.1, k.2.2.2.2.1, k.2.2.2.2.2) :=
 ⟨h.1, h.2.1, h.2.2.1, h.2.2.2.1, h.2.2.2.2.1, h.2.2.2.2.2.1, hl, h.2.2.2.2.2.2.2⟩
theorem COk.act {c : TCmd} (h : COk c) (hw : ¬ c.1 < 0) : (0 ≤ c.1 ∧ c.1 ≤ 3) ∧ (1 ≤ c.2.2.1 ∧ c.2.2.1 ≤ 10) ∧ (0 ≤ c.2.2.2.1 ∧ c.2.2.2.1 ≤ 100000) ∧ (0 ≤ c.2.2.2.2.1 ∧ c.2.2.2.2.1 ≤ 100000) ∧ (0 ≤ c.2.2.2.2.2.1 ∧ c.2.2.2.2.2.1 ≤ 100000) := by
 rcases h with h | h
 ·have := h.1; omega
 ·exact ⟨h.2.1, h.2.2.2.1, h.2.2.2.2.1, h.2.2.2.2.2.1, h.2.2.2.2.2.2.1⟩
theorem t_l6Group (hK : 2097152 ≤ K) (s : x_n) (k : x_ao) (h : KW N s k) (c : TCmd) (hc : COk c) (hw : ¬ c.1 < 0) (ha : c.2.2.2.1 < 2) : Tot (x_sw K s k c) fun x => KW N s x.1 ∧ AT x.2.1 := by
 have hr := h.1.1
 have hg2 := h.2.2.1
 have hcc := hc.act hw
 have h9 := h.2.2.2.2.2.2.2.2.1
 have hg : GOk s.1 (k.2.2.1.getD (Int.toNat c.2.2.2.1) x_d9) := h9 _ (by omega)
 have ls : ∀ g : x_o, c.2.2.2.1 < (((k.2.2.1.set (Int.toNat c.2.2.2.1) g).length : Nat) : Int) := fun g => by rw [length_set]; omega
 unfold x_sw
 refine tc (by omega) (tc (by omega) (ti (fun _ => ?_) fun _ => ti (fun _ => ?_) fun _ => ti (fun _ => ?_) fun _ => ti (fun _ => tr ⟨h, az _ _⟩) fun hb => ?_))
 ·exact tb (x_xj hK (by omega) _ hg _ _ h.2.2.2.2.2.1) fun v1 g1 => tc (by omega) (tc (by omega) (tc (by omega) (tc (ls _) (tr ⟨h.group g1 _, az _ _⟩))))
 ·exact tb (x_vi hK (by omega) _ hg _) fun v1 g1 => tc (by omega) (tc (by omega) (tc (by omega) (tc (ls _) (tr ⟨h.group g1.1 _, az _ _⟩))))
 ·exact tb (x_xt (by omega) _ hg _ _ _ _ hcc.2.2.2.2) fun v1 g1 => tN (fun _ => tr ⟨h, az _ _⟩) fun _ => tc (by omega) (tc (by omega) (tr ⟨h.group g1.1 _, az _ _⟩))
 ·have := hg.2.2.1
  exact tc (by omega) (tc (by omega) (tr ⟨h, az _ _⟩))
theorem x_8j (hK : 2097152 ≤ K) (l : List x_v) (hl : l.length < 2097152) (hm : ∀ m ∈ l, m.2.2.2.2.length ≤ 5) (a b : Int) : Tot (x_bk K l a b) fun x => x.1.2.2.2.2.length ≤ 5 := by
 unfold x_bk x_bk.b
 refine l1_ (L := x_bk.l0 K l a b) (fun _ _ => rfl) (fun m x => ∃ i : Nat, x = i ∧ i + m = l.length) (fun m x L' hi k => ?_) (m := l.length) (by omega) ⟨0, rfl, by omega⟩
 obtain ⟨i, rfl, hi⟩ := hi
 unfold x_bk.l0b
 refine ti (fun h1 => ?_) fun _ => tr (by show (0 : Nat) ≤ 5; decide)
 rw [w64 (n := (i : Int) + 1) (by omega) (by omega), Int.toNat_natCast]
 have go := k (m - 1) ((i : Int) + 1) (by omega) ⟨i + 1, by push_cast; rfl, by omega⟩
 have hm := hm _ (x_br (z := x_b5) (show i < l.length by omega))
 exact tc (by omega) (tc h1 (ti (fun _ => tc (by omega) (tc h1 (ti (fun _ => tc (by omega) (tc h1 (tv (x_ua _ (by omega)) (tr hm)))) fun _ => go))) fun _ => go))
theorem x_37 (hK : 2097152 ≤ K) (m : x_v) (hm : m.2.2.2.2.length < 2097152) (a b : Int) : Tot (x_a1 K m a b) fun _ => True := by
 unfold x_a1 x_a1.b
 refine ti (fun _ => tr trivial) fun _ => ti (fun _ => ti (fun _ => tr trivial) fun _ => tr trivial) fun _ => ti (fun _ => ti (fun _ => tr trivial) fun _ => tr trivial) fun _ => ?_
 refine l1_ (L := x_a1.l0 K m a b) (fun _ _ => rfl) (fun d x => ∃ i : Nat, x = i ∧ i + d = m.2.2.2.2.length) (fun d x L' hi k => ?_) (m := m.2.2.2.2.length) (by omega) ⟨0, rfl, by omega⟩
 obtain ⟨i, rfl, hi⟩ := hi
 unfold x_a1.l0b
 refine ti (fun h1 => ?_) fun _ => tr trivial
 rw [w64 (n := (i : Int) + 1) (by omega) (by omega)]
 exact tc (by omega) (tc h1 (ti (fun _ => tc (by omega) (tc h1 (tr trivial))) fun _ => k (d - 1) _ (by omega) ⟨i + 1, by push_cast; rfl, by omega⟩))
theorem x_v9 (hK : 2097152 ≤ K) (m : x_v) (hm : m.2.2.2.2.length ≤ 5) (w : Int) (hw : 1 ≤ w ∧ w ≤ 5) (e q o : Int) : Tot (x_ds K m w e q o) fun x => x.1.2.2.2.2.length ≤ 5 := by
 have j : ∀ (l : List x_wf) (v : x_v × Unit), l.length ≤ 5 → Tot (x_ds.j0 K l q o w v e) fun x => x.1.2.2.2.2.length ≤ 5 := fun l v hl => by
  have e1 : (l ++ [(q, o)]).length = l.length + 1 := by simp
  unfold x_ds.j0
  refine tc (by show _ ≤ 70368744177664; (try dsimp only); (try simp only [ll_]); omega) (tv (x_pg _ _) (ti (fun a => tv (x_pg _ _) ?_) fun a => tr ?_))
  ·rw [w64 (n := (((l ++ [(q, o)]).length : Nat) : Int) - max w 0) (by omega) (by omega)]
   have hlen : (((l ++ [(q, o)]).take (Int.toNat (((l ++ [(q, o)]).length : Nat) : Int))).drop (Int.toNat ((((l ++ [(q, o)]).length : Nat) : Int) - max w 0))).length ≤ 5 := by
    rw [length_drop, length_take]; omega
   refine tc rfl (tc (by omega) (tc (by omega) (tc (Int.le_refl _) (tc (by show _ ≤ 70368744177664; simp only [length_nil]; omega) (tr ?_)))))
   show (([] : List x_wf) ++ _).length ≤ 5
   rw [List.nil_append]; exact hlen
  ·show (l ++ [(q, o)]).length ≤ 5
   omega
 unfold x_ds
 exact tv (x_ua m (by omega)) (tb (x_37 hK m (by omega) _ _) fun v2 _ => tn (fun _ => tr hm) fun _ => ti (fun _ => j _ _ (by show (0 : Nat) ≤ 5; decide)) fun _ => j _ _ hm)
theorem x_28 (hK : 2097152 ≤ K) (l : List x_v) (hl : l.length ≤ 1000000) (hm : ∀ m ∈ l, m.2.2.2.2.length ≤ 5) (x : x_v) (hx : x.2.2.2.2.length ≤ 5) : Tot (x_am K l x) fun r => r.1.length ≤ l.length + 1 ∧ ∀ m ∈ r.1, m.2.2.2.2.length ≤ 5 := by
 have cx := x_ua x (by omega)
 have app : ∀ (p : List x_v) (y : x_v), (∀ m ∈ p, m.2.2.2.2.length ≤ 5) → y.2.2.2.2.length ≤ 5 → ∀ m ∈ p ++ [y], m.2.2.2.2.length ≤ 5 := fun p y h1 h2 m hm => by
  rw [mem_append, mem_singleton] at hm
  rcases hm with hm | rfl
  ·exact h1 m hm
  ·exact h2
 unfold x_am x_am.b
 refine l3_ (L := x_am.l0 K l x) (fun _ _ _ _ => rfl) (fun d p b i => ∃ j : Nat, i = j ∧ j + d = l.length ∧ (b = false → p.length ≤ j) ∧ p.length ≤ j + 1 ∧ ∀ m ∈ p, m.2.2.2.2.length ≤ 5) (fun d p b i L' hi k => ?_) (m := l.length) (by omega) ⟨0, rfl, by omega, fun _ => Nat.le_refl _, by show (0 : Nat) ≤ 1; decide, fun m hm => by simp at hm⟩
 obtain ⟨j, rfl, hj, h1, h2, h3⟩ := hi
 unfold x_am.l0b
 refine ti (fun a => ?_) fun a => tN (fun hb => tv cx (tc (by show _ ≤ 70368744177664; (try dsimp only); (try simp only [ll_]); omega) (tr ⟨?_, app _ _ h3 hx⟩))) fun hb => tr ⟨by show p.length ≤ _; omega, h3⟩
 ·rw [w64 (n := (j : Int) + 1) (by omega) (by omega), Int.toNat_natCast]
  have hy := hm _ (x_br (z := x_b5) (show j < l.length by omega))
  have cy := x_ua (l.getD j x_b5) (by omega)
  have two : b = false → ∀ i', i' = (j : Int) + 1 → Tot (L' ((p ++ [x]) ++ [l.getD j x_b5]) true i') fun r => r.1.length ≤ l.length + 1 ∧ ∀ m ∈ r.1, m.2.2.2.2.length ≤ 5 := fun hb i' e => k (d - 1) _ _ _ (by omega) ⟨j + 1, by rw [e]; push_cast; rfl, by omega, fun h => bad' h, by have := h1 hb; simp only [length_append, length_singleton]; omega, app _ _ (app _ _ h3 hx) hy⟩
  have one : ∀ i', i' = (j : Int) + 1 → Tot (L' (p ++ [l.getD j x_b5]) b i') fun r => r.1.length ≤ l.length + 1 ∧ ∀ m ∈ r.1, m.2.2.2.2.length ≤ 5 := fun i' e => k (d - 1) _ _ _ (by omega) ⟨j + 1, by rw [e]; push_cast; rfl, by omega, fun h => by have := h1 h; simp only [length_append, length_singleton]; omega, by simp only [length_append, length_singleton]; omega, app _ _ h3 hy⟩
  have jn : Tot (x_am.j0 K L' b l (j : Int) x p) fun r => r.1.length ≤ l.length + 1 ∧ ∀ m ∈ r.1, m.2.2.2.2.length ≤ 5 := by
   unfold x_am.j0
   rw [w64 (n := (j : Int) + 1) (by omega) (by omega), Int.toNat_natCast]
   have o1 : Tot ((x_d7 (l.getD j x_b5)).bind fun v => bif decide ((p.length + [v.1].length) * 57 ≤ x_g) then L' (p ++ [v.1]) b ((j : Int) + 1) else none) fun r => r.1.length ≤ l.length + 1 ∧ ∀ m ∈ r.1, m.2.2.2.2.length ≤ 5 := tv cy (tc (by show _ ≤ 70368744177664; (try dsimp only); (try simp only [ll_]); omega) (one _ rfl))
   refine tN (fun hb => ti (fun _ => ?_) fun _ => ti (fun _ => ti (fun _ => ?_) fun _ => o1) fun _ => o1) fun _ => o1
   ·exact tv cx (tc (by show _ ≤ 70368744177664; (try dsimp only); (try simp only [ll_]); omega) (tv cy (tc (by show _ ≤ 70368744177664; (try dsimp only); (try simp only [ll_]); omega) (two hb _ rfl))))
   ·exact tv cx (tc (by show _ ≤ 70368744177664; (try dsimp only); (try simp only [ll_]); omega) (tv cy (tc (by show _ ≤ 70368744177664; (try dsimp only); (try simp only [ll_]); omega) (two hb _ rfl))))
  refine tc (by omega) (tc a (ti (fun _ => ti (fun _ => tN (fun hb => ?_) fun hb => ?_) fun _ => jn) fun _ => jn))
  ·exact tv cx (tc (by show _ ≤ 70368744177664; (try dsimp only); (try simp only [ll_]); omega) (k (d - 1) _ _ _ (by omega) ⟨j + 1, by push_cast; rfl, by omega, fun h => bad' h, by have := h1 hb; simp only [length_append, length_singleton]; omega, app _ _ h3 hx⟩))
  ·exact k (d - 1) _ _ _ (by omega) ⟨j + 1, by push_cast; rfl, by omega, fun h => by rw [hb] at h; exact bad' h, by omega, h3⟩
 ·have := h1 hb
  simp only [length_append, length_singleton]; omega
variable {K N : Nat}
theorem KW.ms {s : x_n} {k : x_ao} (h : KW N s k) : k.2.1.length ≤ N ∧ ∀ m ∈ k.2.1, m.2.2.2.2.length ≤ 5 := h.2.2.2.2.2.2.1
theorem KW.rok {s : x_n} {k : x_ao} (h : KW N s k) {i : Nat} (hi : i < k.1.length) : ROk (k.1.getD i zRow) := h.2.2.2.2.2.2.2.1 i hi
theorem t_l6Put (hK : 2097152 ≤ K) (hN : N < 1000000) (s : x_n) (k : x_ao) (h : KW N s k) (c : TCmd) (hc : COk c) (hw : ¬ c.1 < 0) (ha : c.2.2.2.1 < s.1) : Tot (x_75 K s k c) fun x => KW (N + 1) s x.1 ∧ AT x.2.1 := by
 have hcc := hc.act hw
 have hr := h.2.1
 have hm := h.ms
 have up := h.mono (Nat.le_succ N)
 have hs := hc.sz
 unfold x_75
 refine tb (x_8j hK _ (by omega) hm.2 _ _) fun v1 g1 => tb (x_37 hK _ (by omega) _ _) fun v2 g2 => ?_
 refine ti (fun _ => tr ⟨up, az _ _⟩) fun _ => ti (fun _ => tr ⟨up, az _ _⟩) fun _ => ti (fun _ => tr ⟨up, az _ _⟩) fun _ => ti (fun _ => tr ⟨up, az _ _⟩) fun _ => ?_
 have ho := h.rok (i := Int.toNat c.2.2.2.1) (by omega)
 refine tc (by omega) (tc (by omega) (tb (x_5e hK _ ho.sz (by have := ho.2.2.1; omega) _ _ hs.1 hs.2 _ _) fun v3 g3 => ?_))
 rcases g3 with ⟨_, g3, e⟩ | ⟨_, e⟩
 ·rw [e]
  refine tN (fun h => bad' h) fun _ => tc (by omega) (tc (by omega) (tb (x_v9 hK _ g1 _ h.1.2.1 _ _ _) fun v4 g4 => tb (x_28 hK _ (by omega) hm.2 _ g4) fun v5 g5 => tr ⟨?_, az _ _⟩))
  exact (h.row g3 _).makers ⟨by have := g5.1; omega, g5.2⟩
 ·rw [e]
  exact tN (fun _ => tr ⟨up, az _ _⟩) fun h => bad h
theorem t_l6Epoch (hK : 2097152 ≤ K) (hN : N < 1000000) (s : x_n) (k : x_ao) (h : KW N s k) (c : TCmd) : Tot (x_s1 K k c) fun x => KW (N + 1) s x.1 ∧ AT x.2.1 := by
 have hm := h.ms
 unfold x_s1
 refine tb (x_8j hK _ (by omega) hm.2 _ _) fun v1 g1 => ti (fun _ => tr ⟨h.mono (Nat.le_succ N), az _ _⟩) fun _ => ?_
 refine tb (x_28 hK _ (by omega) hm.2 _ (by show (0 : Nat) ≤ 5; decide)) fun v2 g2 => tr ⟨h.makers ⟨by have := g2.1; omega, g2.2⟩, az _ _⟩
theorem t_RowGet (hK : 2097152 ≤ K) (r : TRow) (h : ROk r) (o : Int) : Tot (x_cd K r o) fun x => x.1.2.1.size ≤ 30 ∧ x.1.2.2.1.size ≤ 30 := by
 have z : ((0, ByteArray.empty, ByteArray.empty, 0, 0) : x_gh).2.1.size ≤ 30 ∧ ((0, ByteArray.empty, ByteArray.empty, 0, 0) : x_gh).2.2.1.size ≤ 30 := ⟨by show ByteArray.empty.size ≤ _; decide, by show ByteArray.empty.size ≤ _; decide⟩
 have hl := h.2.2.1
 unfold x_cd x_cd.b
 refine ti (fun _ => tr z) fun _ => ?_
 refine l1_ (L := x_cd.l0 K r o) (fun _ _ => rfl) (fun d x => ∃ i : Nat, x = i ∧ i + d = r.2.2.length) (fun d x L' hi k => ?_) (m := r.2.2.length) (by omega) ⟨0, rfl, by omega⟩
 obtain ⟨i, rfl, hi⟩ := hi
 unfold x_cd.l0b
 refine ti (fun h1 => ?_) fun _ => tr z
 rw [w64 (n := (i : Int) + 1) (by omega) (by omega), Int.toNat_natCast]
 exact tc (by omega) (tc h1 (ti (fun _ => tc (by omega) (tc h1 (tr ⟨(h.2.2.2 i (by omega)).1.1.1, (h.2.2.2 i (by omega)).1.2.1.1⟩))) fun _ => k (d - 1) _ (by omega) ⟨i + 1, by push_cast; rfl, by omega⟩))
theorem t_l6Row (hK : 2097152 ≤ K) (hN : N < 1000000) (s : x_n) (k : x_ao) (h : KW N s k) (c : TCmd) (hc : COk c) (hw : ¬ c.1 < 0) (ha : c.2.2.2.1 < s.1) : Tot (x_68 K s k c) fun x => KW (N + 1) s x.1 ∧ AT x.2.1 := by
 have hcc := hc.act hw
 have hr := h.2.1
 have up := h.mono (Nat.le_succ N)
 have ho := h.rok (i := Int.toNat c.2.2.2.1) (by omega)
 have ls : ∀ r : TRow, c.2.2.2.1 < (((k.1.set (Int.toNat c.2.2.2.1) r).length : Nat) : Int) := fun g => by rw [length_set]; omega
 have hl := h.1.2.2.1
 unfold x_68
 refine ti (fun _ => tb (t_l6Put hK hN s k h c hc hw ha) fun v g => tr g) fun _ => ti (fun _ => tb (t_l6Epoch hK hN s k h c) fun v g => tr g) fun _ => ti (fun _ => ?_) fun _ => ti (fun _ => ?_) fun _ => ?_
 ·exact tc (by omega) (tc (by omega) (tb (t_RowGet hK _ ho _) fun v3 g3 => ti (fun _ => tr ⟨up, az _ _⟩) fun _ => ti (fun _ => tr ⟨up, az _ _⟩) fun _ => tr ⟨up, g3⟩))
 ·exact tc (by omega) (tc (by omega) (tb (x_7x hK _ ho.sz _ _ (by omega)) fun v3 g3 => tc (by omega) (tc (by omega) (tc (by omega) (tc (ls _) (tr ⟨up.row (g3.1 ho).1 _, az _ _⟩))))))
 ·exact tc (by omega) (tc (by omega) (tb (x_6u hK _ ho.sz _ (by omega)) fun v3 g3 => tc (by omega) (tc (by omega) (tc (by omega) (tc (ls _) (tr ⟨up.row (g3.1 ho).1 _, az _ _⟩))))))
theorem t_l6New (hK : 2097152 ≤ K) (hN : N < 1000000) (s : x_n) (k : x_ao) (h : KW N s k) (c : TCmd) (hc : COk c) (hw : ¬ c.1 < 0) : Tot (x_dk K s k c) fun x => KW (N + 1) s x.1 ∧ AT x.2.1 := by
 have hcc := hc.act hw
 have up := h.mono (Nat.le_succ N)
 have hr := h.1.1
 unfold x_dk x_dk.b
 refine ti (fun _ => ?_) fun _ => ?_
 ·have ht := h.2.2.2.2.2.1
  rw [w64 (n := k.2.2.2.1 + c.2.2.2.1) (by omega) (by omega)]
  refine tb (x_n1 _ _) fun v1 g1 => ?_
  have hv : 0 ≤ v1.1 ∧ v1.1 ≤ 100000 := by omega
  refine l3_ (L := x_dk.l0 K s k c) (fun _ _ _ _ => rfl) (fun d x g v => v = v1 ∧ ∃ i : Nat, x = i ∧ i + d = 2 ∧ KW (N + 1) s (k.1, k.2.1, g, v1.1, k.2.2.2.2.1, k.2.2.2.2.2)) (fun d x g v L' hi kk => ?_) (m := 2) (by omega) ⟨rfl, 0, rfl, rfl, ?_⟩
  ·obtain ⟨rfl, i, rfl, hi, hg⟩ := hi
   have hlen : g.length = 2 := hg.2.2.1
   unfold x_dk.l0b
   refine ti (fun a => ?_) fun a => tr ⟨hg, az _ _⟩
   rw [w64 (n := (i : Int) + 1) (by omega) (by omega), Int.toNat_natCast]
   have g9 : GOk s.1 (g.getD i x_d9) := hg.2.2.2.2.2.2.2.2.1 i (by omega)
   refine tc (by omega) (tc a (tb (x_x4 hK (by omega) _ g9 _ (by omega)) fun v2 g2 => tc (by omega) (tc a (kk (d - 1) _ _ _ (by omega) ⟨rfl, i + 1, by push_cast; rfl, by omega, ?_⟩))))
   exact hg.group g2 i
  ·obtain ⟨h1, h2, h3, h4, h5, h6, h7⟩ := up
   exact ⟨h1, h2, h3, h4, h5, hv, h7⟩
 ·refine tb (x_bf _ _ _) fun v3 g3 => tf g3 (fun _ => ti (fun _ => tr ⟨up, az _ _⟩) fun a => ?_) fun _ => ti (fun _ => tr ⟨up, az _ _⟩) fun a => ?_
  ·exact tb (t_l6Group hK s k h c hc hw (by omega)) fun v g => tr ⟨g.1.mono (Nat.le_succ N), g.2⟩
  ·exact tb (t_l6Row hK hN s k h c hc hw (by omega)) fun v g => tr g
theorem KW.said {s : x_n} {k : x_ao} (h : KW N s k) (i : Nat) (q : Int) {a : x_a2} (ha : AT a) : KW N s (k.1, k.2.1, k.2.2.1, k.2.2.2.1, k.2.2.2.2.1.set i q, k.2.2.2.2.2.set i a) := by
 obtain ⟨h1, h2, h3, h4, h5, h6, h7, h8, h9, h10⟩ := h
 refine ⟨h1, h2, h3, ?_, ?_, h6, h7, h8, h9, fun j hj => ?_⟩
 ·show (k.2.2.2.2.1.set i q).length = 4
  rw [length_set]; exact h4
 ·show (k.2.2.2.2.2.set i a).length = 4
  rw [length_set]; exact h5
 ·show AT ((k.2.2.2.2.2.set i a).getD j x_e6)
  rcases x_rw (l := k.2.2.2.2.2) (i := j) (j := i) (x := a) (z := x_e6) with e | e <;> rw [e]
  ·exact h10 j hj
  ·exact ha
theorem t_l6Do (hK : 2097152 ≤ K) (hN : N < 1000000) (s : x_n) (k : x_ao) (h : KW N s k) (c : TCmd) (hc : COk c) : Tot (x_ada K s k c) fun x => KW (N + 1) s x.1 ∧ AT x.2.1 := by
 have up := h.mono (Nat.le_succ N)
 have cp := x_vx hK k (h.sz (by omega))
 unfold x_ada
 refine ti (fun _ => tv cp (tr ⟨up, az _ _⟩)) fun hw => ?_
 have hcc := hc.act hw
 have hd := h.2.2.2.1
 have hl := h.2.2.2.2.1
 refine tc (by omega) (tc (by omega) (ti (fun _ => tv cp (tc (by omega) (tc (by omega) (tr ⟨up, h.2.2.2.2.2.2.2.2.2 _ (by omega)⟩)))) fun _ => tv cp (tb (t_l6New hK hN s k h c hc hw) fun v4 g4 => ?_)))
 have hd := g4.1.2.2.2.1
 have hl := g4.1.2.2.2.2.1
 exact tc (by omega) (tc (by omega) (tc (by omega) (tc (by omega) (tr ⟨g4.1.said _ _ g4.2, g4.2⟩))))
theorem t_l6Step (hK : 2097152 ≤ K) (hN : N < 1000000) (s : x_n) (k : x_ao) (h : KW N s k) (c : TCmd) (hc : COk c) : Tot (x_0f K s k c) fun x => KW (N + 1) s x.1 := by
 unfold x_0f
 exact tb (t_l6Do hK hN s k h c hc) fun v g => tr g.1
theorem x_aew (hK : 2097152 ≤ K) (hN : N < 900000) (w : x_e) (h : WI N w) (a : Int) : Tot (x_cw K w a) fun x => W1 (N + 300) w x.1 := by
 obtain ⟨h1, h2, h3, h4, h5, h6⟩ := h
 have hlog := h2.2.2.1
 have hb := hlog.1
 have hla := hlog.last
 unfold x_cw x_cw.b
 refine tb (x_ew _ h2.lsz.1 h2.lsz.2) fun v g => ?_
 subst g
 refine l3_ (L := x_cw.l0 K w a) (fun _ _ _ _ => rfl) (fun m v q k => v = (x_ip w.2.2.1.2.1.2.2.1, lastT w.2.2.1.2.1.2.2.1, ()) ∧ (w.2.2.1.2.2.2.2.2.2.1 ≤ q ∧ q ≤ 300) ∧ q + m = 300 ∧ KW (N + (300 - m)) w.1 k) (fun m v q k L' hi kk => ?_) (m := (300 - w.2.2.1.2.2.2.2.2.2.1).toNat) (by omega) ⟨rfl, ⟨Int.le_refl _, h4.2⟩, by omega, h5.mono (by omega)⟩
 obtain ⟨rfl, hq, hm, hk⟩ := hi
 unfold x_cw.l0b
 refine tb (x_n1 _ _) fun v2 g2 => ti (fun b => ?_) fun b => tr ⟨rfl, rfl, h1, h2, h3, ⟨Int.le_trans h4.1 hq.1, hq.2⟩, hk.mono (by omega), h6⟩
 have hlt : q < x_ip w.2.2.1.2.1.2.2.1 := by rw [g2] at b; have := Int.min_le_right a (x_ip w.2.2.1.2.1.2.2.1); omega
 rw [w64 (n := q - w.2.2.1.2.1.2.2.1.1) (by omega) (by omega), w64 (n := q + 1) (by omega) (by omega)]
 unfold x_ip at hlt hla
 refine tc (by omega) (tc (by omega) (tb (t_l6Step hK (by omega) _ _ hk _ (hlog.2.2.2 _ (by omega)).2) fun v3 g3 => kk (m - 1) _ _ _ (by omega) ⟨rfl, by omega, by omega, g3.mono (by omega)⟩))
theorem t_l14Put (hK : 2097152 ≤ K) (hN : N < 900000) (w : x_e) (h : WI N w) (r : TRpc) (hr : RpOk r w.2.1) : Tot (x_g3 K w r) fun x => W1 (N + 300) w x.1 := by
 have hup : N ≤ N + 300 := by omega
 have hlz := h.2.1.lsz
 have hes := hr.2.2.2.2.2.2.2.2.2.1
 have hix := hr.2.2.2.2.2.2.1
 have hlog := h.2.1.2.2.1
 unfold x_g3
 refine tb (x_ew _ hlz.1 hlz.2) fun v1 e1 => ti (fun _ => tb (x_mj hK (by omega) w h _ _ _) fun v g => tr (g.mono hup)) fun _ => ?_
 refine tb (x_qj hK (by omega) w h _) fun v3 g3 => ti (fun _ => tb (x_mj hK (by omega) _ g3.wi _ _ _) fun v g => tr ((g3.trans g).mono hup)) fun _ => ?_
 refine tb (x_af5 hK _ hlog.sz _ _ _ hes.sz hes.2) fun v5 g5 => ?_
 have hl5 : LBd v5.1 := by
  by_cases hp : PutOk w.2.2.1.2.1.2.2.1 r.2.2.2.2.1 r.2.2.2.2.2.1 r.2.2.2.2.2.2.2.1
  ·rw [(g5.1 hlog).1 hp]; exact hp.2.2.bd
  ·rw [(g5.1 hlog).2 hp]; exact hlog.bd
 have fin : ∀ (x : x_e), W1 N w x → ∀ i, Tot ((x_cw K x i).bind fun v16 => (x_eb K v16.1 r.2.1 true (IntKind.i64.wrap (r.2.2.2.2.1 + ((r.2.2.2.2.2.2.2.1.length : Nat) : Int)))).bind fun v17 => some (v17.1, ())) fun x => W1 (N + 300) w x.1 := fun x hx i =>
  tb (x_aew hK hN x hx.wi i) fun v16 g16 => tb (x_mj hK (by omega) _ g16.wi _ _ _) fun v17 g17 => tr ((hx.mono hup).trans (g16.trans g17))
 have got : ∀ (x : x_e), W1 N w x → ∀ b i, Tot ((x_eb K x r.2.1 b i).bind fun v17 => some (v17.1, ())) fun x => W1 (N + 300) w x.1 := fun x hx b i =>
  tb (x_mj hK (by omega) _ hx.wi _ _ _) fun v17 g17 => tr ((hx.trans g17).mono hup)
 have j : ∀ b v6, Tot (x_g3.j0 K b v1 r v3 v5 w v6) fun x => W1 (N + 300) w x.1 := fun b v6 => by
  unfold x_g3.j0
  refine tB (fun _ => ?_) fun _ => ?_
  ·exact tb (x_n1 _ _) fun v9 _ => tb (x_pg _ _) fun v10 _ => got _ g3 _ _
  ·refine tb (x_5q hK _ _ hl5.2) fun v12 _ => tN (fun _ => ?_) fun _ => ?_
   ·refine tb (x_25 hK _ g3.wi _) fun v13 g13 => tb (x_kf hK (by omega) _ g13.wi _ hes.sz) fun v14 g14 => ?_
    have gg := g3.trans (g13.trans g14)
    exact tB (fun _ => tb (x_n1 _ _) fun v15 _ => fin _ gg _) fun _ => got _ gg _ _
   ·exact tB (fun _ => tb (x_n1 _ _) fun v15 _ => fin _ g3 _) fun _ => got _ g3 _ _
 refine tb (x_ew _ hl5.2 hl5.1) fun v6 _ => tN (fun _ => j _ _) fun _ => ti (fun _ => j _ _) fun _ => ?_
 have h3 := g3.2.2.2.1.2.2.1
 exact tb (t_l14Lost hK _ h3.bd h3.1.1 g3.2.2.2.2.2.1.2 _ hl5) fun v7 _ => j _ _
theorem t_l14Snap (hK : 2097152 ≤ K) (hN : N < 900000) (h16 : 16 ≤ N) (w : x_e) (h : WI N w) (r : TRpc) (hr : RpOk r w.2.1) : Tot (x_nd K w r) fun x => W1 (N + 300) w x.1 := by
 have hup : N ≤ N + 300 := by omega
 have hlz := h.2.1.lsz
 have hix := hr.2.2.2.2.2.2.1
 unfold x_nd
 refine tb (x_ew _ hlz.1 hlz.2) fun v1 e1 => ti (fun _ => tb (x_mj hK (by omega) w h _ _ _) fun v g => tr (g.mono hup)) fun _ => ?_
 refine tb (x_qj hK (by omega) w h _) fun v3 g3 => ti (fun _ => tb (x_mj hK (by omega) _ g3.wi _ _ _) fun v g => tr ((g3.trans g).mono hup)) fun a => ?_
 refine tb (x_mo _ h.2.1.2.2.1.bd _) fun v5 _ => ti (fun _ => ?_) fun _ => ?_
 ·exact tb (x_aew hK hN _ g3.wi _) fun v6 g6 => tb (x_mj hK (by omega) _ g6.wi _ _ _) fun v7 g7 => tr ((g3.mono hup).trans (g6.trans g7))
 ·refine tb (x_ad4 hK _ _ (snap_st _ hr.2.2.2.2.2.2.2.2.2.2)) fun v8 g8 => tN (fun _ => tr (g3.mono hup)) fun b => ti (fun _ => tr (g3.mono hup)) fun _ => ?_
  have hk := (g8.1 b).kw h16
  have g3' := g3
  obtain ⟨e1, e2, p1, p2, p3, p4, p5, p6⟩ := g3'
  rw [e1] at hk
  have hx : W1 N w (v3.1.1, v3.1.2.1, (v3.1.2.2.1.1, v3.1.2.2.1.2.1, v3.1.2.2.1.2.2.1, v3.1.2.2.1.2.2.2.1, v3.1.2.2.1.2.2.2.2.1, v3.1.2.2.1.2.2.2.2.2.1, r.2.2.2.2.1, v8.1, v3.1.2.2.1.2.2.2.2.2.2.2.2.1, v3.1.2.2.1.2.2.2.2.2.2.2.2.2), v3.1.2.2.2) := ⟨e1, e2, p1, p2, p3, ⟨Int.le_trans p4.1 (Int.le_of_lt (Int.not_le.1 a)), hix.2⟩, hk, p6⟩
  exact tb (x_25 hK _ hx.wi _) fun v9 g9 => tb (x_kf hK (by omega) _ g9.wi _ EsSz.nil) fun v10 g10 => tb (x_mj hK (by omega) _ g10.wi _ _ _) fun v11 g11 => tr ((hx.trans (g9.trans (g10.trans g11))).mono hup)
theorem x_th (hK : 2097152 ≤ K) (hN : N < 900000) (w : x_e) (h : WI N w) : Tot (x_u K w) fun x => W1 (N + 300) w x.1 := by
 have hlz := h.2.1.lsz
 have hlog := h.2.1.2.2.1
 have hs := h.1
 have hc := h.2.2.2.1
 have hb := hlog.1
 have hla := hlog.last
 have hm := h.2.2.1.2.2
 unfold x_u x_u.b
 refine tb (x_ew _ hlz.1 hlz.2) fun v1 e1 => ?_
 subst e1
 refine l1_ (L := x_u.l0 K w) (b := fun L' => x_u.l0b K w (x_u.l1 K w L' K)) (fun _ _ => rfl) (fun m x => x ≤ 300 ∧ (w.2.2.1.2.2.2.2.2.2.1 < x → x = w.2.2.1.2.2.2.2.2.2.1 + m)) (fun m x L' hi k => ?_) (m := (x_ip w.2.2.1.2.1.2.2.1 - w.2.2.1.2.2.2.2.2.2.1).toNat) (by show (x_ip w.2.2.1.2.1.2.2.1 - w.2.2.1.2.2.2.2.2.2.1).toNat < K; omega) ⟨hla.2, fun a => by have a : _ < x_ip w.2.2.1.2.1.2.2.1 := a; show x_ip w.2.2.1.2.1.2.2.1 = _; omega⟩
 unfold x_u.l0b
 refine ti (fun a => ti (fun _ => ?_) fun _ => tr (h.refl.mono (by omega))) fun _ => tr (h.refl.mono (by omega))
 have hx := hi.2 a
 refine l3_ (L := x_u.l1 K w L') (fun _ _ _ _ => rfl) (fun d y c z => y = x ∧ ∃ i : Nat, z = i ∧ (i : Int) + d = w.2.1) (fun d y c z L1 hj kk => ?_) (m := (w.2.1).toNat) (by omega) ⟨rfl, 0, rfl, by omega⟩
 obtain ⟨rfl, i, rfl, hj⟩ := hj
 unfold x_u.l1b
 refine ti (fun b => ?_) fun b => ?_
 ·rw [w64 (n := (i : Int) + 1) (by omega) (by omega)]
  exact tc (by omega) (tc (by omega) (tb (t_l1Bit _) fun v2 _ => kk (d - 1) _ _ _ (by omega) ⟨rfl, i + 1, by push_cast; rfl, by omega⟩))
 ·have go := k (m - 1) (y - 1) (by omega) ⟨by omega, fun _ => by omega⟩
  rw [w64 (n := y - 1) (by omega) (by omega)]
  refine tb (x_mo _ hlog.bd _) fun v3 _ => ti (fun _ => ?_) fun _ => go
  unfold x_6o
  exact tb (Q := fun _ => True) (tr trivial) fun v4 _ => ti (fun _ => tb (x_aew hK hN w h _) fun v5 g5 => tr g5) fun _ => go
variable {K N : Nat}
def HW (p : x_n) (h : x_ff) : Prop := (0 ≤ h.1 ∧ h.1 ≤ 300) ∧ (-1 ≤ h.2.1 ∧ h.2.1 ≤ 4) ∧ LOk h.2.2.1 ∧ lastT h.2.2.1 ≤ h.1 ∧ KW 400 p h.2.2.2
theorem HOk.hw {p : x_n} {h : x_ff} (k : HOk p h) : HW p h := ⟨k.1, k.2.1, k.2.2.1, k.2.2.2.1, k.2.2.2.2.kw (by decide)⟩
theorem HW.sz {p : x_n} {h : x_ff} (k : HW p h) : HSz h := ⟨k.2.2.1.sz, by have := k.2.2.1.1; omega, k.2.2.2.2.sz (by decide)⟩
def NI (p : x_n) (s : Int) (n : x_bt) : Prop := (1 ≤ s ∧ s ≤ 5 ∧ 0 ≤ n.1 ∧ n.1 ≤ s - 1) ∧ HW p n.2.1 ∧ ((n.2.2.2.1.length : Int) = s ∧ (n.2.2.2.2.1.length : Int) = s ∧ (n.2.2.2.2.2.1.length : Int) = s) ∧ (n.2.1.2.2.1.1 ≤ n.2.2.2.2.2.2.1 ∧ n.2.2.2.2.2.2.1 ≤ 300) ∧ KW 400 p n.2.2.2.2.2.2.2.1 ∧
 (n.2.2.2.2.2.2.2.2.1.1.length ≤ 80000 ∧ BOk n.2.2.2.2.2.2.2.2.1.1) ∧ n.2.2.2.2.2.2.2.2.2.length ≤ 40 ∧ ∀ r ∈ n.2.2.2.2.2.2.2.2.2, RpSz r
theorem PI.ni {p : x_n} {s : Int} {n : x_bt} (h : PI N p s n) (hN : N ≤ 400) : NI p s n := ⟨h.1, h.2.1.hw, h.2.2.1, h.2.2.2.1, h.2.2.2.2.1.mono hN, h.2.2.2.2.2⟩
theorem NI.nsz {p : x_n} {s : Int} {n : x_bt} (h : NI p s n) : NSz n := by
 obtain ⟨h1, h2, h3, h4, h5, h6, h7, h8⟩ := h
 exact ⟨⟨h2.sz, h5.sz (by decide), by omega, h8⟩, by omega, by omega, by omega, by omega⟩
theorem NI.bok {p : x_n} {s : Int} {n : x_bt} (h : NI p s n) : BOk n.2.2.2.2.2.2.2.2.1.1 := h.2.2.2.2.2.1.2
theorem x_aht (hK : 2097152 ≤ K) (hN : N < 900000) (w : x_e) (h : WI N w) (r : TRpc) (hr : RpOk r w.2.1) : Tot (x_dq K w r) fun x => W1 (N + 300) w x.1 := by
 have hup : N ≤ N + 300 := by omega
 have hlz := h.2.1.lsz
 have hf := hr.2.2.1
 have hs := h.1
 have hl := h.2.2.1
 have ln : ∀ x : Int, (((w.2.2.1.2.2.2.2.1.set (Int.toNat r.2.1) x).length : Nat) : Int) = w.2.1 := fun x => by rw [length_set]; exact hl.2.1
 have lm : ∀ x : Int, (((w.2.2.1.2.2.2.2.2.1.set (Int.toNat r.2.1) x).length : Nat) : Int) = w.2.1 := fun x => by rw [length_set]; exact hl.2.2
 have wn : ∀ x : Int, WI N (w.1, w.2.1, (w.2.2.1.1, w.2.2.1.2.1, w.2.2.1.2.2.1, w.2.2.1.2.2.2.1, w.2.2.1.2.2.2.2.1.set (Int.toNat r.2.1) x, w.2.2.1.2.2.2.2.2.1, w.2.2.1.2.2.2.2.2.2.1, w.2.2.1.2.2.2.2.2.2.2.1, w.2.2.1.2.2.2.2.2.2.2.2.1, w.2.2.1.2.2.2.2.2.2.2.2.2), w.2.2.2) := fun x => by
  obtain ⟨h1, h2, h3, h4⟩ := h
  exact ⟨h1, h2, ⟨h3.1, ln x, h3.2.2⟩, h4⟩
 have wm : ∀ x y : Int, WI N (w.1, w.2.1, (w.2.2.1.1, w.2.2.1.2.1, w.2.2.1.2.2.1, w.2.2.1.2.2.2.1, w.2.2.1.2.2.2.2.1.set (Int.toNat r.2.1) x, w.2.2.1.2.2.2.2.2.1.set (Int.toNat r.2.1) y, w.2.2.1.2.2.2.2.2.2.1, w.2.2.1.2.2.2.2.2.2.2.1, w.2.2.1.2.2.2.2.2.2.2.2.1, w.2.2.1.2.2.2.2.2.2.2.2.2), w.2.2.2) := fun x y => by
  obtain ⟨h1, h2, h3, h4⟩ := h
  exact ⟨h1, h2, ⟨h3.1, ln x, lm y⟩, h4⟩
 have j : Tot (x_dq.j0 K r w) fun x => W1 (N + 300) w x.1 := by
  unfold x_dq.j0
  exact tc (by omega) (tc (by omega) (tc (by omega) (tc (by omega) (tb (x_pg _ _) fun v6 _ => tc (by omega) (tc (by omega) (tb (x_th hK hN _ (wn _)) fun v7 g7 => tr ⟨g7.1, g7.2.1, g7.2.2⟩))))))
 unfold x_dq
 refine tn (fun _ => tr (h.refl.mono hup)) fun _ => tn (fun _ => tr (h.refl.mono hup)) fun _ => tb (x_ew _ hlz.1 hlz.2) fun v1 _ => tN (fun _ => ?_) fun _ => ?_
 ·exact tc (by omega) (tc (by omega) (tb (x_n1 _ _) fun v2 _ => tc (by omega) (tc (by omega) (tb (x_pg _ _) fun v3 _ => tc (by omega) (tc (by omega) (tr ⟨rfl, rfl, PI.mono (wn _) hup⟩))))))
 ·refine tc (by omega) (tc (by omega) (ti (fun _ => ti (fun _ => ?_) fun _ => j) fun _ => j))
  exact tc (by omega) (tc (by omega) (tc (by omega) (tc (by omega) (tc (by omega) (tc (by have := lm r.2.2.2.2.1; omega) (tb (x_pg _ _) fun v4 _ => tc (by omega) (tc (by omega) (tb (x_th hK hN _ (wm _ _)) fun v7 g7 => tr ⟨g7.1, g7.2.1, g7.2.2⟩))))))))
def Went (p : x_n) (s : Int) (n : x_bt) (x : x_bt × Bool × Unit) : Prop := (x.2.1 = false → x.1 = n) ∧ NI p s x.1
theorem t_Hear (hK : 2097152 ≤ K) (p : x_n) (n : x_bt) (s : Int) (h : NI p s n) (r : TRpc) (hr : RpSz r) : Tot (x_nt K p n s r) fun x => Went p s n x := by
 have cp := x_ft hK n h.nsz
 have no : Tot ((x_w K n).bind fun v => some (v.1, false, ())) fun x => Went p s n x := tv cp (tr ⟨fun _ => rfl, h⟩)
 unfold x_nt
 refine tb (x_iy hK p n s h.nsz.1) fun v1 g1 => tg g1 (fun _ => no) fun a1 => tb (x_acc hK r s hr) fun v2 g2 => tg g2 (fun _ => no) fun a2 => tn (fun _ => no) fun _ => tv cp ?_
 have hp := a1.pi h.bok (Nat.le_refl 16)
 have hw : WI 16 (p, s, n, true) := hp
 have fin : ∀ x : x_e, W1 316 (p, s, n, true) x → Tot (bif !x.2.2.2 then (x_w K n).bind fun v => some (v.1, false, ()) else (x_3 K p x.2.2.1 s).bind fun v => bif !v.1 then (x_w K n).bind fun v => some (v.1, false, ()) else some (x.2.2.1, true, ())) fun x => Went p s n x := fun x hx =>
  tN (fun _ => no) fun _ => tb (x_iy hK p _ s (hx.2.2.nsz (by decide)).1) fun v g => tg g (fun _ => no) fun _ => tr ⟨fun h => bad' h, hx.2.2.ni (by decide)⟩
 have a2f := a2.2.2.1
 have go : ∀ (w : x_e) (J : x_e × Unit → Option (x_bt × Bool × Unit)), W1 16 (p, s, n, true) w → (∀ x, J x = bif !x.1.2.2.2 then (x_w K n).bind fun v => some (v.1, false, ()) else (x_3 K p x.1.2.2.1 s).bind fun v => bif !v.1 then (x_w K n).bind fun v => some (v.1, false, ()) else some (x.1.2.2.1, true, ())) → Tot (bif decide (r.1 = 1) then (x_fy K w r).bind fun v => J v else bif decide (r.1 = 2) then (x_bi K w r).bind fun v => J v else bif decide (r.1 = 3) then (x_g3 K w r).bind fun v => J v else bif decide (r.1 = 5) then (x_nd K w r).bind fun v => J v else (x_dq K w r).bind fun v => J v) fun x => Went p s n x := fun w J g J1 => by
  have e : w.2.1 = s := g.2.1
  have e2 : RpOk r w.2.1 := by rw [e]; exact a2
  refine ti (fun _ => tb (t_l14Ask hK (by decide) w g.wi r) fun v gv => ?_) fun _ => ti (fun _ => tb (t_l14Vote hK (by decide) w g.wi r e2.2.2.1) fun v gv => ?_) fun _ => ti (fun _ => tb (t_l14Put hK (by decide) w g.wi r e2) fun v gv => ?_) fun _ => ti (fun _ => tb (t_l14Snap hK (by decide) (by decide) w g.wi r e2) fun v gv => ?_) fun _ => tb (x_aht hK (by decide) w g.wi r e2) fun v gv => ?_
  ·rw [J1]; exact fin _ ((g.trans gv).mono (by decide))
  ·rw [J1]; exact fin _ ((g.trans gv).mono (by decide))
  ·rw [J1]; exact fin _ ((g.mono (M := 316) (by decide)).trans gv)
  ·rw [J1]; exact fin _ ((g.mono (M := 316) (by decide)).trans gv)
  ·rw [J1]; exact fin _ ((g.mono (M := 316) (by decide)).trans gv)
 refine ti (fun _ => tb (x_qj hK (by decide) _ hw _) fun v7 g7 => ?_) fun _ => ?_
 ·exact go _ (fun v => x_nt.j0 K v n p s) g7 fun x => rfl
 ·exact go _ (fun v => x_nt.j1 K v n p s) hw.refl fun x => rfl
theorem t_Propose (hK : 2097152 ≤ K) (p : x_n) (n : x_bt) (s : Int) (h : NI p s n) (c : TCmd) (hc : CSz c) : Tot (x_m1 K p n s c) fun x => Went p s n x := by
 have cp := x_ft hK n h.nsz
 have no : Tot ((x_w K n).bind fun v => some (v.1, false, ())) fun x => Went p s n x := tv cp (tr ⟨fun _ => rfl, h⟩)
 have hz := h.2.1.sz
 unfold x_m1
 refine tb (x_iy hK p n s h.nsz.1) fun v1 g1 => tg g1 (fun _ => no) fun a1 => tn (fun _ => no) fun _ => tb (x_3p hK c hc) fun v2 g2 => tg g2 (fun _ => no) fun a2 => ?_
 have hp := a1.pi h.bok (Nat.le_refl 16)
 refine tb (x_ew _ hz.1.1 hz.2.1) fun v6 _ => tb (x_yj hK p n h.nsz h.bok _ ⟨by show (1 : Nat) < _; decide, fun x hx => ?_⟩) fun v7 g7 => tN (fun _ => no) fun b => ti (fun _ => no) fun _ => tr ⟨fun h => bad' h, ?_⟩
 ·obtain rfl := mem_singleton.1 hx
  exact hc
 ·show NI p s v7.1
  rcases g7 with ⟨g, _⟩ | ⟨_, g, b, hh, d, e⟩
  ·rw [g] at b; exact bad b
  ·rw [a1.2.2.2.2.2.1] at g
   exact (g.pi b (Nat.le_refl 16)).ni (by decide)
theorem t_Ask (hK : 2097152 ≤ K) (p : x_n) (n : x_bt) (s : Int) (h : NI p s n) : Tot (x_ss K p n s) fun x => Went p s n x := by
 have cp := x_ft hK n h.nsz
 have no : Tot ((x_w K n).bind fun v => some (v.1, false, ())) fun x => Went p s n x := tv cp (tr ⟨fun _ => rfl, h⟩)
 have hz := h.2.1.sz
 have hs := h.1
 unfold x_ss x_ss.b
 refine tb (x_iy hK p n s h.nsz.1) fun v1 g1 => tg g1 (fun _ => no) fun a1 => ti (fun _ => no) fun _ => ti (fun _ => no) fun _ => tv cp ?_
 have hw : WI 16 (p, s, n, true) := a1.pi h.bok (Nat.le_refl 16)
 refine tb (x_kf hK (by decide) _ hw _ EsSz.nil) fun v6 g6 => tc rfl (tc (by omega) (tc (by show _ ≤ 70368744177664; (try dsimp only); (try simp only [ll_]); omega) (tc (by omega) (tc (by rw [length_replicate]; omega) ?_))))
 refine tb (x_ew _ hz.1.1 hz.2.1) fun v7 _ => ?_
 refine l5_ (L := x_ss.l0 K p n s) (fun _ _ _ _ _ _ => rfl) (fun m v i w r vs => W1 16 (p, s, n, true) w.1 ∧ (vs.length : Int) = s ∧ ∃ j : Nat, i = j ∧ (j : Int) + m = s) (fun m v i w r vs L' hi k => ?_) (m := s.toNat) (by omega) ⟨g6, by rw [length_set, length_replicate]; omega, 0, rfl, by omega⟩
 obtain ⟨hx, hv, j, rfl, hm⟩ := hi
 have hx' : W1 16 (p, s, n, true) (w.1.1, w.1.2.1, (w.1.2.2.1.1, w.1.2.2.1.2.1, r, vs, w.1.2.2.1.2.2.2.2.1, w.1.2.2.1.2.2.2.2.2.1, w.1.2.2.1.2.2.2.2.2.2.1, w.1.2.2.1.2.2.2.2.2.2.2.1, w.1.2.2.1.2.2.2.2.2.2.2.2.1, w.1.2.2.1.2.2.2.2.2.2.2.2.2), w.1.2.2.2) := by
  obtain ⟨e1, e2, h1, h2, h3, h4⟩ := hx
  exact ⟨e1, e2, h1, h2, ⟨hv, h3.2⟩, h4⟩
 unfold x_ss.l0b
 refine ti (fun a => ?_) fun a => tN (fun _ => no) fun _ => ?_
 ·rw [w64 (n := (j : Int) + 1) (by omega) (by omega)]
  refine tn (fun _ => ?_) fun _ => k (m - 1) _ _ _ _ _ (by omega) ⟨hx, hv, j + 1, by push_cast; rfl, by omega⟩
  exact tb (x_m0 hK (by decide) _ hx'.wi _ EsSz.nil) fun v8 g8 => k (m - 1) _ _ _ _ _ (by omega) ⟨hx'.trans g8, (hx'.trans g8).2.2.2.2.1.1, j + 1, by push_cast; rfl, by omega⟩
 ·unfold x_6o
  refine tb (Q := fun _ => True) (tr trivial) fun v10 _ => ti (fun _ => ?_) fun _ => tr ⟨fun h => bad' h, hx'.2.2.ni (by decide)⟩
  exact tb (x_7h hK (by decide) _ hx'.wi) fun v11 g11 => tr ⟨fun h => bad' h, (hx'.trans g11).2.2.ni (by decide)⟩
theorem t_From (l : TLog) (h : LBd l) (i : Int) (hz : LSz l) : Tot (s_From l i) fun x => EsSz x.1 := by
 have h2 := hz.1
 unfold s_From
 refine tb (t_l8At l h i) fun v g => ti (fun _ => tr EsSz.nil) fun a => ?_
 have hv : 0 ≤ v.1 ∧ v.1 ≤ (l.2.2.length : Int) := by
  have h0 := h.1
  by_cases k : l.1 < i ∧ i ≤ x_ip l ∧ i ≤ 300 ∧ 0 ≤ l.1
  ·have := g.1 k
   unfold x_ip at k
   omega
  ·have := g.2 k
   omega
 refine tc rfl (tc hv.1 (tc hv.2 (tc (Int.le_refl _) (tc (by show _ ≤ 70368744177664; rw [length_drop, length_take]; simp only [length_nil]; omega) (tr ⟨?_, fun x hx => ?_⟩)))))
 ·show ([] ++ ((l.2.2.take _).drop _)).length < 2097152
  rw [List.nil_append, length_drop, length_take]; omega
 ·have hx : x ∈ [] ++ ((l.2.2.take _).drop _) := hx
  rw [List.nil_append] at hx
  exact hz.2 x (List.mem_of_mem_take (List.mem_of_mem_drop hx))
theorem t_Sync (d : x_1h) (h : d.1.length < 2097152) : Tot (s_Sync d) fun x => x.1.1 = d.1 := by
 unfold s_Sync
 exact tv (x_s8 d h) (tb (x_zw d) fun v g => tf g (fun _ => tr rfl) fun _ => tr rfl)
theorem t_SureNow (hK : 2097152 ≤ K) (p : x_n) (n : x_bt) (s : Int) (h : NI p s n) : Tot (x_su K p n s) fun x => NI p s x.1 ∧ x.2.1.length ≤ 40 ∧ ∀ r ∈ x.2.1, RpOk r s := by
 have cp := x_ft hK n h.nsz
 have hz := h.2.1.sz
 have hs := h.1
 have hl := h.2.2.1
 have hd := h.2.2.2.2.2.1.1
 unfold x_su
 refine tv cp (tb (x_iy hK p n s h.nsz.1) fun v2 g2 => tg g2 (fun _ => tr ⟨h, by show (0 : Nat) ≤ 40; decide, fun r hr => by simp at hr⟩) fun a2 => tb (t_Sync _ (by omega)) fun v3 g3 => ?_)
 have hp := a2.pi h.bok (Nat.le_refl 16)
 have held : n.2.2.2.2.2.2.2.2.2.length ≤ 40 ∧ ∀ r ∈ n.2.2.2.2.2.2.2.2.2, RpOk r s := ⟨h.2.2.2.2.2.2.1, fun r hr => by
  obtain ⟨i, hi, rfl⟩ := List.mem_iff_getElem.1 hr
  have := (a2.2.2.2.2.2.2.2.2.2.1 i hi).1
  rwa [x_b4 hi] at this⟩
 have hn : ∀ m : List Int, (m.length : Int) = s → PI 16 p s (n.1, n.2.1, n.2.2.1, n.2.2.2.1, n.2.2.2.2.1, m, n.2.2.2.2.2.2.1, n.2.2.2.2.2.2.2.1, v3.1, []) := fun m hm => by
  obtain ⟨h1, h2, h3, h4, h5, h6, h7⟩ := hp
  refine ⟨h1, h2, ⟨h3.1, h3.2.1, hm⟩, h4, h5, ?_, by show (0 : Nat) ≤ 40; decide, fun r hr => by simp at hr⟩
  show v3.1.1.length ≤ 80000 ∧ BOk v3.1.1
  rw [g3]; exact h6
 refine ti (fun _ => ?_) fun _ => tr ⟨(hn _ hl.2.2).ni (by decide), held⟩
 refine tb (x_ew _ hz.1.1 hz.2.1) fun v4 _ => tc (by omega) (tc (by show n.1 < (n.2.2.2.2.2.1.length : Int); omega) ?_)
 have hw : WI 16 (p, s, (n.1, n.2.1, n.2.2.1, n.2.2.2.1, n.2.2.2.2.1, n.2.2.2.2.2.1.set (Int.toNat n.1) v4.1, n.2.2.2.2.2.2.1, n.2.2.2.2.2.2.2.1, v3.1, []), true) := hn _ (by rw [length_set]; exact hl.2.2)
 exact tb (x_th hK (by decide) _ hw) fun v5 g5 => tr ⟨g5.2.2.ni (by decide), held⟩
variable {K N : Nat}
theorem x_2t (hK : 2097152 ≤ K) (l : List Int) (h : l.length < 200000) : Tot (x_be K l) fun x => x.1.length ≤ 5 * l.length ∧ BOk x.1 := (x_af0 hK l h).mono fun x e => by rw [e]; exact ⟨(x_vn l).2, (x_vn l).1⟩
theorem q_num (hK : 2097152 ≤ K) (n : Int) : Tot (x_az K n) fun x => x.1.length ≤ 5 ∧ BOk x.1 := (x_i1 hK n).mono fun x e => by rw [e]; exact ⟨(x_fk n).2, (x_fk n).1⟩
theorem q_text (hK : 2097152 ≤ K) (s : ByteArray) (h : s.size ≤ 30) : Tot (x_fl K s) fun x => x.1.length ≤ 35 ∧ BOk x.1 := (x_sx hK s (by omega)).mono fun x e => by rw [e]; exact ⟨by have := (x_sd s).2; omega, (x_sd s).1⟩
theorem x_pj (hK : 2097152 ≤ K) (p : x_n) (k : x_ao) (h : KW N p k) (hN : N ≤ 100000) : Tot (x_b K k) fun x => x.1.length ≤ 100000 + 100 * N ∧ BOk x.1 := by
 obtain ⟨h1, h2, h3, h4, h5, h6, h7, h8, h9, h10⟩ := h
 have hr := h1.1
 have ap : ∀ {a b : List Int}, BOk a → BOk b → BOk (a ++ b) := fun x y => x.app y
 have L6 : ∀ q : List Int, q.length ≤ 80000 + 100 * N → BOk q → Tot (x_b.l6 K k K q 0) fun x => x.1.length ≤ 100000 + 100 * N ∧ BOk x.1 := fun q hq hb => by
  refine l2_ (L := x_b.l6 K k) (fun _ _ _ => rfl) (fun m q x => ∃ i : Nat, x = i ∧ i + m = 4 ∧ q.length ≤ 80000 + 100 * N + 100 * i ∧ BOk q) (fun m q x L' hi kk => ?_) (m := 4) (by omega) ⟨0, rfl, rfl, hq, hb⟩
  obtain ⟨i, rfl, hm, hq, hb⟩ := hi
  unfold x_b.l6b
  refine ti (fun a => ?_) fun a => tr ⟨by show q.length ≤ _; omega, hb⟩
  have ha := h10 i (by omega)
  rw [w64 (n := (i : Int) + 1) (by omega) (by omega), Int.toNat_natCast]
  refine tc (by omega) (tc (by omega) (tc (by omega) (tc (by omega) (tb (x_2t hK _ (by show (3 : Nat) < _; decide)) fun v15 g15 => ?_))))
  have e15 : v15.1.length ≤ 15 := g15.1
  refine tc (by show _ ≤ 70368744177664; (try dsimp only); (try simp only [ll_]); omega) (tb (q_text hK _ ha.1) fun v16 g16 => tc (by show _ ≤ 70368744177664; simp only [length_append]; omega) (tb (q_text hK _ ha.2) fun v17 g17 => tc (by show _ ≤ 70368744177664; simp only [length_append]; omega) ?_))
  exact kk (m - 1) _ _ (by omega) ⟨i + 1, by push_cast; rfl, by omega, by simp only [length_append]; omega, ap (ap (ap hb g15.2) g16.2) g17.2⟩
 have L4 : ∀ q : List Int, q.length ≤ 70000 + 100 * N → BOk q → Tot (x_b.l4 K k K q 0) fun x => x.1.length ≤ 100000 + 100 * N ∧ BOk x.1 := fun q hq hb => by
  refine l2_ (L := x_b.l4 K k) (b := fun L' => x_b.l4b K k (x_b.l5 K k L' K) (x_b.l6 K k K)) (fun _ _ _ => rfl) (fun m q x => ∃ i : Nat, x = i ∧ i + m = 2 ∧ q.length ≤ 70000 + 100 * N + 1000 * i ∧ BOk q) (fun m q x L' hi kk => ?_) (m := 2) (by omega) ⟨0, rfl, rfl, hq, hb⟩
  obtain ⟨i, rfl, hm, hq, hb⟩ := hi
  unfold x_b.l4b
  refine ti (fun a => ?_) fun a => tb (q_num hK _) fun v g => tc (by show _ ≤ 70368744177664; (try dsimp only); (try simp only [ll_]); omega) (L6 _ (by rw [length_append]; omega) (ap hb g.2))
  have hg := h9 i (by omega)
  have hgl := hg.len
  have hgb := hg.2.1
  have hgo := hg.2.2.1
  rw [Int.toNat_natCast]
  refine tc (by omega) (tc (by omega) (tb (x_2t hK _ (by show (2 : Nat) < _; decide)) fun v11 g11 => ?_))
  have e11 : v11.1.length ≤ 10 := g11.1
  refine tc (by show _ ≤ 70368744177664; (try dsimp only); (try simp only [ll_]); omega) (l3_ (L := x_b.l5 K k L') (fun _ _ _ _ => rfl) (fun d q y x => y = (i : Int) ∧ ∃ j : Nat, x = j ∧ j + d = (k.2.2.1.getD i x_d9).2.1.length ∧ q.length ≤ 70000 + 100 * N + 1000 * i + 10 + 10 * j ∧ BOk q) (fun d q y x L5 hj k5 => ?_) (m := (k.2.2.1.getD i x_d9).2.1.length) (by omega) ⟨rfl, 0, rfl, by omega, by rw [length_append]; omega, ap hb g11.2⟩)
  obtain ⟨rfl, j, rfl, hd, hq, hb⟩ := hj
  unfold x_b.l5b
  rw [Int.toNat_natCast, Int.toNat_natCast]
  refine ti (fun b => ?_) fun b => ?_
  ·rw [w64 (n := (j : Int) + 1) (by omega) (by omega)]
   refine tc (by omega) (tc b (tc (by omega) (tc (by omega) (tb (x_2t hK _ (by show (2 : Nat) < _; decide)) fun v12 g12 => ?_))))
   have e12 : v12.1.length ≤ 10 := g12.1
   exact tc (by show _ ≤ 70368744177664; (try dsimp only); (try simp only [ll_]); omega) (k5 (d - 1) _ _ _ (by omega) ⟨rfl, j + 1, by push_cast; rfl, by omega, by rw [length_append]; omega, ap hb g12.2⟩)
  ·rw [w64 (n := (i : Int) + 1) (by omega) (by omega)]
   refine tb (x_2t hK _ (by omega)) fun v13 g13 => tc (by show _ ≤ 70368744177664; (try dsimp only); (try simp only [ll_]); omega) (kk (m - 1) _ _ (by omega) ⟨i + 1, by push_cast; rfl, by omega, by rw [length_append]; omega, ap hb g13.2⟩)
 have L2 : ∀ q : List Int, q.length ≤ 60000 → BOk q → Tot (x_b.l2 K k K q 0) fun x => x.1.length ≤ 100000 + 100 * N ∧ BOk x.1 := fun q hq hb => by
  refine l2_ (L := x_b.l2 K k) (b := fun L' => x_b.l2b K k (x_b.l3 K k L' K) (x_b.l4 K k K)) (fun _ _ _ => rfl) (fun m q x => ∃ i : Nat, x = i ∧ i + m = k.2.1.length ∧ q.length ≤ 60000 + 100 * i ∧ BOk q) (fun m q x L' hi kk => ?_) (m := k.2.1.length) (by omega) ⟨0, rfl, by omega, hq, hb⟩
  obtain ⟨i, rfl, hm, hq, hb⟩ := hi
  unfold x_b.l2b
  refine ti (fun a => ?_) fun a => tb (q_num hK _) fun v g => tc (by show _ ≤ 70368744177664; (try dsimp only); (try simp only [ll_]); omega) (L4 _ (by rw [length_append]; omega) (ap hb g.2))
  have hg := h7.2 _ (x_br (z := x_b5) (show i < k.2.1.length by omega))
  rw [Int.toNat_natCast]
  refine tc (by omega) (tc (by omega) (tb (x_2t hK _ (by show (5 : Nat) < _; decide)) fun v11 g11 => ?_))
  have e11 : v11.1.length ≤ 25 := g11.1
  refine tc (by show _ ≤ 70368744177664; (try dsimp only); (try simp only [ll_]); omega) (l3_ (L := x_b.l3 K k L') (fun _ _ _ _ => rfl) (fun d q y x => y = (i : Int) ∧ ∃ j : Nat, x = j ∧ j + d = (k.2.1.getD i x_b5).2.2.2.2.length ∧ q.length ≤ 60000 + 100 * i + 25 + 10 * j ∧ BOk q) (fun d q y x L5 hj k5 => ?_) (m := (k.2.1.getD i x_b5).2.2.2.2.length) (by omega) ⟨rfl, 0, rfl, by omega, by rw [length_append]; omega, ap hb g11.2⟩)
  obtain ⟨rfl, j, rfl, hd, hq, hb⟩ := hj
  unfold x_b.l3b
  rw [Int.toNat_natCast, Int.toNat_natCast]
  refine ti (fun b => ?_) fun b => ?_
  ·rw [w64 (n := (j : Int) + 1) (by omega) (by omega)]
   refine tc (by omega) (tc b (tc (by omega) (tc b (tb (x_2t hK _ (by show (2 : Nat) < _; decide)) fun v12 g12 => ?_))))
   have e12 : v12.1.length ≤ 10 := g12.1
   exact tc (by show _ ≤ 70368744177664; (try dsimp only); (try simp only [ll_]); omega) (k5 (d - 1) _ _ _ (by omega) ⟨rfl, j + 1, by push_cast; rfl, by omega, by rw [length_append]; omega, ap hb g12.2⟩)
  ·rw [w64 (n := (i : Int) + 1) (by omega) (by omega)]
   exact kk (m - 1) _ _ (by omega) ⟨i + 1, by push_cast; rfl, by omega, by omega, hb⟩
 unfold x_b x_b.b
 refine tb (q_num hK _) fun v1 g1 => ?_
 refine l2_ (L := x_b.l0 K k) (b := fun L' => x_b.l0b K k (x_b.l1 K k L' K) (x_b.l2 K k K)) (fun _ _ _ => rfl) (fun m q x => ∃ i : Nat, x = i ∧ i + m = k.1.length ∧ q.length ≤ 5 + 10000 * i ∧ BOk q) (fun m q x L' hi kk => ?_) (m := k.1.length) (by omega) ⟨0, rfl, by omega, g1.1, g1.2⟩
 obtain ⟨i, rfl, hm, hq, hb⟩ := hi
 unfold x_b.l0b
 refine ti (fun a => ?_) fun a => tb (q_num hK _) fun v g => tc (by show _ ≤ 70368744177664; (try dsimp only); (try simp only [ll_]); omega) (L2 _ (by rw [length_append]; omega) (ap hb g.2))
 have hg := h8 i (by omega)
 have hgl := hg.2.2.1
 rw [Int.toNat_natCast]
 refine tc (by omega) (tc (by omega) (tb (x_2t hK _ (by show (3 : Nat) < _; decide)) fun v11 g11 => ?_))
 have e11 : v11.1.length ≤ 15 := g11.1
 refine tc (by show _ ≤ 70368744177664; (try dsimp only); (try simp only [ll_]); omega) (l3_ (L := x_b.l1 K k L') (fun _ _ _ _ => rfl) (fun d q y x => y = (i : Int) ∧ ∃ j : Nat, x = j ∧ j + d = (k.1.getD i zRow).2.2.length ∧ q.length ≤ 5 + 10000 * i + 15 + 100 * j ∧ BOk q) (fun d q y x L5 hj k5 => ?_) (m := (k.1.getD i zRow).2.2.length) (by omega) ⟨rfl, 0, rfl, by omega, by rw [length_append]; omega, ap hb g11.2⟩)
 obtain ⟨rfl, j, rfl, hd, hq, hb⟩ := hj
 unfold x_b.l1b
 rw [Int.toNat_natCast, Int.toNat_natCast]
 refine ti (fun b => ?_) fun b => ?_
 ·rw [w64 (n := (j : Int) + 1) (by omega) (by omega)]
  have hit := (hg.2.2.2 j (by omega)).1
  refine tc (by omega) (tc b (tb (q_num hK _) fun v3 g3 => tc (by show _ ≤ 70368744177664; (try dsimp only); (try simp only [ll_]); omega) (tb (q_text hK _ hit.1.1) fun v4 g4 => tc (by show _ ≤ 70368744177664; simp only [length_append]; omega) (tb (q_text hK _ hit.2.1.1) fun v5 g5 => tc (by show _ ≤ 70368744177664; simp only [length_append]; omega) (tb (x_2t hK _ (by show (2 : Nat) < _; decide)) fun v12 g12 => ?_)))))
  have e12 : v12.1.length ≤ 10 := g12.1
  exact tc (by show _ ≤ 70368744177664; simp only [length_append]; omega) (k5 (d - 1) _ _ _ (by omega) ⟨rfl, j + 1, by push_cast; rfl, by omega, by simp only [length_append]; omega, ap (ap (ap (ap hb g3.2) g4.2) g5.2) g12.2⟩)
 ·rw [w64 (n := (i : Int) + 1) (by omega) (by omega)]
  exact kk (m - 1) _ _ (by omega) ⟨i + 1, by push_cast; rfl, by omega, by omega, hb⟩
theorem t_Feed (hK : 2097152 ≤ K) (p : x_n) (n : x_bt) (s : Int) (h : NI p s n) (i : Int) : Tot (s_Feed K p n s i) fun x => Went p s n x := by
 have cp := x_ft hK n h.nsz
 have no : Tot ((x_w K n).bind fun v => some (v.1, false, ())) fun x => Went p s n x := tv cp (tr ⟨fun _ => rfl, h⟩)
 have hs := h.1
 have hl := h.2.2.1
 have hlog := h.2.1.2.2.1
 unfold s_Feed
 refine tb (x_iy hK p n s h.nsz.1) fun v1 g1 => tg g1 (fun _ => no) fun a1 => tn (fun _ => no) fun _ => ti (fun _ => no) fun _ => ?_
 rw [w64 (n := s - 1) (by omega) (by omega)]
 refine tb (x_bf _ _ _) fun v2 g2 => tg g2 (fun _ => no) fun a2 => tv cp (tc (by omega) (tc (by omega) ?_))
 have hw : WI 16 (p, s, n, true) := a1.pi h.bok (Nat.le_refl 16)
 have tell : ∀ r : TRpc, RpSz r → Tot ((x_ek K (p, s, n, true) r).bind fun v => bif !v.1.2.2.2 then (x_w K n).bind fun v => some (v.1, false, ()) else some (v.1.2.2.1, true, ())) fun x => Went p s n x := fun r hr =>
  tb (x_m0 hK (by decide) _ hw r hr) fun v g => tN (fun _ => no) fun _ => tr ⟨fun h => bad' h, g.2.2.ni (by decide)⟩
 have hn := (a1.2.2.2.2.2.2.2.2.1 (Int.toNat i) (by omega)).1
 have hla := hlog.last
 have hb := hlog.1
 refine ti (fun _ => tb (x_pj hK p _ h.2.1.2.2.2.2 (by decide)) fun v8 _ => tell _ EsSz.nil) fun _ => tb (t_From _ hlog.bd _ hlog.sz) fun v10 g10 => ?_
 rw [w64 (n := n.2.2.2.2.1.getD (Int.toNat i) 0 - 1) (by omega) (by omega)]
 refine ti (fun a => tc (by omega) (tb (x_mo _ hlog.bd _) fun v11 _ => tell _ ⟨?_, fun x hx => ?_⟩)) fun _ => tb (x_mo _ hlog.bd _) fun v11 _ => tell _ g10
 ·show ((v10.1.take 40).drop 0).length < _
  rw [length_drop, length_take]; omega
 ·have hx : x ∈ (v10.1.take 40).drop 0 := hx
  exact g10.2 x (List.mem_of_mem_take (List.mem_of_mem_drop hx))
variable {K N : Nat}
theorem t_Fall (d : x_1h) (h : d.1.length ≤ 80000 ∧ BOk d.1) (a : Int) : Tot (s_Fall d a) fun x => x.1.1.length ≤ 80000 ∧ BOk x.1.1 := by
 have hl := h.1
 unfold s_Fall
 refine tb (x_zw d) fun v1 g1 => tg g1 (fun _ => tv (x_s8 d (by omega)) (tr h)) fun k => ?_
 have hs := k.2
 rw [w64 (n := ((d.1.length : Nat) : Int) - d.2) (by omega) (by omega)]
 refine tb (x_n1 _ _) fun v3 g3 => tb (x_pg _ _) fun v4 g4 => ?_
 have hv : 0 ≤ v4.1 ∧ v4.1 ≤ (d.1.length : Int) - d.2 := by omega
 rw [w64 (n := d.2 + v4.1) (by omega) (by omega)]
 refine tc rfl (tc (by omega) (tc (by omega) (tc (by show _ ≤ 70368744177664; rw [length_drop, length_take]; simp only [length_nil]; omega) (tr ⟨?_, fun x hx => ?_⟩))))
 ·show ([] ++ ((d.1.take _).drop 0)).length ≤ 80000
  rw [List.nil_append, length_drop, length_take]; omega
 ·have hx : x ∈ [] ++ ((d.1.take _).drop 0) := hx
  rw [List.nil_append] at hx
  exact h.2 x (List.mem_of_mem_take (List.mem_of_mem_drop hx))
theorem t_l7Cmd (hK : 2097152 ≤ K) {b : List Int} (hb : BSt b) (c : x_d) (hc : C7 b c) : Tot (x_7s K c) fun r => CSz r.1 ∧ C7 b r.2.1 ∧ Adv c r.2.1 := by
 unfold x_7s
 refine tb (x_b0 hK hb _ hc) fun v1 g1 => tb (x_b0 hK hb _ g1.2.1) fun v2 g2 => tb (x_b0 hK hb _ g2.2.1) fun v3 g3 => tb (x_b0 hK hb _ g3.2.1) fun v4 g4 => tb (x_b0 hK hb _ g4.2.1) fun v5 g5 => tb (x_b0 hK hb _ g5.2.1) fun v6 g6 => tb (x_ok hK hb _ g6.2.1) fun v7 g7 => tb (x_ok hK hb _ g7.2.1) fun v8 g8 => tr ⟨⟨g7.1, g8.1⟩, g8.2.1, ?_⟩
 exact g1.2.2.trans (g2.2.2.trans (g3.2.2.trans (g4.2.2.trans (g5.2.2.trans (g6.2.2.trans (g7.2.2.trans g8.2.2))))))
theorem t_l9Read (hK : 2097152 ≤ K) {b : List Int} (hb : BSt b) (c : x_d) (hc : C7 b c) : Tot (x_b9 K c) fun r => EsSz r.1.2.2.2.2.1 := by
 have hl := hb.2
 unfold x_b9 x_b9.b
 refine tb (x_b0 hK hb _ hc) fun v1 g1 => tb (x_b0 hK hb _ g1.2.1) fun v2 g2 => tb (x_b0 hK hb _ g2.2.1) fun v3 g3 => tb (x_b0 hK hb _ g3.2.1) fun v4 g4 => tb (x_b0 hK hb _ g4.2.1) fun v5 g5 => ?_
 have lf := x_tj (b := b) (c := v5.2.1)
 refine l1_ (L := fun n (q : Int × (x_d × Unit) × List x_au) => x_b9.l0 K c n v5 q.1 q.2.1 v1 v2 v3 v4 q.2.2) (b := fun L' q => x_b9.l0b K c (fun _ a b _ _ _ _ e => L' (a, b, e)) v5 q.1 q.2.1 v1 v2 v3 v4 q.2.2)
  (fun _ _ => rfl) (fun m q => (0 ≤ q.1 ∧ q.1 ≤ 2147483647) ∧ C7 b q.2.1.1 ∧ left b q.2.1.1 = m ∧ q.2.2.length + m ≤ b.length + 1 ∧ ∀ e ∈ q.2.2, CSz e.2) (fun m q L' hi kk => ?_) (x := (0, v5.2, [])) (m := left b v5.2.1) (by omega) ⟨by show (0 : Int) ≤ 0 ∧ (0 : Int) ≤ 2147483647; decide, g5.2.1, rfl, by show 0 + _ ≤ _; omega, fun a ha => by simp at ha⟩
 obtain ⟨j, v, es⟩ := q
 obtain ⟨hj, hv, hm, hlen, hes⟩ := hi
 simp only at hj hv hm hlen hes
 unfold x_b9.l0b
 simp only
 have fin : Tot ((x_g5 K v.1).bind fun v9 => some (((v1.1, v2.1, IntKind.i64.wrap (v3.1 - 1), v4.1, es, v9.1) : x_gs), v9.2.1, ())) fun r => EsSz r.1.2.2.2.2.1 := tb (x_ok hK hb _ hv) fun v9 _ => tr ⟨by show es.length < _; omega, hes⟩
 refine ti (fun a1 => tB (fun a2 => ?_) fun _ => fin) fun _ => fin
 have h5 := g5.1
 rw [w64 (n := j + 1) (by omega) (by omega)]
 refine tb (x_b0 hK hb _ hv) fun v6 g6 => tb (t_l7Cmd hK hb _ g6.2.1) fun v7 g7 => tc (by show _ ≤ 70368744177664; (try dsimp only); (try simp only [ll_]); omega) ?_
 have lt := x_vc hv g7.2.1 (g6.2.2.trans g7.2.2) a2
 refine kk (left b v7.2.1) (j + 1, v7.2, es ++ [(v6.1, v7.1)]) (by omega) ⟨⟨by show 0 ≤ j + 1; omega, by show j + 1 ≤ _; omega⟩, g7.2.1, rfl, by show (es ++ [_]).length + _ ≤ _; simp; omega, fun g hg => ?_⟩
 have hg : g ∈ es ++ [_] := hg
 rw [mem_append, mem_singleton] at hg
 rcases hg with hg | rfl
 ·exact hes g hg
 ·exact g7.1
theorem BOk.sub {l : List Int} (h : BOk l) (a b : Nat) : BOk ((l.take a).drop b) := fun x hx => h x (List.mem_of_mem_take (List.mem_of_mem_drop hx))
theorem t_NoteOf (hK : 2097152 ≤ K) (b : List Int) (hl : b.length ≤ 80000) (hb : BOk b) (i : Int) (hi : 0 ≤ i ∧ i ≤ 80000) : Tot (x_yz K b i) fun x => x.2.2.1 = true → NtOk x.1 ∧ i < x.2.1 ∧ x.2.1 ≤ (b.length : Int) := by
 have no : Tot (some (((0, 0, 0, 0, [], ByteArray.empty) : x_gs), (0 : Int), false, ())) fun x => x.2.2.1 = true → NtOk x.1 ∧ i < x.2.1 ∧ x.2.1 ≤ (b.length : Int) := tr fun h => bad h
 unfold x_yz
 refine tb (x_4t hK b hb (by omega) i (by omega)) fun v1 g1 => tN (fun _ => no) fun a => ?_
 have g := g1.1 a
 rw [w64 (n := ((b.length : Nat) : Int) - v1.2.1) (by omega) (by omega), w64 (n := ((b.length : Nat) : Int) - v1.2.1 - 4) (by omega) (by omega), w64 (n := v1.2.1 + v1.1) (by omega) (by omega), w64 (n := v1.2.1 + v1.1 + 4) (by omega) (by omega)]
 refine ti (fun _ => no) fun a2 => tc rfl (tc (by omega) (tc (by omega) (tc (by omega) (tb (t_l9Sum hK _ (by rw [length_drop, length_take]; omega) (hb.sub _ _)) fun v2 _ => tc rfl (tc (by omega) (tc (by omega) (tc (by omega) ?_)))))))
 refine tn (fun _ => no) fun _ => tb (t_l9Read hK (b := (b.take (Int.toNat (v1.2.1 + v1.1))).drop (Int.toNat v1.2.1)) ⟨hb.sub _ _, by rw [length_drop, length_take]; omega⟩ _ ⟨rfl, Int.le_refl _, by show (0 : Int) ≤ _; omega⟩) fun v3 g3 => tN (fun _ => no) fun _ => tn (fun _ => no) fun _ => tb (x_1f hK _ g3) fun v4 g4 => tg g4 (fun _ => no) fun a4 => tr fun _ => ⟨a4, ?_, ?_⟩
 ·show i < v1.2.1 + v1.1 + 4
  omega
 ·show v1.2.1 + v1.1 + 4 ≤ _
  omega
theorem t_Notes (hK : 2097152 ≤ K) (b : List Int) (hl : b.length ≤ 80000) (hb : BOk b) : Tot (x_c9 K b) fun x => (∀ r ∈ x.1, NtOk r) ∧ x.1.length ≤ 80000 ∧ 0 ≤ x.2.1 ∧ x.2.1 ≤ (b.length : Int) := by
 unfold x_c9 x_c9.b
 refine l2_ (L := x_c9.l0 K b) (fun _ _ _ => rfl) (fun m q x => (0 ≤ x ∧ x ≤ (b.length : Int)) ∧ (m : Int) = b.length - x ∧ (q.length : Int) ≤ x ∧ ∀ r ∈ q, NtOk r) (fun m q x L' hi kk => ?_) (m := b.length) (by omega) ⟨by omega, by omega, by show ((0 : Nat) : Int) ≤ 0; decide, fun r hr => by simp at hr⟩
 obtain ⟨h1, h2, h3, h4⟩ := hi
 unfold x_c9.l0b
 have fin : Tot (some (q, x, ())) fun x => (∀ r ∈ x.1, NtOk r) ∧ x.1.length ≤ 80000 ∧ 0 ≤ x.2.1 ∧ x.2.1 ≤ (b.length : Int) := tr ⟨h4, by show q.length ≤ _; omega, h1⟩
 refine ti (fun a => tb (t_NoteOf hK b hl hb x (by omega)) fun v1 g1 => tN (fun _ => fin) fun a1 => ?_) fun _ => fin
 have g := g1 a1
 refine tc (by show _ ≤ 70368744177664; (try dsimp only); (try simp only [ll_]); omega) (kk ((b.length : Int) - v1.2.1).toNat _ _ (by omega) ⟨by omega, by omega, by rw [length_append, length_singleton]; push_cast; omega, fun r hr => ?_⟩)
 rw [mem_append, mem_singleton] at hr
 rcases hr with hr | rfl
 ·exact h4 r hr
 ·exact g.1
theorem NtOk.es {r : x_gs} (h : NtOk r) : EsSz r.2.2.2.2.1 := h.2.2.1.sz
theorem t_HardOf (hK : 2097152 ≤ K) (p : x_n) (hp : SOk p) (b : List Int) (hl : b.length ≤ 80000) (hb : BOk b) : Tot (x_ce K p b) fun x => HOk p x.1 := by
 unfold x_ce x_ce.b
 refine tb (x_0v hK p hp) fun v1 g1 => tb (t_Notes hK b hl hb) fun v2 g2 => ?_
 refine l3_ (L := x_ce.l0 K p b) (fun _ _ _ _ => rfl) (fun m v x h => v = v2 ∧ HOk p h.1 ∧ ∃ i : Nat, x = i ∧ i + m = v2.1.length) (fun m v x h L' hi kk => ?_) (m := v2.1.length) (by omega) ⟨rfl, g1.1, 0, rfl, by omega⟩
 obtain ⟨rfl, hh, i, rfl, hm⟩ := hi
 unfold x_ce.l0b
 refine ti (fun a => ?_) fun _ => tr hh
 rw [w64 (n := (i : Int) + 1) (by omega) (by omega), Int.toNat_natCast]
 refine tc (by omega) (tc a (tb (x_6n hK p _ hh.sz _ (g2.1 _ (x_br (by omega))).es) fun v3 g3 => kk (m - 1) _ _ _ (by omega) ⟨rfl, ?_, i + 1, by push_cast; rfl, by omega⟩))
 rcases g3 with g3 | g3
 ·rw [g3]; exact hh
 ·exact g3.2.1
theorem t_Rise (hK : 2097152 ≤ K) (p : x_n) (n : x_bt) (s : Int) (h : NI p s n) : Tot (s_Rise K p n s) fun x => NI p s x.1 := by
 have cp := x_ft hK n h.nsz
 have no : Tot ((x_w K n).bind fun v => some (v.1, ())) fun x => NI p s x.1 := tv cp (tr h)
 have hs := h.1
 have hd := h.2.2.2.2.2.1
 have hd1 := hd.1
 unfold s_Rise
 refine tb (x_iy hK p n s h.nsz.1) fun v1 g1 => tg g1 (fun _ => no) fun a1 => tb (t_Notes hK _ hd.1 hd.2) fun v3 g3 => tb (t_HardOf hK p h.2.2.2.2.1.1 _ hd.1 hd.2) fun v4 g4 => ?_
 have g3' := g3.2.2
 refine tc rfl (tc (by omega) (tc (by show _ ≤ 70368744177664; (try dsimp only); (try simp only [ll_]); omega) (tb (x_0u hK _ _ (by omega)) fun v5 g5 => tc rfl (tc (by omega) (tc (by show _ ≤ 70368744177664; (try dsimp only); (try simp only [ll_]); omega) (tv (x_vx hK _ g4.sz.2.2) (tc rfl (tc (by omega) (tc (by omega) (tc (by show _ ≤ 70368744177664; rw [length_drop, length_take]; simp only [length_nil]; omega) ?_))))))))))
 refine tb (x_iy hK p _ s ⟨g4.sz, g4.sz.2.2, by show (0 : Nat) < _; decide, fun r hr => by simp at hr⟩) fun v7 g7 => tg g7 (fun _ => no) fun a7 => tr ((a7.pi ?_ (Nat.le_refl 16)).ni (by decide))
 show BOk ([] ++ ((n.2.2.2.2.2.2.2.2.1.1.take _).drop 0))
 rw [List.nil_append]
 exact hd.2.sub _ _
theorem x_aem (hK : 2097152 ≤ K) (p : x_n) (h : x_ff) (hh : HW p h) : Tot (x_an K h) fun x => BOk x.1 := by
 have hlog := hh.2.2.1
 have hla := hlog.last
 have hb := hlog.1
 have hlen := hlog.2.2.1
 have hsz := hlog.sz
 have j : ∀ q : List Int, q.length ≤ 68800 → BOk q → Tot (x_an.j0 K (x_an.l0 K h K) q h) fun x => BOk x.1 := fun q hq hbq => by
  unfold x_an.j0
  refine l3_ (L := x_an.l0 K h) (fun _ _ _ _ => rfl) (fun m q t x => ∃ i : Nat, x = 40 * (i : Int) ∧ i + m = 10 ∧ q.length ≤ 68800 + 34400 * i ∧ BOk q) (fun m q t x L' hi kk => ?_) (m := 10) (by omega) ⟨0, rfl, rfl, hq, hbq⟩
  obtain ⟨i, rfl, hm, hq, hbq⟩ := hi
  unfold x_an.l0b
  refine ti (fun a => ?_) fun _ => tr hbq
  rw [w64 (n := 40 * (i : Int) + 40) (by omega) (by omega), w64 (n := h.2.2.1.1 + 40 * (i : Int)) (by omega) (by omega)]
  refine tb (x_n1 _ _) fun v5 g5 => ?_
  have hv : 40 * (i : Int) < v5.1 ∧ v5.1 ≤ (h.2.2.1.2.2.length : Int) := by omega
  rw [w64 (n := v5.1 - 1) (by omega) (by omega)]
  refine tc rfl (tc (by omega) (tc (by omega) (tc (by omega) (tb (x_jy hK _ ⟨?_, fun x hx => ?_⟩) fun v6 g6 => ?_))))
  ·show ((h.2.2.1.2.2.take _).drop _).length < _
   rw [length_drop, length_take]; omega
  ·have hx : x ∈ (h.2.2.1.2.2.take _).drop _ := hx
   exact hsz.2 x (List.mem_of_mem_take (List.mem_of_mem_drop hx))
  ·have g6l := g6.2.2.2
   exact tc (by show _ ≤ 70368744177664; (try dsimp only); (try simp only [ll_]); omega) (tc (by omega) (tc (by omega) (kk (m - 1) _ _ _ (by omega) ⟨i + 1, by push_cast; omega, by omega, by rw [length_append]; omega, hbq.app g6.2.2.1⟩)))
 unfold x_an x_an.b
 refine tb (x_jy hK _ EsSz.nil) fun v1 g1 => ?_
 have g1l := g1.2.2.2
 refine ti (fun _ => tb (x_pj hK p _ hh.2.2.2.2 (by decide)) fun v2 _ => tb (x_jy hK _ EsSz.nil) fun v3 g3 => ?_) fun _ => j _ (by omega) g1.2.2.1
 have g3l := g3.2.2.2
 exact tc (by show _ ≤ 70368744177664; (try dsimp only); (try simp only [ll_]); omega) (j _ (by rw [length_append]; omega) (g1.2.2.1.app g3.2.2.1))
variable {K N : Nat}
def GI (w : x_r) : Prop := SOk w.1 ∧ (1 ≤ w.2.1 ∧ w.2.1 ≤ 5) ∧ (w.2.2.1.length : Int) = w.2.1 ∧ (∀ n ∈ w.2.2.1, NI w.1 w.2.1 n) ∧ (w.2.2.2.1.length ≤ 40 ∧ ∀ r ∈ w.2.2.2.1, RpOk r w.2.1) ∧ (w.2.2.2.2.1.length = 4 ∧ ∀ c ∈ w.2.2.2.2.1, CSz c) ∧ w.2.2.2.2.2.1.length = 4 ∧ w.2.2.2.2.2.2.1.length ≤ 300 ∧ w.2.2.2.2.2.2.2.length ≤ 300
theorem GI.wsz {w : x_r} (h : GI w) : WSz w := by
 obtain ⟨h1, h2, h3, h4, h5, h6, h7, h8, h9⟩ := h
 exact ⟨by omega, fun n hn => (h4 n hn).nsz, by omega, fun r hr => (h5.2 r hr).sz, by omega, by omega, by omega, by omega⟩
theorem x_aci {α : Type} {l : List α} {i : Nat} {x y : α} (h : y ∈ l.set i x) : y ∈ l ∨ y = x := List.mem_or_eq_of_mem_set h
theorem GI.nodes {w : x_r} (h : GI w) (i : Nat) {n : x_bt} (hn : NI w.1 w.2.1 n) : GI (w.1, w.2.1, w.2.2.1.set i n, w.2.2.2.1, w.2.2.2.2.1, w.2.2.2.2.2.1, w.2.2.2.2.2.2.1, w.2.2.2.2.2.2.2) := by
 obtain ⟨h1, h2, h3, h4, h5⟩ := h
 refine ⟨h1, h2, ?_, fun m hm => ?_, h5⟩
 ·show ((w.2.2.1.set i n).length : Int) = _
  rw [length_set]; exact h3
 ·rcases x_aci hm with hm | rfl
  ·exact h4 m hm
  ·exact hn
theorem GI.net {w : x_r} (h : GI w) {l : List TRpc} (hl : l.length ≤ 40 ∧ ∀ r ∈ l, RpOk r w.2.1) : GI (w.1, w.2.1, w.2.2.1, l, w.2.2.2.2.1, w.2.2.2.2.2.1, w.2.2.2.2.2.2.1, w.2.2.2.2.2.2.2) :=
 ⟨h.1, h.2.1, h.2.2.1, h.2.2.2.1, hl, h.2.2.2.2.2⟩
theorem GI.said {w : x_r} (h : GI w) (i j : Nat) {c : TCmd} (hc : CSz c) (x : Int) : GI (w.1, w.2.1, w.2.2.1, w.2.2.2.1, w.2.2.2.2.1.set i c, w.2.2.2.2.2.1.set j x, w.2.2.2.2.2.2.1, w.2.2.2.2.2.2.2) := by
 obtain ⟨h1, h2, h3, h4, h5, h6, h7, h8⟩ := h
 refine ⟨h1, h2, h3, h4, h5, ⟨?_, fun m hm => ?_⟩, ?_, h8⟩
 ·show (w.2.2.2.2.1.set i c).length = 4
  rw [length_set]; exact h6.1
 ·rcases x_aci hm with hm | rfl
  ·exact h6.2 m hm
  ·exact hc
 ·show (w.2.2.2.2.2.1.set j x).length = 4
  rw [length_set]; exact h7
theorem GI.at {w : x_r} (h : GI w) {i : Nat} (hi : (i : Int) < w.2.1) : NI w.1 w.2.1 (w.2.2.1.getD i x_ci) := h.2.2.2.1 _ (x_br (by have := h.2.2.1; omega))
theorem t_l15Net (hK : 2097152 ≤ K) (w : x_r) (h : GI w) (d : x_i9) : Tot (x_0l K w d) fun x => GI x.1 := by
 have hn := h.2.2.2.2.1
 have hs := h.2.2.1
 have hn1 := hn.1
 unfold x_0l
 rw [w64 (n := ((w.2.2.2.1.length : Nat) : Int) - 1) (by omega) (by omega)]
 refine tb (x_bf _ _ _) fun v1 g1 => tg g1 (fun _ => tr h) fun a1 => tc (by omega) (tc (by omega) ?_)
 have hr := hn.2 _ (x_br (z := zRpc) (show Int.toNat d.2.1 < w.2.2.2.1.length by omega))
 refine ti (fun _ => ti (fun _ => tr h) fun a2 => tv (x_5t _ hr.sz.1) (tc (by show _ ≤ 70368744177664; (try dsimp only); (try simp only [ll_]); omega) (tr (h.net ⟨?_, fun r hm => ?_⟩)))) fun _ => ?_
 ·rw [length_append, length_singleton]; omega
 ·rw [mem_append, mem_singleton] at hm
  rcases hm with hm | rfl
  ·exact hn.2 r hm
  ·exact hr
 ·rw [w64 (n := d.2.1 + 1) (by omega) (by omega)]
  have e1 : ([] ++ ((w.2.2.2.1.take (Int.toNat d.2.1)).drop 0) : List TRpc) = w.2.2.2.1.take (Int.toNat d.2.1) := by rw [List.nil_append, List.drop_zero]
  have hcut : GI (w.1, w.2.1, w.2.2.1, ([] ++ ((w.2.2.2.1.take (Int.toNat d.2.1)).drop 0)) ++ ((w.2.2.2.1.take (Int.toNat ((w.2.2.2.1.length : Nat) : Int))).drop (Int.toNat (d.2.1 + 1))), w.2.2.2.2.1, w.2.2.2.2.2.1, w.2.2.2.2.2.2.1, w.2.2.2.2.2.2.2) := h.net ⟨by rw [e1, length_append, length_take, length_drop, length_take]; omega, fun r hm => by
   rw [e1, mem_append] at hm
   rcases hm with hm | hm
   ·exact hn.2 r (List.mem_of_mem_take hm)
   ·exact hn.2 r (List.mem_of_mem_take (List.mem_of_mem_drop hm))⟩
  refine tc rfl (tc (by omega) (tc (by omega) (tc (by show _ ≤ 70368744177664; rw [length_drop, length_take]; simp only [length_nil]; omega) (tc rfl (tc (by omega) (tc (by omega) (tc (Int.le_refl _) (tc (by show _ ≤ 70368744177664; rw [e1, length_take, length_drop, length_take]; omega) ?_))))))))
  refine ti (fun _ => ?_) fun _ => tr hcut
  have ht := hr.2.2.2.1
  refine tc (by omega) (tc (by omega) (tb (t_Hear hK _ _ _ (h.at (by omega)) _ hr.sz) fun v3 g3 => tB (fun _ => tc (by omega) (tc (by omega) (tr (hcut.nodes _ g3.2)))) fun _ => tr hcut))
theorem t_Told (hK : 2097152 ≤ K) (w : x_r) (h : w.2.2.2.2.2.2.1.length ≤ 300) (a b : Int) : Tot (x_g0 K w a b) fun _ => True := by
 unfold x_g0 x_g0.b
 refine l1_ (L := x_g0.l0 K w a b) (fun _ _ => rfl) (fun m x => ∃ i : Nat, x = i ∧ i + m = w.2.2.2.2.2.2.1.length) (fun m x L' hi k => ?_) (m := w.2.2.2.2.2.2.1.length) (by omega) ⟨0, rfl, by omega⟩
 obtain ⟨i, rfl, hi⟩ := hi
 unfold x_g0.l0b
 refine ti (fun h1 => ?_) fun _ => tr trivial
 rw [w64 (n := (i : Int) + 1) (by omega) (by omega)]
 have go := k (m - 1) ((i : Int) + 1) (by omega) ⟨i + 1, by push_cast; rfl, by omega⟩
 exact tc (by omega) (tc h1 (ti (fun _ => tc (by omega) (tc h1 (ti (fun _ => tr trivial) fun _ => go))) fun _ => go))
theorem t_l15Tell (hK : 2097152 ≤ K) (w : x_r) (h : GI w) (d : x_i9) (ha : 0 ≤ d.2.1 ∧ d.2.1 ≤ w.2.1 - 1) (hb : 0 ≤ d.2.2.1 ∧ d.2.2.1 ≤ 3) : Tot (x_ta K w d) fun x => GI x.1 := by
 have hs := h.2.2.1
 have h4 := h.2.2.2.2.2.1.1
 have hf := h.2.2.2.2.2.2.1
 have hh := h.2.2.2.2.2.2.2.1
 have hn := (h.at (i := Int.toNat d.2.1) (by omega)).2.2.2.2.1
 have hd := hn.2.2.2.1
 have hl := hn.2.2.2.2.1
 unfold x_ta
 refine tc (by omega) (tc (by omega) (tc (by omega) (tc (by omega) (ti (fun _ => tr h) fun _ => tb (t_Told hK w hh _ _) fun v1 _ => tB (fun _ => tr h) fun _ => tc (by omega) (tc (by omega) (ti (fun _ => tr h) fun _ => ti (fun _ => tr h) fun _ => tc (by omega) (tc (by omega) (tc (by omega) (tc (by omega) (tc (by show _ ≤ 70368744177664; (try dsimp only); (try simp only [ll_]); omega) (tr ?_)))))))))))
 obtain ⟨h1, h2, h3, h4, h5, h6, h7, h8, h9⟩ := h
 refine ⟨h1, h2, h3, h4, h5, h6, h7, ?_, h9⟩
 show (w.2.2.2.2.2.2.1 ++ [_]).length ≤ 300
 rw [length_append, length_singleton]; omega
theorem t_l15Say (hK : 2097152 ≤ K) (w : x_r) (h : GI w) (d : x_i9) (hc : CSz d.2.2.2) (ha : 0 ≤ d.2.1 ∧ d.2.1 ≤ w.2.1 - 1) (hb : 0 ≤ d.2.2.1 ∧ d.2.2.1 ≤ 3) : Tot (x_kh K w d) fun x => GI x.1 := by
 have hs := h.2.2.1
 have h4 := h.2.2.2.2.2.1
 have h41 := h4.1
 have hf := h.2.2.2.2.2.2.1
 have hh := h.2.2.2.2.2.2.2.1
 have hn := h.at (i := Int.toNat d.2.1) (by omega)
 have put : ∀ c : TCmd, CSz c → Tot ((x_m1 K w.1 (w.2.2.1.getD (Int.toNat d.2.1) x_ci) w.2.1 c).bind fun v2 =>
   bif !v2.2.1 then some (w, (3 : Int), ())
   else bif decide (c.2.1 = 0) then some (w, 3, ())
   else bif decide ((0 : Int) ≤ d.2.1) then bif decide (d.2.1 < ((w.2.2.1.length : Nat) : Int)) then bif decide (d.1 = 7) then bif decide ((0 : Int) ≤ d.2.2.1) then bif decide (d.2.2.1 < ((w.2.2.2.2.1.length : Nat) : Int)) then bif decide ((0 : Int) ≤ d.2.2.1) then bif decide (d.2.2.1 < ((w.2.2.2.2.2.1.length : Nat) : Int)) then some ((w.1, w.2.1, w.2.2.1.set (Int.toNat d.2.1) v2.1, w.2.2.2.1, w.2.2.2.2.1.set (Int.toNat d.2.2.1) c, w.2.2.2.2.2.1.set (Int.toNat d.2.2.1) ((w.2.2.2.2.2.2.2.length : Nat) : Int), w.2.2.2.2.2.2.1, w.2.2.2.2.2.2.2), 0, ())
    else none
    else none
    else none
    else none
   else some ((w.1, w.2.1, w.2.2.1.set (Int.toNat d.2.1) v2.1, w.2.2.2.1, w.2.2.2.2.1, w.2.2.2.2.2.1, w.2.2.2.2.2.2.1, w.2.2.2.2.2.2.2), 0, ())
   else none
   else none) fun x => GI x.1 := fun c hc =>
  tb (t_Propose hK _ _ _ hn c hc) fun v2 g2 => tN (fun _ => tr h) fun _ => ti (fun _ => tr h) fun _ => tc (by omega) (tc (by omega) (ti (fun _ => tc (by omega) (tc (by omega) (tc (by omega) (tc (by omega) (tr ((h.nodes _ g2.2).said _ _ hc _)))))) fun _ => tr (h.nodes _ g2.2)))
 have hsd := h4.2 _ (x_br (z := zCmd) (show Int.toNat d.2.2.1 < w.2.2.2.2.1.length by omega))
 have j : Tot (x_kh.j0 K d w) fun x => GI x.1 := by
  unfold x_kh.j0
  refine tc (by omega) (tc (by omega) (put _ ?_))
  exact hc
 unfold x_kh
 refine tc (by omega) (tc (by omega) (ti (fun _ => ti (fun _ => tb (t_Told hK w hh _ _) fun v1 _ => tN (fun _ => tr h) fun _ => j) fun _ => j) fun _ => tc (by omega) (tc (by omega) (put _ hsd))))
theorem x_ad5 (w : x_r) (h : GI w) (n : x_bt) (hn : NI w.1 w.2.1 n) (b : Bool) : Tot (x_v8 w n b) fun x => GI x.1 := by
 have hs := h.2.2.1
 have h1 := hn.1
 unfold x_v8
 exact tN (fun _ => tr h) fun _ => tc (by omega) (tc (by omega) (tr (h.nodes _ hn)))
theorem t_l15Sure (hK : 2097152 ≤ K) (w : x_r) (h : GI w) (a : Int) (ha : 0 ≤ a ∧ a ≤ w.2.1 - 1) : Tot (x_s4 K w a) fun x => GI x.1 := by
 have hs := h.2.2.1
 have hn := h.2.2.2.2.1
 have hn1 := hn.1
 unfold x_s4
 rw [w64 (n := 40 - ((w.2.2.2.1.length : Nat) : Int)) (by omega) (by omega)]
 refine tc (by omega) (tc (by omega) (tb (t_SureNow hK _ _ _ (h.at (by omega))) fun v1 g1 => ti (fun _ => tr h) fun b => tc (by omega) (tc (by omega) (tc (by show _ ≤ 70368744177664; (try dsimp only); (try simp only [ll_]); omega) (tr ((h.nodes _ g1.1).net ⟨?_, fun r hr => ?_⟩))))))
 ·rw [length_append]; omega
 ·rw [mem_append] at hr
  rcases hr with hr | hr
  ·exact hn.2 r hr
  ·exact g1.2.2 r hr
theorem t_l15Cut (hK : 2097152 ≤ K) (w : x_r) (h : GI w) (a : Int) (ha : 0 ≤ a ∧ a ≤ w.2.1 - 1) : Tot (x_0r K w a) fun x => GI x.1 := by
 have hs := h.2.2.1
 have hn := h.at (i := Int.toNat a) (by omega)
 unfold x_0r
 refine tc (by omega) (tc (by omega) (tn (fun _ => tr h) fun _ => ti (fun _ => tr h) fun _ => ?_))
 obtain ⟨h1, h2, h3, h4, h5, h6, h7⟩ := hn
 have hlog := x_7o h2.2.2.1 (w.2.2.1.getD (Int.toNat a) x_ci).2.2.2.2.2.2.1
 have hw : HW w.1 ((w.2.2.1.getD (Int.toNat a) x_ci).2.1.1, (w.2.2.1.getD (Int.toNat a) x_ci).2.1.2.1, x_ui (w.2.2.1.getD (Int.toNat a) x_ci).2.1.2.2.1 (w.2.2.1.getD (Int.toNat a) x_ci).2.2.2.2.2.2.1, (w.2.2.1.getD (Int.toNat a) x_ci).2.2.2.2.2.2.2.1) := ⟨h2.1, h2.2.1, hlog.1, by rw [show ∀ a b c d, ((a, b, c, d) : x_ff).2.2.1 = c from fun _ _ _ _ => rfl, hlog.2.2]; exact h2.2.2.2.1, h5⟩
 refine tv (x_act _ h2.2.2.1.bd _) (tv (x_vx hK _ (h5.sz (by decide))) (tb (x_aem hK _ _ hw) fun v3 g3 => ti (fun _ => tr h) fun b => tc (by omega) (tc (by omega) (tr (h.nodes _ ⟨h1, hw, h3, ⟨?_, h4.2⟩, h5, ⟨by show v3.1.length ≤ 80000; omega, g3⟩, h7⟩)))))
 show (x_ui _ _).1 ≤ _
 unfold x_ui
 split
 ·exact Int.le_refl _
 ·exact h4.1
theorem x_ae8 (hK : 2097152 ≤ K) (w : x_r) (h : GI w) (d : x_i9) (ha : 0 ≤ d.2.1 ∧ d.2.1 ≤ w.2.1 - 1) : Tot (x_02 K w d) fun x => GI x.1 := by
 have hs := h.2.2.1
 have hsz := h.2.1
 have hn := h.at (i := Int.toNat d.2.1) (by omega)
 unfold x_02
 rw [w64 (n := w.2.1 - 1) (by omega) (by omega)]
 refine tc (by omega) (tc (by omega) (ti (fun _ => ?_) fun _ => ti (fun _ => ?_) fun _ => ti (fun _ => ?_) fun _ => ti (fun _ => ?_) fun _ => ?_))
 ·exact tb (t_Ask hK _ _ _ hn) fun v1 g1 => tb (x_ad5 w h _ g1.2 _) fun v2 g2 => tr g2
 ·exact tb (x_bf _ _ _) fun v3 g3 => tg g3 (fun _ => tr h) fun _ => tb (t_Feed hK _ _ _ hn _) fun v1 g1 => tb (x_ad5 w h _ g1.2 _) fun v2 g2 => tr g2
 ·exact tb (t_l15Sure hK w h _ ha) fun v g => tr g
 ·refine tb (t_Fall _ hn.2.2.2.2.2.1 _) fun v7 g7 => ?_
  obtain ⟨h1, h2, h3, h4, h5, h6, h7⟩ := hn
  exact tb (t_Rise hK _ _ _ ⟨h1, h2, h3, h4, h5, g7, h7⟩) fun v8 g8 => tc (by omega) (tc (by omega) (tr (h.nodes _ g8)))
 ·exact tb (t_l15Cut hK w h _ ha) fun v g => tr g
theorem t_l15Do (hK : 2097152 ≤ K) (w : x_r) (h : GI w) (d : x_i9) (hc : CSz d.2.2.2) : Tot (x_hp K w d) fun x => GI x.1 := by
 have hsz := h.2.1
 have j1 : ∀ b : Bool, (d.1 = 11 → b = true) → Tot (x_hp.j1 K d w b) fun x => GI x.1 := fun b hb => by
  unfold x_hp.j1
  rw [w64 (n := w.2.1 - 1) (by omega) (by omega)]
  refine tb (x_bf _ _ _) fun v4 g4 => tg g4 (fun _ => tr h) fun a4 => tB (fun e => tb (x_bf _ _ _) fun v5 g5 => tg g5 (fun _ => tr h) fun a5 => ?_) fun e => ?_
  ·unfold x_hp.j0
   exact ti (fun _ => tb (t_l15Tell hK w h d a4 a5) fun v g => tr g) fun _ => tB (fun _ => tb (t_l15Say hK w h d hc a4 a5) fun v g => tr g) fun _ => tb (x_ae8 hK w h d a4) fun v g => tr g
  ·unfold x_hp.j0
   exact ti (fun k => by rw [hb k] at e; exact bad' e) fun _ => tB (fun k => by rw [k] at e; exact bad' e) fun _ => tb (x_ae8 hK w h d a4) fun v g => tr g
 unfold x_hp
 exact tb (x_bf _ _ _) fun v1 _ => tB (fun _ => tb (t_l15Net hK w h d) fun v g => tr g) fun _ => ti (fun _ => j1 _ fun _ => rfl) fun _ => ti (fun _ => j1 _ fun _ => rfl) fun _ => j1 _ fun e => decide_eq_true e
theorem t_l15Note (hK : 2097152 ≤ K) (w : x_r) (h : GI w) : Tot (x_aa K w) fun x => GI x.1 := by
 have hs := h.2.2.1
 have hsz := h.2.1
 unfold x_aa x_aa.b
 refine l2_ (L := x_aa.l0 K w) (b := fun L' => x_aa.l0b K w (x_aa.l1 K w L' K)) (fun _ _ _ => rfl) (fun m x q => (∃ i : Nat, x = i ∧ (i : Int) + m = w.2.1) ∧ q.length ≤ 300) (fun m x q L' hi kk => ?_) (m := (w.2.1).toNat) (by omega) ⟨⟨0, rfl, by omega⟩, h.2.2.2.2.2.2.2.2⟩
 obtain ⟨⟨i, rfl, hm⟩, hq⟩ := hi
 unfold x_aa.l0b
 refine ti (fun a => tc (by omega) (tc (by omega) ?_)) fun a => ?_
 ·have hn := h.at (i := i) (by omega)
  have hlog := hn.2.1.2.2.1
  have hb := hlog.1
  have hc := hn.2.2.2.1
  have hll := hlog.2.2.1
  refine l2_ (L := x_aa.l1 K w L') (fun _ _ _ => rfl) (fun d x q => x = (i : Int) ∧ q.length + d = 300) (fun d x q L1 hj k1 => ?_) (m := 300 - q.length) (by omega) ⟨rfl, by omega⟩
  obtain ⟨rfl, hd⟩ := hj
  unfold x_aa.l1b
  rw [Int.toNat_natCast, w64 (n := (i : Int) + 1) (by omega) (by omega), w64 (n := ((q.length : Nat) : Int) - (w.2.2.1.getD i x_ci).2.1.2.2.1.1) (by omega) (by omega)]
  have go := kk (m - 1) ((i : Int) + 1) q (by omega) ⟨⟨i + 1, by push_cast; rfl, by omega⟩, by omega⟩
  exact ti (fun b => ti (fun _ => go) fun _ => ti (fun _ => go) fun _ => tc (by omega) (tc (by omega) (tc (by show _ ≤ 70368744177664; (try dsimp only); (try simp only [ll_]); omega) (k1 (d - 1) _ _ (by omega) ⟨rfl, by rw [length_append, length_singleton]; omega⟩)))) fun _ => go
 ·obtain ⟨h1, h2, h3, h4, h5, h6, h7, h8, h9⟩ := h
  exact tr ⟨h1, h2, h3, h4, h5, h6, h7, h8, hq⟩
theorem t_l15Then (hK : 2097152 ≤ K) (w : x_r) (h : GI w) (d : x_i9) (hc : CSz d.2.2.2) : Tot (x_st K w d) fun x => GI x.1 := by
 unfold x_st
 exact tb (t_l15Do hK w h d hc) fun v1 g1 => ti (fun _ => tb (t_l15Note hK _ g1) fun v2 g2 => tr g2) fun _ => tr g1
variable {K N : Nat}
theorem x_ig {c : x_c} (h : x_cg c) : Tot (x_d0 c) fun r => SOk r.1 ∧ x_cg r.2.1 := by
 unfold x_d0
 refine tb (x_y h 3 (by decide)) fun v1 g1 => tb (x_ag g1.2.2 _ (by decide)) fun v2 g2 => tb (x_ag g2.2 _ (by decide)) fun v3 g3 => tb (x_ag g3.2 _ (by decide)) fun v4 g4 => tr ⟨?_, g4.2⟩
 have e2 := g2.1
 have e3 := g3.1
 have e4 := g4.1
 simp only [mem_cons, List.not_mem_nil, or_false] at e2 e3 e4
 rw [w64 (n := 1 + v1.1) (by omega) (by omega)]
 exact ⟨⟨by show 1 ≤ 1 + v1.1; omega, by show 1 + v1.1 ≤ 4; omega⟩, ⟨by show 1 ≤ v2.1; omega, by show v2.1 ≤ 5; omega⟩, ⟨by show 1 ≤ v3.1; omega, by show v3.1 ≤ 8; omega⟩, ⟨by show 0 ≤ v4.1; omega, by show v4.1 ≤ 60; omega⟩⟩
theorem x_aii {α : Type} {n i : Nat} {x z : α} (h : i < n) : (List.replicate n x).getD i z = x := by
 rw [x_b4 (by rw [length_replicate]; exact h), List.getElem_replicate]
theorem t_PeerNew (hK : 2097152 ≤ K) (p : x_n) (hp : SOk p) (i s : Int) (hs : 1 ≤ s ∧ s ≤ 5) (hi : 0 ≤ i ∧ i ≤ s - 1) : Tot (x_tc K p i s) fun x => x.2.1 = true ∧ NI p s x.1 := by
 unfold x_tc
 refine tb (x_kr p) fun v1 g1 => tg g1 (fun a => absurd hp a) fun _ => tb (x_bf _ _ _) fun v2 g2 => tg g2 (fun a => absurd hs a) fun _ => tb (x_0v hK p hp) fun v3 g3 => ?_
 refine tc rfl (tc (by omega) (tc (by show _ ≤ 70368744177664; (try dsimp only); (try simp only [ll_]); omega) (tv (x_0u hK _ _ (by omega)) (tc rfl (tc (by omega) (tc (by show _ ≤ 70368744177664; (try dsimp only); (try simp only [ll_]); omega) (tb (x_0j hK p hp) fun v5 g5 => ?_)))))))
 obtain ⟨g3, k, hk, e⟩ := g3
 have ok : POk p (i, v3.1, 0, List.replicate (Int.toNat s) false, List.replicate s.toNat 1, List.replicate (Int.toNat s) 0, 0, v5.1, ([], 0), []) s := by
  refine ⟨hs, hi, g3, ?_, by show (0 : Int) ≤ 0 ∧ (0 : Int) ≤ 2; decide, ?_, ?_, ?_, fun j hj => ?_, fun j hj => absurd hj (Nat.not_lt_zero _), ?_, g5.1, ?_, Nat.zero_le _⟩
  ·show v3.1.2.1 < s
   rw [e]; show (-1 : Int) < s; omega
  ·show (((List.replicate (Int.toNat s) false).length : Nat) : Int) = s
   rw [length_replicate]; omega
  ·show (((List.replicate (Int.toNat s) (1 : Int)).length : Nat) : Int) = s
   rw [length_replicate]; omega
  ·show (((List.replicate (Int.toNat s) (0 : Int)).length : Nat) : Int) = s
   rw [length_replicate]; omega
  ·show (1 ≤ (List.replicate s.toNat (1 : Int)).getD j 0 ∧ (List.replicate s.toNat (1 : Int)).getD j 0 ≤ x_ip v3.1.2.2.1 + 1) ∧ (0 ≤ (List.replicate (Int.toNat s) (0 : Int)).getD j 0 ∧ (List.replicate (Int.toNat s) (0 : Int)).getD j 0 ≤ x_ip v3.1.2.2.1)
   rw [x_aii hj, x_aii hj, e]
   show (1 ≤ (1 : Int) ∧ (1 : Int) ≤ 0 + ((0 : Nat) : Int) + 1) ∧ (0 ≤ (0 : Int) ∧ (0 : Int) ≤ 0 + ((0 : Nat) : Int))
   decide
  ·show v3.1.2.2.1.1 ≤ 0 ∧ 0 ≤ x_ip v3.1.2.2.1
   rw [e]
   show (0 : Int) ≤ 0 ∧ (0 : Int) ≤ 0 + ((0 : Nat) : Int)
   decide
  ·show (0 : Nat) ≤ 80000 ∧ (0 : Int) ≤ 0 ∧ (0 : Int) ≤ ((0 : Nat) : Int)
   decide
 refine tb (x_iy hK p _ s ok.sz) fun v6 g6 => tg g6 (fun a => absurd ok a) fun _ => tr ⟨rfl, (ok.pi (fun x hx => by simp at hx) (Nat.le_refl 16)).ni (by decide)⟩
theorem zc : CSz (0, 0, 0, 0, 0, 0, ByteArray.empty, ByteArray.empty) := ⟨by show ByteArray.empty.size < _; decide, by show ByteArray.empty.size < _; decide⟩
theorem x_ahs (hK : 2097152 ≤ K) (p : x_n) (hp : SOk p) (s : Int) (hs : 1 ≤ s ∧ s ≤ 5) : Tot (x_a6 K p s) fun x => x.2.1 = true ∧ GI x.1 := by
 unfold x_a6 x_a6.b
 refine tb (x_kr p) fun v1 g1 => tg g1 (fun a => absurd hp a) fun _ => tb (x_bf _ _ _) fun v2 g2 => tg g2 (fun a => absurd hs a) fun _ => ?_
 refine l2_ (L := x_a6.l0 K p s) (fun _ _ _ => rfl) (fun m x q => (∃ i : Nat, x = i ∧ (i : Int) + m = s ∧ q.length = i) ∧ ∀ n ∈ q, NI p s n) (fun m x q L' hi kk => ?_) (m := s.toNat) (by omega) ⟨⟨0, rfl, by omega, rfl⟩, fun n hn => by simp at hn⟩
 obtain ⟨⟨i, rfl, hm, hl⟩, hq⟩ := hi
 unfold x_a6.l0b
 refine ti (fun a => tb (t_PeerNew hK p hp i s hs (by omega)) fun v3 g3 => tN (fun e => by rw [g3.1] at e; exact bad' e) fun _ => ?_) fun a => tr ⟨rfl, hp, hs, ?_, hq, ⟨Nat.zero_le _, fun r hr => by simp at hr⟩, ⟨length_replicate, fun c hc => ?_⟩, length_replicate, Nat.zero_le _, Nat.zero_le _⟩
 ·rw [w64 (n := (i : Int) + 1) (by omega) (by omega)]
  refine tc (by show _ ≤ 70368744177664; (try dsimp only); (try simp only [ll_]); omega) (kk (m - 1) _ _ (by omega) ⟨⟨i + 1, by push_cast; rfl, by omega, by rw [length_append, length_singleton, hl]⟩, fun n hn => ?_⟩)
  rw [mem_append, mem_singleton] at hn
  rcases hn with hn | rfl
  ·exact hq n hn
  ·exact g3.2
 ·show (q.length : Int) = s
  omega
 ·rw [List.eq_of_mem_replicate hc]; exact zc
theorem x_11 (hK : 2097152 ≤ K) {c : x_c} (h : x_cg c) (w : x_r) (hw : GI w) : Tot (x_h K c w) fun r => CSz r.1.2.2.2 ∧ x_cg r.2.1 := by
 have hs := hw.2.2.1
 have hsz := hw.2.1
 have hnet := hw.2.2.2.2.1.1
 unfold x_h x_h.b
 refine tb (x_pg _ _) fun v1 g1 => tb (x_y h v1.1 (by omega)) fun v2 g2 => ?_
 refine l4_ (L := x_h.l0 K c w) (b := fun L' => x_h.l0b K c w L' (x_h.l1 K c w K)) (fun _ _ _ _ _ => rfl) (fun m a0 b0 q x => a0 = v1 ∧ b0 = v2 ∧ ∃ i : Nat, x = i ∧ i + m = w.2.2.1.length) (fun m a0 b0 q x L' hi kk => ?_) (m := w.2.2.1.length) (by omega) ⟨rfl, rfl, 0, rfl, by omega⟩
 obtain ⟨rfl, rfl, i, rfl, hm⟩ := hi
 unfold x_h.l0b
 refine ti (fun b => ?_) fun b => ?_
 ·rw [w64 (n := (i : Int) + 1) (by omega) (by omega)]
  exact tc (by omega) (tc (by omega) (ti (fun _ => kk (m - 1) _ _ _ _ (by omega) ⟨rfl, rfl, i + 1, by push_cast; rfl, by omega⟩) fun _ => kk (m - 1) _ _ _ _ (by omega) ⟨rfl, rfl, i + 1, by push_cast; rfl, by omega⟩))
 ·refine tb (x_y g2.2.2 4 (by decide)) fun v3 g3 => tb (x_y g3.2.2 22 (by decide)) fun v4 g4 => ?_
  have mx : Tot (x_hl ((w.2.2.2.1.length : Nat) : Int) 1) fun r => 0 < r.1 := (x_pg _ _).mono fun r e => by omega
  have j : ∀ b, Tot (x_h.j0 K (x_h.l1 K c w K) b a0 b0 v4 q v3 w) fun r => CSz r.1.2.2.2 ∧ x_cg r.2.1 := fun b => by
   unfold x_h.j0
   refine tB (fun _ => ?_) fun _ => ti (fun _ => tb (x_ag g4.2.2 _ (by decide)) fun v12 g12 => tr ⟨zc, g12.2⟩) fun _ => ti (fun _ => tr ⟨zc, g4.2.2⟩) fun _ => ti (fun _ => tr ⟨zc, g4.2.2⟩) fun _ => ti (fun _ => tr ⟨zc, g4.2.2⟩) fun _ => ti (fun _ => ?_) fun _ => ti (fun _ => tb (x_tk g4.2.2 _) fun v16 g16 => tB (fun _ => tr ⟨zc, g16⟩) fun _ => tb mx fun v17 g17 => tb (x_y g16 _ g17) fun v18 g18 => tr ⟨zc, g18.2.2⟩) fun _ => tb mx fun v19 g19 => tb (x_y g4.2.2 _ g19) fun v20 g20 => tr ⟨zc, g20.2.2⟩
   ·refine l4_ (L := x_h.l1 K c w) (fun _ _ _ _ _ => rfl) (fun m a1 b1 x d => a1 = a0 ∧ b1 = b0 ∧ d = v4 ∧ ∃ i : Nat, x = i ∧ (i : Int) + m = a0.1) (fun m a1 b1 x d L' hi kk => ?_) (m := a0.1.toNat) (by omega) ⟨rfl, rfl, rfl, 0, rfl, by omega⟩
    obtain ⟨rfl, rfl, rfl, i, rfl, hm⟩ := hi
    unfold x_h.l1b
    refine ti (fun b => ti (fun b2 => ?_) fun _ => tr ⟨zc, g4.2.2⟩) fun _ => tr ⟨zc, g4.2.2⟩
    rw [w64 (n := b1.1 + (i : Int)) (by omega) (by omega), w64 (n := (i : Int) + 1) (by omega) (by omega)]
    have tm := x_r1 (x := b1.1 + (i : Int)) (n := ((w.2.2.1.length : Nat) : Int)) (by omega) (by omega)
    exact tc (by omega) (tc tm.1 (tc tm.2 (ti (fun _ => tc (by omega) (tr ⟨zc, g4.2.2⟩)) fun _ => kk (m - 1) _ _ _ _ (by omega) ⟨rfl, rfl, rfl, i + 1, by push_cast; rfl, by omega⟩)))
   ·exact tb (x_y g4.2.2 2 (by decide)) fun v13 g13 => tb mx fun v14 g14 => tb (x_y g13.2.2 _ g14) fun v15 g15 => tr ⟨zc, g15.2.2⟩
  have bd := x_v2 g4.2.2
  have bl := x_y g4.2.2 a0.1 (by omega)
  exact ti (fun _ => tr ⟨zc, g4.2.2⟩) fun _ => ti (fun _ => tb bd fun v g => tr g) fun _ => ti (fun _ => tb bd fun v g => tr g) fun _ => ti (fun _ => tb bd fun v g => tr g) fun _ => ti (fun _ => tr ⟨zc, g4.2.2⟩) fun _ => ti (fun _ => tb bl fun v g => tr ⟨zc, g.2.2⟩) fun _ => ti (fun _ => tb bl fun v g => tr ⟨zc, g.2.2⟩) fun _ => ti (fun _ => tb bl fun v g => tr ⟨zc, g.2.2⟩) fun _ => ti (fun _ => j _) fun _ => ti (fun _ => j _) fun _ => j _
theorem x_4k (hK : 2097152 ≤ K) {c : x_c} (h : x_cg c) (n : Int) (hn : 0 ≤ n ∧ n ≤ 1000) : Tot (x_af K c n) fun r => GI r.2.2.1 ∧ x_cg r.2.2.2.1 := by
 unfold x_af x_af.b
 refine tb (x_ig h) fun v1 g1 => tb (x_ag g1.2 _ (by decide)) fun v2 g2 => ?_
 have e2 := g2.1
 simp only [mem_cons, List.not_mem_nil, or_false] at e2
 rw [w64 (n := n + 1) (by omega) (by omega)]
 refine tb (x_ahs hK _ g1.1 _ (by omega)) fun v3 g3 => tb (x_y g2.2 _ (by omega)) fun v4 g4 => ?_
 refine l1_ (L := fun n' (q : List x_i9 × Int × (x_c × Unit) × x_r) => x_af.l0 K c n n' v3 q.1 v4 q.2.1 q.2.2.1 q.2.2.2) (b := fun L' q => x_af.l0b K c n (fun _ a _ b d e => L' (a, b, d, e)) v3 q.1 v4 q.2.1 q.2.2.1 q.2.2.2)
  (fun _ _ => rfl) (fun m q => (∃ i : Nat, q.2.1 = i ∧ (i : Int) + m = v4.1 ∧ q.1.length = i) ∧ x_cg q.2.2.1.1 ∧ GI q.2.2.2) (fun m q L' hi kk => ?_) (x := ([], 0, v4.2, v3.1)) (m := v4.1.toNat) (by omega) ⟨⟨0, rfl, by omega, rfl⟩, g4.2.2, g3.2⟩
 obtain ⟨l, j, v, w⟩ := q
 obtain ⟨⟨i, hj, hm, hl⟩, hv, hw⟩ := hi
 simp only at hj hl hv hw
 subst hj
 unfold x_af.l0b
 simp only
 refine ti (fun a => tB (fun _ => ?_) fun _ => tr ⟨hw, hv⟩) fun _ => tr ⟨hw, hv⟩
 rw [w64 (n := (i : Int) + 1) (by omega) (by omega)]
 refine tb (x_11 hK hv w hw) fun v5 g5 => tc (by show _ ≤ 70368744177664; (try dsimp only); (try simp only [ll_]); omega) (tv (t_l15Copy hK w hw.wsz) (tb (t_l15Then hK w hw _ g5.1) fun v7 g7 => ti (fun _ => ?_) fun _ => ?_))
 ·exact kk (m - 1) (l ++ [v5.1], (i : Int) + 1, v5.2, v7.1) (by omega) ⟨⟨i + 1, by push_cast; rfl, by omega, by show (l ++ [_]).length = _; rw [length_append, length_singleton, hl]⟩, g5.2, g7⟩
 ·exact kk (m - 1) (l ++ [v5.1], (i : Int) + 1, v5.2, w) (by omega) ⟨⟨i + 1, by push_cast; rfl, by omega, by show (l ++ [_]).length = _; rw [length_append, length_singleton, hl]⟩, g5.2, hw⟩
theorem x_pa (hK : 2097152 ≤ K) {c : x_c} (h : x_cg c) : Tot (x_fv K c) fun r => GI r.1 ∧ x_cg r.2.1 := by
 unfold x_fv
 exact tb (x_4k hK h 45 (by decide)) fun v g => tr g
variable {K N : Nat}
theorem x_e4 {c : x_c} (h : x_cg c) : Tot (x_cp c) fun r => CSz r.1 ∧ x_cg r.2.1 := by
 unfold x_cp
 refine tb (x_tk h _) fun v1 g1 => tB (fun _ => tr ⟨zc, g1⟩) fun _ => tb (x_v2 g1) fun v2 g2 => tb (x_y g2.2 4 (by decide)) fun v3 g3 => tb (x_y g3.2.2 6 (by decide)) fun v4 g4 => tr ⟨g2.1, g4.2.2⟩
theorem x_ub {c : x_c} (hK : 2097152 ≤ K) (h : x_cg c) (n : Int) (hn : 0 ≤ n ∧ n ≤ 100) : Tot (x_ae K c n) fun r => (∀ x ∈ r.1, CSz x) ∧ r.1.length ≤ 100 ∧ x_cg r.2.1 := by
 unfold x_ae x_ae.b
 rw [w64 (n := n + 1) (by omega) (by omega)]
 refine tb (x_y h _ (by omega)) fun v1 g1 => ?_
 refine l4_ (L := x_ae.l0 K c n) (fun _ _ _ _ _ => rfl) (fun m q v x y => v = v1 ∧ (∃ i : Nat, x = i ∧ (i : Int) + m = v1.1 ∧ q.length = i) ∧ x_cg y.1 ∧ ∀ z ∈ q, CSz z) (fun m q v x y L' hi kk => ?_) (m := v1.1.toNat) (by omega) ⟨rfl, ⟨0, rfl, by omega, rfl⟩, g1.2.2, fun z hz => by simp at hz⟩
 obtain ⟨rfl, ⟨i, rfl, hm, hl⟩, hy, hq⟩ := hi
 unfold x_ae.l0b
 refine ti (fun a => ?_) fun a => tr ⟨hq, by show q.length ≤ 100; omega, hy⟩
 rw [w64 (n := (i : Int) + 1) (by omega) (by omega)]
 have go : ∀ (z : TCmd) (u : x_c × Unit), CSz z → x_cg u.1 → Tot (L' (q ++ [z]) v ((i : Int) + 1) u) fun r => (∀ x ∈ r.1, CSz x) ∧ r.1.length ≤ 100 ∧ x_cg r.2.1 := fun z u hz hu =>
  kk (m - 1) _ _ _ _ (by omega) ⟨rfl, ⟨i + 1, by push_cast; rfl, by omega, by rw [length_append, length_singleton, hl]⟩, hu, fun w hw => by
   rw [mem_append, mem_singleton] at hw
   rcases hw with hw | rfl
   ·exact hq w hw
   ·exact hz⟩
 refine tb (x_e4 hy) fun v2 g2 => ti (fun _ => tb (x_tk g2.2 _) fun v3 g3 => tN (fun _ => ?_) fun _ => ?_) fun _ => ?_
 ·exact tc (by show _ ≤ 70368744177664; (try dsimp only); (try simp only [ll_]); omega) (go _ _ g2.1 g3)
 ·exact tc (by show _ ≤ 70368744177664; (try dsimp only); (try simp only [ll_]); omega) (go _ _ g2.1 g3)
 ·exact tc (by show _ ≤ 70368744177664; (try dsimp only); (try simp only [ll_]); omega) (go _ _ g2.1 g2.2)
theorem x_8i (hK : 2097152 ≤ K) (p : x_n) (hp : SOk p) (l : List TCmd) (hl : ∀ x ∈ l, CSz x) (h100 : l.length ≤ 100) : Tot (x_bl K p l) fun r => KW 200 p r.1 := by
 unfold x_bl x_bl.b
 refine tb (x_0j hK p hp) fun v1 g1 => ?_
 refine l3_ (L := x_bl.l0 K p l) (fun _ _ _ _ => rfl) (fun m q x k => (∃ i : Nat, x = i ∧ i + m = l.length ∧ q.length = i) ∧ KW (16 + (l.length - m)) p k) (fun m q x k L' hi kk => ?_) (m := l.length) (by omega) ⟨⟨0, rfl, by omega, rfl⟩, g1.1.kw (by omega)⟩
 obtain ⟨⟨i, rfl, hm, hq⟩, hk⟩ := hi
 unfold x_bl.l0b
 refine ti (fun a => ?_) fun a => tr (hk.mono (by omega))
 rw [w64 (n := (i : Int) + 1) (by omega) (by omega), Int.toNat_natCast]
 have go : ∀ (z : x_a2) (k' : x_ao), KW (16 + (l.length - m) + 1) p k' → Tot (L' (q ++ [z]) ((i : Int) + 1) k') fun r => KW 200 p r.1 := fun z k' hk' =>
  kk (m - 1) _ _ _ (by omega) ⟨⟨i + 1, by push_cast; rfl, by omega, by rw [length_append, length_singleton, hq]⟩, hk'.mono (by omega)⟩
 have sk := go (0, 0, ByteArray.empty, ByteArray.empty) k (hk.mono (by omega))
 refine tb (x_kr p) fun v2 g2 => tf g2 (fun _ => tc (by omega) (tc a (tb (x_3p hK _ (hl _ (x_br (by omega)))) fun v3 g3 => tf g3 (fun a3 => tc (by omega) (tc a (tb (t_l6Do hK (by omega) p k hk _ a3) fun v4 g4 => ?_))) fun _ => ?_))) fun _ => ?_
 ·exact tc (by show _ ≤ 70368744177664; (try dsimp only); (try simp only [ll_]); omega) (go _ _ g4.1)
 ·exact tc (by show _ ≤ 70368744177664; (try dsimp only); (try simp only [ll_]); omega) sk
 ·exact tc (by show _ ≤ 70368744177664; (try dsimp only); (try simp only [ll_]); omega) sk
theorem t_l6All (hK : 2097152 ≤ K) (p : x_n) (hp : SOk p) (l : List TCmd) (hl : ∀ x ∈ l, CSz x) (h100 : l.length ≤ 100) : Tot (x_7v K p l) fun r => KW 200 p r.1 := by
 unfold x_7v
 exact tb (x_8i hK p hp l hl h100) fun v g => tr g
theorem x_05 (hK : 2097152 ≤ K) {c : x_c} (h : x_cg c) : Tot (x_s K c) fun r => HOk r.1 r.2.1 ∧ x_cg r.2.2.1 := by
 unfold x_s x_s.b
 refine tb (x_ig h) fun v1 g1 => tb (x_0v hK _ g1.1) fun v2 g2 => ?_
 refine l4_ (L := x_s.l0 K c) (fun _ _ _ _ _ => rfl) (fun m x y v q => v = v1 ∧ (∃ i : Nat, x = i ∧ i + m = 7) ∧ x_cg y.1 ∧ HOk v1.1 q.1) (fun m x y v q L' hi kk => ?_) (m := 7) (by omega) ⟨rfl, ⟨0, rfl, rfl⟩, g1.2, g2.1⟩
 obtain ⟨rfl, ⟨i, rfl, hm⟩, hy, hq⟩ := hi
 have hz := hq.sz
 have step : ∀ (r : x_gs) (u : x_c × Unit), 0 < m → EsSz r.2.2.2.2.1 → x_cg u.1 → Tot ((x_iw K v.1 q.1 r).bind fun w => L' ((i : Int) + 1) u v w) fun r => HOk r.1 r.2.1 ∧ x_cg r.2.2.1 := fun r u h0 hr hu =>
  tb (x_6n hK _ _ hz r hr) fun w gw => kk (m - 1) _ _ _ _ (by omega) ⟨rfl, ⟨i + 1, by push_cast; rfl, by omega⟩, hu, by
   rcases gw with gw | gw
   ·rw [gw]; exact hq
   ·exact gw.2.1⟩
 unfold x_s.l0b
 refine tb (x_y hy 7 (by decide)) fun v3 g3 => ti (fun a => ?_) fun _ => tr ⟨hq, g3.2.2⟩
 rw [w64 (n := (i : Int) + 1) (by omega) (by omega)]
 refine tb (x_ew _ hz.1.1 hz.2.1) fun v4 _ => tb (x_y g3.2.2 2 (by decide)) fun v5 g5 => tb (x_y g5.2.2 4 (by decide)) fun v6 g6 => tb (x_y g6.2.2 3 (by decide)) fun v7 g7 => ?_
 have j : ∀ b (v9 : Bool × x_c × Unit), x_cg v9.2.1 → Tot (x_s.j0 K L' b v9 v q v4 (i : Int) v5 v6) fun r => HOk r.1 r.2.1 ∧ x_cg r.2.2.1 := fun b v9 g9 => by
  unfold x_s.j0
  rw [w64 (n := (i : Int) + 1) (by omega) (by omega)]
  refine tB (fun _ => tb (x_ub hK g9 3 (by decide)) fun v11 g11 => tb (t_l6All hK _ g1.1 _ g11.1 g11.2.1) fun v12 g12 => tb (x_pj hK _ _ g12 (by decide)) fun v13 _ => step _ _ (by omega) EsSz.nil g11.2.2) fun _ => step _ _ (by omega) EsSz.nil g9
 refine ti (fun _ => tb (x_e4 g7.2.2) fun v8 g8 => step _ _ (by omega) ⟨by show (1 : Nat) < _; decide, fun x hx => ?_⟩ g8.2) fun _ => ti (fun _ => tb (x_tk g7.2.2 _) fun v9 g9 => tB (fun _ => j _ _ g9) fun _ => j _ _ g9) fun _ => step _ _ (by omega) EsSz.nil g7.2.2
 obtain rfl := mem_singleton.1 hx
 exact g8.1
theorem x_iv (hK : 2097152 ≤ K) {c : x_c} (h : x_cg c) (t n : Int) (hn : 0 ≤ n ∧ n ≤ 100) : Tot (x_t K c t n) fun r => (r.1.length : Int) ≤ n ∧ (∀ e ∈ r.1, CSz e.2) ∧ x_cg r.2.1 := by
 unfold x_t x_t.b
 rw [w64 (n := n + 1) (by omega) (by omega)]
 refine tb (x_y h _ (by omega)) fun v1 g1 => ?_
 refine l5_ (L := x_t.l0 K c t n) (fun _ _ _ _ _ _ => rfl) (fun m _ q v x y => v = v1 ∧ (∃ i : Nat, x = i ∧ (i : Int) + m = v1.1 ∧ q.length = i) ∧ x_cg y.1 ∧ ∀ z ∈ q, CSz z.2) (fun m t' q v x y L' hi kk => ?_) (m := v1.1.toNat) (by omega) ⟨rfl, ⟨0, rfl, by omega, rfl⟩, g1.2.2, fun z hz => by simp at hz⟩
 obtain ⟨rfl, ⟨i, rfl, hm, hl⟩, hy, hq⟩ := hi
 unfold x_t.l0b
 refine ti (fun a => ?_) fun a => tr ⟨by show (q.length : Int) ≤ n; omega, hq, hy⟩
 rw [w64 (n := (i : Int) + 1) (by omega) (by omega)]
 refine tb (x_y hy 2 (by decide)) fun v2 g2 => tb (x_e4 g2.2.2) fun v3 g3 => tc (by show _ ≤ 70368744177664; (try dsimp only); (try simp only [ll_]); omega) (kk (m - 1) _ _ _ _ _ (by omega) ⟨rfl, ⟨i + 1, by push_cast; rfl, by omega, by rw [length_append, length_singleton, hl]⟩, g3.2, fun z hz => ?_⟩)
 rw [mem_append, mem_singleton] at hz
 rcases hz with hz | rfl
 ·exact hq z hz
 ·exact g3.1
theorem x_3g (hK : 2097152 ≤ K) {c : x_c} (h : x_cg c) : Tot (x_iq K c) fun r => ((0 ≤ r.1.1 ∧ r.1.1 ≤ 2) ∧ r.1.2.2.length ≤ 6) ∧ x_cg r.2.1 := by
 unfold x_iq
 refine tb (x_y h 3 (by decide)) fun v1 g1 => tb (x_y g1.2.2 2 (by decide)) fun v2 g2 => tb (x_iv hK g2.2.2 _ 6 (by decide)) fun v3 g3 => tr ⟨⟨⟨g1.1, by show v1.1 ≤ 2; omega⟩, by show v3.1.length ≤ 6; omega⟩, g3.2.2⟩
theorem x_ze {c : x_c} (h : x_cg c) (x : TCmd) : Tot (x_mz c x) fun r => x_cg r.2.1 := by
 unfold x_mz
 refine tb (x_y h 14 (by decide)) fun v1 g1 => ?_
 have pk : ∀ l : List Int, 0 < l.length → Tot (x_p v1.2.1 l) fun r => x_cg r.2.1 := fun l hl => (x_ag g1.2.2 l hl).mono fun r g => g.2
 exact ti (fun _ => tb (pk _ (by decide)) fun v g => tr g) fun _ => ti (fun _ => tb (pk _ (by decide)) fun v g => tr g) fun _ => ti (fun _ => tb (pk _ (by decide)) fun v g => tr g) fun _ => ti (fun _ => tb (pk _ (by decide)) fun v g => tr g) fun _ => ti (fun _ => tb (x_y3 g1.2.2 _ (by decide)) fun v g => tr g.2) fun _ => tr g1.2.2
def LTx (l : TLog) : Prop := (-9223372036854775808 ≤ l.1 ∧ l.1 ≤ 1000) ∧ l.2.2.length ≤ 1000
theorem t_l8Draw (hK : 2097152 ≤ K) {c : x_c} (h : x_cg c) : Tot (x_za K c) fun r => LTx r.1 ∧ x_cg r.2.1 := by
 unfold x_za
 refine tb (x_3g hK h) fun v1 g1 => tb (x_y g1.2 14 (by decide)) fun v2 g2 => ?_
 have hb := g1.1.1
 have hl := g1.1.2
 have lt : LTx v1.1 := ⟨by omega, by omega⟩
 refine ti (fun _ => tb (x_ag g2.2.2 _ (by decide)) fun v3 g3 => tr ⟨⟨?_, lt.2⟩, g3.2⟩) fun _ => ti (fun _ => tb (x_ag g2.2.2 _ (by decide)) fun v3 g3 => tr ⟨lt, g3.2⟩) fun _ => ti (fun _ => ?_) fun _ => tr ⟨lt, g2.2.2⟩
 ·have e := g3.1
  simp only [mem_cons, List.not_mem_nil, or_false] at e
  show -9223372036854775808 ≤ v3.1 ∧ v3.1 ≤ 1000
  omega
 ·refine tb (x_y g2.2.2 5 (by decide)) fun v5 g5 => tb (x_e4 g5.2.2) fun v6 g6 => tb (x_ze g6.2 _) fun v7 g7 => tc (by show _ ≤ 70368744177664; (try dsimp only); (try simp only [ll_]); omega) (tr ⟨⟨lt.1, ?_⟩, g7⟩)
  show (v1.1.2.2 ++ [_]).length ≤ 1000
  rw [length_append, length_singleton]; omega
theorem x_l2 (hK : 2097152 ≤ K) {c : x_c} (h : x_cg c) : Tot (x_fe K c) fun r => SOk r.1 ∧ KW 200 r.1 r.2.1 ∧ x_cg r.2.2.1 := by
 unfold x_fe
 exact tb (x_ig h) fun v1 g1 => tb (x_ub hK g1.2 14 (by decide)) fun v2 g2 => tb (x_8i hK _ g1.1 _ g2.1 g2.2.1) fun v3 g3 => tr ⟨g1.1, g3, g2.2.2⟩
theorem t_l1Draw {c : x_c} (h : x_cg c) : Tot (x_yv c) fun r => x_cg r.2.1 := by
 unfold x_yv
 refine tb (x_ig h) fun v1 g1 => tb (x_y g1.2 12 (by decide)) fun v2 g2 => ?_
 have pk : ∀ l : List Int, 0 < l.length → Tot (x_p v2.2.1 l) fun r => x_cg r.2.1 := fun l hl => (x_ag g2.2.2 l hl).mono fun r g => g.2
 exact ti (fun _ => tb (pk _ (by decide)) fun v g => tr g) fun _ => ti (fun _ => tb (pk _ (by decide)) fun v g => tr g) fun _ => ti (fun _ => tb (pk _ (by decide)) fun v g => tr g) fun _ => ti (fun _ => tb (pk _ (by decide)) fun v g => tr g) fun _ => tr g2.2.2
theorem x_3y (hK : 2097152 ≤ K) {c : x_c} (h : x_cg c) : Tot (x_5 K c) fun r => r.1.2.2.2.2.length ≤ 5 ∧ x_cg r.2.1 := by
 unfold x_5 x_5.b
 refine tb (x_y h 3 (by decide)) fun v1 g1 => tb (x_y g1.2.2 4 (by decide)) fun v2 g2 => ?_
 refine l1_ (L := fun n (q : Int × (Int × x_c × Unit) × x_v) => x_5.l0 K c n q.1 q.2.1 q.2.2.1 q.2.2.2.1 q.2.2.2.2.1 q.2.2.2.2.2.1 q.2.2.2.2.2.2) (b := fun L' q => x_5.l0b K c (fun a b d e f g i => L' (a, b, d, e, f, g, i)) q.1 q.2.1 q.2.2.1 q.2.2.2.1 q.2.2.2.2.1 q.2.2.2.2.2.1 q.2.2.2.2.2.2)
  (fun _ _ => rfl) (fun m q => (∃ i : Nat, q.1 = i ∧ i + m = 8) ∧ x_cg q.2.1.2.1 ∧ q.2.2.2.2.2.2.length ≤ 5) (fun m q L' hi kk => ?_) (x := (0, v2, v1.1, v2.1, 0, -1, [])) (m := 8) (by omega) ⟨⟨0, rfl, rfl⟩, g2.2.2, by show (0 : Nat) ≤ 5; decide⟩
 obtain ⟨x, v, a, b, d, e, l⟩ := q
 obtain ⟨⟨i, hx, hm⟩, hv, hl⟩ := hi
 simp only at hx hv hl
 subst hx
 unfold x_5.l0b
 simp only
 refine tb (x_y hv 8 (by decide)) fun v3 g3 => ti (fun a1 => ?_) fun _ => tr ⟨hl, g3.2.2⟩
 rw [w64 (n := (i : Int) + 1) (by omega) (by omega)]
 refine tb (x_y g3.2.2 9 (by decide)) fun v4 g4 => ti (fun _ => ?_) fun _ => ?_
 ·refine tb (x_y g4.2.2 3 (by decide)) fun v5 g5 => ?_
  rw [w64 (n := 1 + v5.1) (by omega) (by omega)]
  exact tb (x_v9 hK _ hl _ (by omega) _ _ _) fun v6 g6 => kk (m - 1) ((i : Int) + 1, v5, v6.1) (by omega) ⟨⟨i + 1, by push_cast; rfl, by omega⟩, g5.2.2, g6⟩
 ·refine tb (x_y g4.2.2 3 (by decide)) fun v5 g5 => ?_
  rw [w64 (n := 1 + v5.1) (by omega) (by omega)]
  exact tb (x_v9 hK _ hl _ (by omega) _ _ _) fun v6 g6 => kk (m - 1) ((i : Int) + 1, v5, v6.1) (by omega) ⟨⟨i + 1, by push_cast; rfl, by omega⟩, g5.2.2, g6⟩
theorem t_l4Draw (hK : 2097152 ≤ K) {c : x_c} (h : x_cg c) : Tot (x_yx K c) fun r => x_cg r.2.1 := by
 unfold x_yx
 refine tb (x_3y hK h) fun v1 g1 => tb (x_y g1.2 12 (by decide)) fun v2 g2 => ?_
 have hm := g1.1
 have pk : ∀ l : List Int, 0 < l.length → Tot (x_p v2.2.1 l) fun r => x_cg r.2.1 := fun l hl => (x_ag g2.2.2 l hl).mono fun r g => g.2
 exact ti (fun _ => tb (pk _ (by decide)) fun v g => tr g) fun _ => ti (fun _ => tb (pk _ (by decide)) fun v g => tr g) fun _ => ti (fun _ => tb (x_y g2.2.2 9 (by decide)) fun v5 g5 => tb (x_y g5.2.2 9 (by decide)) fun v6 g6 => tc (by show _ ≤ 70368744177664; (try dsimp only); (try simp only [ll_]); omega) (tr g6.2.2)) fun _ => ti (fun _ => tb (pk _ (by decide)) fun v g => tr g) fun _ => tr g2.2.2
theorem t_l6Draw (hK : 2097152 ≤ K) {c : x_c} (h : x_cg c) : Tot (x_zg K c) fun r => x_cg r.2.2.1 := by
 unfold x_zg
 refine tb (x_l2 hK h) fun v1 g1 => tb (x_y g1.2.2 16 (by decide)) fun v2 g2 => ?_
 have hr := g1.2.1.2.1
 have hs := g1.1.1
 have hg := g1.2.1.2.2.1
 have hd := g1.2.1.2.2.2.1
 have hl := g1.2.1.2.2.2.2.1
 have hm := g1.2.1.ms.1
 have pk : ∀ l : List Int, 0 < l.length → Tot (x_p v2.2.1 l) fun r => x_cg r.2.1 := fun l hl => (x_ag g2.2.2 l hl).mono fun r g => g.2
 refine ti (fun _ => tb (t_l1Draw g2.2.2) fun v g => tr g) fun _ => ti (fun _ => tb (x_ac1 hK g2.2.2) fun v g => tc (by omega) (tr g.2)) fun _ => ti (fun _ => tb (t_l4Draw hK g2.2.2) fun v g => tc (by show _ ≤ 70368744177664; (try dsimp only); (try simp only [ll_]); omega) (tr g)) fun _ => ti (fun _ => tb (x_ah9 hK g2.2.2) fun v g => tc (by omega) (tr g.2)) fun _ => ti (fun _ => tb (pk _ (by decide)) fun v g => tc (by omega) (tr g)) fun _ => ti (fun _ => tb (x_y g2.2.2 12 (by decide)) fun v8 g8 => tb (x_ag g8.2.2 _ (by decide)) fun v9 g9 => tc (by omega) (tr g9.2)) fun _ => ti (fun _ => tb (pk _ (by decide)) fun v g => tr g) fun _ => tr g2.2.2
def HTx (h : x_ff) : Prop := LTx h.2.2.1 ∧ -1 ≤ h.1 ∧ h.1 ≤ 301
theorem LOk.tx {l : TLog} (h : LOk l) : LTx l := ⟨by have := h.1; omega, by have := h.1; have := h.2.2.1; omega⟩
theorem t_l11Draw (hK : 2097152 ≤ K) {c : x_c} (h : x_cg c) : Tot (x_s3 K c) fun r => HTx r.2.1 ∧ x_cg r.2.2.1 := by
 unfold x_s3
 refine tb (x_05 hK h) fun v1 g1 => tb (x_y g1.2 14 (by decide)) fun v2 g2 => ?_
 have ht := g1.1.1
 have ok : HTx v1.2.1 := ⟨g1.1.2.2.1.tx, by omega, by omega⟩
 refine ti (fun _ => tb (x_ag g2.2.2 _ (by decide)) fun v3 g3 => tr ⟨⟨ok.1, ?_⟩, g3.2⟩) fun _ => ti (fun _ => tb (x_ag g2.2.2 _ (by decide)) fun v3 g3 => tr ⟨ok, g3.2⟩) fun _ => ti (fun _ => tb (t_l8Draw hK g2.2.2) fun v g => tr ⟨⟨g.1, ok.2⟩, g.2⟩) fun _ => ti (fun _ => tb (t_l6Draw hK g2.2.2) fun v g => tr ⟨ok, g⟩) fun _ => tr ⟨ok, g2.2.2⟩
 have e := g3.1
 simp only [mem_cons, List.not_mem_nil, or_false] at e
 show -1 ≤ v3.1 ∧ v3.1 ≤ 301
 omega
theorem x_20 (hK : 2097152 ≤ K) {c : x_c} (h : x_cg c) : Tot (x_ij K c) fun r => EsSz r.1.2.2.2.2.1 ∧ x_cg r.2.1 := by
 unfold x_ij
 refine tb (x_y h 4 (by decide)) fun v1 g1 => ti (fun _ => ?_) fun _ => ti (fun _ => ?_) fun _ => ?_
 ·exact tb (x_y g1.2.2 6 (by decide)) fun v2 g2 => tb (x_y g2.2.2 4 (by decide)) fun v3 g3 => tr ⟨EsSz.nil, g3.2.2⟩
 ·exact tb (x_l2 hK g1.2.2) fun v4 g4 => tb (x_y g4.2.2 3 (by decide)) fun v5 g5 => tb (x_y g5.2.2 5 (by decide)) fun v6 g6 => tb (x_pj hK _ _ g4.2.1 (by decide)) fun v7 _ => tr ⟨EsSz.nil, g6.2.2⟩
 ·exact tb (x_y g1.2.2 2 (by decide)) fun v8 g8 => tb (x_y g8.2.2 3 (by decide)) fun v9 g9 => tb (x_iv hK g9.2.2 _ 4 (by decide)) fun v10 g10 => tr ⟨⟨by show v10.1.length < _; have := g10.1; omega, g10.2.1⟩, g10.2.2⟩
theorem x_1q (hK : 2097152 ≤ K) {c : x_c} (h : x_cg c) : Tot (x_9 K c) fun r => r.1.length ≤ 200000 ∧ x_cg r.2.1 := by
 unfold x_9 x_9.b
 refine l3_ (L := x_9.l0 K c) (fun _ _ _ _ => rfl) (fun m q x y => (∃ i : Nat, x = i ∧ i + m = 4 ∧ q.length ≤ 34400 * i) ∧ x_cg y) (fun m q x y L' hi kk => ?_) (m := 4) (by omega) ⟨⟨0, rfl, rfl, Nat.le_refl _⟩, h⟩
 obtain ⟨⟨i, rfl, hm, hq⟩, hy⟩ := hi
 unfold x_9.l0b
 refine tb (x_y hy 4 (by decide)) fun v1 g1 => ti (fun a => ?_) fun _ => tr ⟨by show q.length ≤ _; omega, g1.2.2⟩
 rw [w64 (n := (i : Int) + 1) (by omega) (by omega)]
 refine tb (x_20 hK g1.2.2) fun v2 g2 => tb (x_jy hK _ g2.1) fun v3 g3 => ?_
 have g3l := g3.2.2.2
 exact tc (by show _ ≤ 70368744177664; (try dsimp only); (try simp only [ll_]); omega) (kk (m - 1) _ _ _ (by omega) ⟨⟨i + 1, by push_cast; rfl, by omega, by rw [length_append]; omega⟩, g2.2⟩)
theorem t_l10Draw (hK : 2097152 ≤ K) {c : x_c} (h : x_cg c) : Tot (x_sr K c) fun r => x_cg r.2.1 := by
 unfold x_sr
 refine tb (x_1q hK h) fun v1 g1 => ?_
 have hl := g1.1
 rw [w64 (n := ((v1.1.length : Nat) : Int) + 1) (by omega) (by omega)]
 refine tb (x_y g1.2 _ (by omega)) fun v2 g2 => tb (x_y g2.2.2 14 (by decide)) fun v3 g3 => ti (fun _ => tb (x_ag g3.2.2 _ (by show (0 : Nat) < 2; decide)) fun v g => tr g.2) fun _ => ti (fun _ => tb (x_y g3.2.2 2 (by decide)) fun v5 g5 => ?_) fun _ => tr g3.2.2
 rw [w64 (n := 80000 + v5.1) (by omega) (by omega)]
 exact tc rfl (tc (by omega) (tc (by show _ ≤ 70368744177664; (try dsimp only); (try simp only [ll_]); omega) (tr g5.2.2)))
theorem x_t4 (hK : 2097152 ≤ K) {c : x_c} (h : x_cg c) : Tot (x_cr K c) fun r => x_cg r.2.1 := by
 unfold x_cr
 refine tb (x_y h 5 (by decide)) fun v1 g1 => tb (x_y g1.2.2 3 (by decide)) fun v2 g2 => tb (x_y g2.2.2 3 (by decide)) fun v3 g3 => tb (x_y g3.2.2 4 (by decide)) fun v4 g4 => tb (x_y g4.2.2 5 (by decide)) fun v5 g5 => tb (x_y g5.2.2 3 (by decide)) fun v6 g6 => tb (x_y g6.2.2 4 (by decide)) fun v7 g7 => tb (x_tk g7.2.2 _) fun v8 g8 => ?_
 have j : ∀ (u : x_c × Unit) l, x_cg u.1 → Tot (x_cr.j0 K v1 u v2 v3 v4 v5 v6 v7 l v8) fun r => x_cg r.2.1 := fun u l hu => by
  unfold x_cr.j0
  exact ti (fun _ => tb (x_l2 hK hu) fun v12 g12 => tb (x_pj hK _ _ g12.2.1 (by decide)) fun v13 _ => tr g12.2.2) fun _ => tr hu
 exact ti (fun _ => tb (x_iv hK g8 _ 3 (by decide)) fun v9 g9 => j _ _ g9.2.2) fun _ => j _ _ g8
def PTx (n : x_bt) : Prop := HTx n.2.1 ∧ (-1 ≤ n.2.2.2.2.2.2.1 ∧ n.2.2.2.2.2.2.1 ≤ 300) ∧ n.2.2.2.2.2.2.2.2.2.length ≤ 41
theorem NI.tx {p : x_n} {s : Int} {n : x_bt} (h : NI p s n) : PTx n := by
 have h1 := h.2.1
 have hb := h1.2.2.1.1
 have ht := h1.1
 have hc := h.2.2.2.1
 exact ⟨⟨h1.2.2.1.tx, by omega, by omega⟩, by omega, by have := h.2.2.2.2.2.2.1; omega⟩
theorem x_6t (hK : 2097152 ≤ K) {c : x_c} (h : x_cg c) : Tot (x_p2 K c) fun r => PTx r.2.1 ∧ x_cg r.2.2.2.1 := by
 unfold x_p2
 refine tb (x_pa hK h) fun v1 g1 => ?_
 have hs := g1.1.2.2.1
 have hsz := g1.1.2.1
 refine ti (fun a => by omega) fun _ => tb (x_y g1.2 _ (by omega)) fun v2 g2 => tc (by omega) (tc (by omega) ?_)
 have hn := g1.1.at (i := Int.toNat v2.1) (by omega)
 refine tv (x_ft hK _ hn.nsz) (tb (x_y g2.2.2 18 (by decide)) fun v4 g4 => ?_)
 have ok := hn.tx
 have hnx := hn.2.2.1.2.1
 have hhd := hn.2.2.2.2.2.2.1
 have pk : ∀ l : List Int, 0 < l.length → Tot (x_p v4.2.1 l) fun r => x_cg r.2.1 := fun l hl => (x_ag g4.2.2 l hl).mono fun r g => g.2
 refine ti (fun _ => tb (pk _ (by decide)) fun v g => tr ⟨ok, g⟩) fun _ => ti (fun _ => tb (t_l11Draw hK g4.2.2) fun v g => tr ⟨⟨g.1, ok.2⟩, g.2⟩) fun _ => ti (fun _ => tb (x_ag g4.2.2 _ (by decide)) fun v g => tr ⟨⟨ok.1, ?_, ok.2.2⟩, g.2⟩) fun _ => ti (fun _ => tb (pk _ (by decide)) fun v g => tc (by show (0 : Int) < (((v1.1.2.2.1.getD (Int.toNat v2.1) x_ci).2.2.2.2.1.length : Nat) : Int); omega) (tr ⟨ok, g⟩)) fun _ => ti (fun _ => tb (t_l10Draw hK g4.2.2) fun v g => tr ⟨ok, g⟩) fun _ => ti (fun _ => tb (x_y g4.2.2 5 (by decide)) fun v g => tr ⟨ok, g.2.2⟩) fun _ => ti (fun _ => tb (x_t4 hK g4.2.2) fun v g => tc (by show _ ≤ 70368744177664; (try dsimp only); (try simp only [ll_]); omega) (tr ⟨⟨ok.1, ok.2.1, ?_⟩, g⟩)) fun _ => tr ⟨ok, g4.2.2⟩
 ·have e := g.1
  simp only [mem_cons, List.not_mem_nil, or_false] at e
  show -1 ≤ v.1 ∧ v.1 ≤ 300
  omega
 ·show ((v1.1.2.2.1.getD (Int.toNat v2.1) x_ci).2.2.2.2.2.2.2.2.2 ++ [_]).length ≤ 41
  rw [length_append, length_singleton]; omega
theorem x_zj (hK : 2097152 ≤ K) (b : List Int) (h : b.length ≤ 2000000) : Tot (x_g9 K b) fun r => PTx r.1 := by
 unfold x_g9
 exact tb (x_3w hK b h) fun v1 g1 => tb (x_6t hK g1) fun v2 g2 => tr g2.1
def WTx (w : x_r) : Prop := w.2.2.1.length ≤ 5 ∧ (∀ n ∈ w.2.2.1, PTx n) ∧ w.2.2.2.1.length ≤ 41 ∧ w.2.2.2.2.2.2.1.length ≤ 301 ∧ w.2.2.2.2.2.2.2.length ≤ 301
theorem GI.tx {w : x_r} (h : GI w) : WTx w := by
 obtain ⟨h1, h2, h3, h4, h5, h6, h7, h8, h9⟩ := h
 exact ⟨by omega, fun n hn => (h4 n hn).tx, by omega, by omega, by omega⟩
theorem t_l15Draw (hK : 2097152 ≤ K) {c : x_c} (h : x_cg c) : Tot (x_tb K c) fun r => WTx r.1 := by
 unfold x_tb
 refine tb (x_pa hK h) fun v1 g1 => tb (x_y g1.2 18 (by decide)) fun v2 g2 => ?_
 have ok := g1.1.tx
 obtain ⟨⟨h1, h2, h3, h4, h5, h6, h7, h8, h9⟩, _⟩ := g1
 have h51 := h5.1
 have h61 := h6.1
 obtain ⟨o1, o2, o3, o4, o5⟩ := ok
 refine ti (fun _ => tb (x_y g2.2.2 7 (by decide)) fun v g => tr ⟨o1, o2, o3, o4, o5⟩) fun _ => ti (fun _ => tb (x_t4 hK g2.2.2) fun v g => tc (by show _ ≤ 70368744177664; (try dsimp only); (try simp only [ll_]); omega) (tr ⟨o1, o2, ?_, o4, o5⟩)) fun _ => ti (fun _ => ?_) fun _ => ti (fun _ => tb (x_e4 g2.2.2) fun v8 g8 => tb (x_ze g8.2 _) fun v9 g9 => tc (by omega) (tr ⟨o1, o2, o3, o4, o5⟩)) fun _ => ti (fun _ => tb (x_e4 g2.2.2) fun v8 g8 => tb (x_ze g8.2 _) fun v9 g9 => tc (by show _ ≤ 70368744177664; (try dsimp only); (try simp only [ll_]); omega) (tr ⟨o1, o2, o3, o4, ?_⟩)) fun _ => ti (fun _ => tb (x_6t hK g2.2.2) fun v g => tc (by omega) (tr ⟨?_, fun n hn => ?_, o3, o4, o5⟩)) fun _ => ti (fun _ => tb (x_ag g2.2.2 _ (by decide)) fun v g => tc (by omega) (tr ⟨o1, o2, o3, o4, o5⟩)) fun _ => tr ⟨o1, o2, o3, o4, o5⟩
 ·show (v1.1.2.2.2.1 ++ [_]).length ≤ 41
  rw [length_append, length_singleton]; omega
 ·refine tb (x_y g2.2.2 5 (by decide)) fun v5 g5 => tb (x_y g5.2.2 4 (by decide)) fun v6 g6 => tb (x_y g6.2.2 9 (by decide)) fun v7 g7 => tc (by show _ ≤ 70368744177664; (try dsimp only); (try simp only [ll_]); omega) (tr ⟨o1, o2, o3, ?_, o5⟩)
  show (v1.1.2.2.2.2.2.2.1 ++ [_]).length ≤ 301
  rw [length_append, length_singleton]; omega
 ·show (v1.1.2.2.2.2.2.2.2 ++ [_]).length ≤ 301
  rw [length_append, length_singleton]; omega
 ·show (v1.1.2.2.1.set 0 _).length ≤ 5
  rw [length_set]; exact o1
 ·rcases x_aci hn with hn | rfl
  ·exact o2 n hn
  ·exact g.1
theorem x_w4 (hK : 2097152 ≤ K) (b : List Int) (h : b.length ≤ 2000000) : Tot (x_gp K b) fun r => WTx r.1 := by
 unfold x_gp
 exact tb (x_3w hK b h) fun v1 g1 => tb (t_l15Draw hK g1) fun v2 g2 => tr g2
theorem x_2r (K : Nat) (a0 : Int) : ∀ (k m : Nat) (q0 : Int) (q1 : ByteArray), k < m → q0.natAbs < 10 ^ k → -9223372036854775808 ≤ q0 → q0 ≤ 9223372036854775807 → q1.size + k ≤ 1000 →
  x_al.l0 K a0 m q0 q1 = some (⟨((if a0 < 0 then [45] else []) ++ (digs q0.natAbs ++ q1.data.toList)).toArray⟩, ()) := by
 have fin : ∀ (m : Nat) (q1 : ByteArray), 0 < m → q1.size ≤ 1000 → x_al.l0 K a0 m 0 q1 = some (⟨((if a0 < 0 then [45] else []) ++ (digs 0 ++ q1.data.toList)).toArray⟩, ()) := by
  intro m q1 hm hq
  obtain ⟨m, rfl⟩ : ∃ x, m = x + 1 := ⟨m - 1, by omega⟩
  show x_al.l0b K a0 (x_al.l0 K a0 m) 0 q1 = _
  unfold x_al.l0b
  rw [bif_nf rfl]
  by_cases ha : a0 < 0
  ·rw [x_cy ha, x_b6 (by rw [x_bu]; simp; omega), if_pos ha]; rfl
  ·rw [x_rz ha, if_neg ha]; rfl
 intro k
 induction k with
 | zero =>
  intro m q0 q1 hm h _ _ hq
  have h0 : q0 = 0 := by simp at h; omega
  subst h0
  exact fin m q1 hm (by omega)
 | succ k ih =>
  intro m q0 q1 hm h hb0 hb1 hq
  by_cases h0 : q0 = 0
  ·subst h0
   exact fin m q1 (by omega) (by omega)
  obtain ⟨m, rfl⟩ : ∃ x, m = x + 1 := ⟨m - 1, by omega⟩
  show x_al.l0b K a0 (x_al.l0 K a0 m) q0 q1 = _
  unfold x_al.l0b
  rw [bif_nt h0]
  have hlt : q0.natAbs / 10 < 10 ^ k := by rw [Nat.pow_succ] at h; omega
  have hd : (Int.tdiv q0 10).natAbs = q0.natAbs / 10 := by rw [Int.natAbs_tdiv]; rfl
  have hw : IntKind.i64.wrap (Int.tdiv q0 10) = Int.tdiv q0 10 := w64 (by omega) (by omega)
  have hm0 := Int.tmod_add_mul_tdiv q0 10
  have hm2 : (Int.tmod q0 10).natAbs = q0.natAbs % 10 := by rw [Int.natAbs_tmod]; rfl
  have hsz : ∀ c, (x_wv [c]).size = 1 := fun c => by rw [← x_c6, x_u0]; rfl
  have key : ∀ c : Int, c = ((48 + q0.natAbs % 10 : Nat) : Int) → (bif sfit (x_wv [c]) q1 then x_al.l0 K a0 m (IntKind.i64.wrap (Int.tdiv q0 10)) (sapp (x_wv [c]) q1) else none) = some (⟨((if a0 < 0 then [45] else []) ++ (digs q0.natAbs ++ q1.data.toList)).toArray⟩, ()) := by
   intro c hc
   subst hc
   rw [x_b6 (by rw [hsz]; omega), hw, ih _ _ _ (by omega) (by omega) (by omega) (by omega) (by rw [x_av, hsz]; omega), hd, x_s7, x_u0]
   have : digs q0.natAbs = digs (q0.natAbs / 10) ++ [UInt8.ofNat (48 + q0.natAbs % 10)] := x_8k (by omega)
   rw [this, List.map_cons, List.map_nil, Int.toNat_natCast, List.append_assoc]
  by_cases hn : Int.tmod q0 10 < 0
  ·rw [x_cy hn]
   refine key _ ?_
   rw [w64 (n := 0 - Int.tmod q0 10) (by omega) (by omega), w64 (by omega) (by omega), w8 (by omega) (by omega)]
   omega
  ·rw [x_rz hn]
   refine key _ ?_
   rw [w64 (n := 48 + Int.tmod q0 10) (by omega) (by omega), w8 (by omega) (by omega)]
   omega
theorem x_cz {K : Nat} (hK : 100 ≤ K) {n : Int} (h0 : -9223372036854775808 ≤ n) (h1 : n ≤ 9223372036854775807) : x_al K n = some (x_4l n, ()) := by
 unfold x_al x_al.b
 by_cases h : n = 0
 ·subst h
  rw [x_cy rfl]
  refine congrArg some (Prod.ext (x_aah ?_) rfl)
  rw [x_ux, x_x6]
  simp [Lib.itoa, Lib.decDigits]
 ·rw [x_rz h, x_2r K n 19 K n ByteArray.empty (by omega) (by omega) h0 h1 (by decide)]
  refine congrArg some (Prod.ext (x_aah ?_) rfl)
  rw [x_ux, x_7j n h]
  show (if n < 0 then [45] else []) ++ (digs n.natAbs ++ []) = _
  rw [List.append_nil]
  split <;> rfl
theorem x_df {n : Int} (h0 : -9223372036854775808 ≤ n) (h1 : n ≤ 9223372036854775807) : x_ch n = some (x_4l n, ()) := by
 unfold x_ch
 rw [x_aw (x_af6 h0 h1)]
namespace XRt
def itemT (x : x_gh) : List UInt8 := 32 :: (Lib.itoa x.1 ++ (58 :: 60 :: (x.2.1.data.toList ++ [62])))
def need (l : List x_gh) : Nat := (l.map fun x => 30 + x.2.1.data.toList.length).sum
theorem s_loop {K : Nat} (hK : 2097152 ≤ K) (a : TRow) (hw : wfE (.sl x_ou) a.2.2) (hn : a.2.2.length ≤ 1048576) : ∀ (d i : Nat) (q : List UInt8) (n : Nat), i + d = a.2.2.length → d < n → q.length + need (a.2.2.drop i) ≤ 4611686018427387904 →
  x_a5.l0 K a n (bs q) (i : Int) = some (bs (q ++ (a.2.2.drop i).flatMap itemT), ()) := by
 intro d
 induction d with
 | zero =>
  intro i q n hi hd hq
  obtain ⟨n, rfl⟩ : ∃ m, n = m + 1 := ⟨n - 1, by omega⟩
  show x_a5.l0b K a (x_a5.l0 K a n) (bs q) (i : Int) = _
  unfold x_a5.l0b
  rw [x_rz (by omega), List.drop_of_length_le (by omega), List.flatMap_nil, List.append_nil]
 | succ d ih =>
  intro i q n hi hd hq
  obtain ⟨n, rfl⟩ : ∃ m, n = m + 1 := ⟨n - 1, by omega⟩
  have hlt : i < a.2.2.length := by omega
  have hm := List.getElem_mem hlt
  rw [List.drop_eq_getElem_cons hlt] at hq ⊢
  simp only [need, List.map_cons, List.sum_cons] at hq
  obtain ⟨hb, _⟩ := hw.2 _ hm
  have hd1 : x_al K (a.2.2[i]).1 = some (x_4l (a.2.2[i]).1, ()) := x_cz (K := K) (by omega) hb.1 hb.2
  have hl : (Lib.itoa (a.2.2[i]).1).length ≤ 20 := x_c7 hb.1 hb.2
  show x_a5.l0b K a (x_a5.l0 K a n) (bs q) (i : Int) = _
  unfold x_a5.l0b
  rw [x_cy (by omega), x_bx (by simp only [length_cons, length_nil]; omega), x_cy (by omega), x_cy (by omega), Int.toNat_natCast, x_ep hlt, x_aw hd1]
  simp only [x_hx, x_n2, x_62, x_x6]
  rw [x_bx (by simp only [length_append, length_cons, length_nil]; omega), x_bx (by simp only [length_append, length_cons, length_nil]; omega), x_cy (by omega), x_cy (by omega),
   x_ags (by simp only [length_append, length_cons, length_nil]; omega), x_bx (by simp only [length_append, length_cons, length_nil]; omega), x_er (by omega)]
  rw [ih (i + 1) _ n (by omega) (by omega) (by simp only [need, length_append, length_cons, length_nil]; omega)]
  simp only [List.flatMap_cons, itemT, List.append_assoc, List.cons_append, List.nil_append]
theorem i_loop {K : Nat} (hK : 2097152 ≤ K) (a : TRow) (hw : wfE (.sl x_ou) a.2.2) (hn : a.2.2.length ≤ 1048576) : ∀ (d i : Nat) (q : List UInt8) (n : Nat), i + d = a.2.2.length → d < n → q.length + need (a.2.2.drop i) ≤ 4611686018427387904 →
  x_a7.l0 K a n (bs q) (i : Int) = some (bs (q ++ (a.2.2.drop i).flatMap itemT), ()) := by
 intro d
 induction d with
 | zero =>
  intro i q n hi hd hq
  obtain ⟨n, rfl⟩ : ∃ m, n = m + 1 := ⟨n - 1, by omega⟩
  show x_a7.l0b K a (x_a7.l0 K a n) (bs q) (i : Int) = _
  unfold x_a7.l0b
  rw [x_rz (by omega), List.drop_of_length_le (by omega), List.flatMap_nil, List.append_nil]
 | succ d ih =>
  intro i q n hi hd hq
  obtain ⟨n, rfl⟩ : ∃ m, n = m + 1 := ⟨n - 1, by omega⟩
  have hlt : i < a.2.2.length := by omega
  have hm := List.getElem_mem hlt
  rw [List.drop_eq_getElem_cons hlt] at hq ⊢
  simp only [need, List.map_cons, List.sum_cons] at hq
  obtain ⟨hb, _⟩ := hw.2 _ hm
  have hd1 : x_ch (a.2.2[i]).1 = some (x_4l (a.2.2[i]).1, ()) := x_df hb.1 hb.2
  have hl : (Lib.itoa (a.2.2[i]).1).length ≤ 20 := x_c7 hb.1 hb.2
  show x_a7.l0b K a (x_a7.l0 K a n) (bs q) (i : Int) = _
  unfold x_a7.l0b
  rw [x_cy (by omega), x_cy (by omega), x_cy (by omega), Int.toNat_natCast, x_ep hlt, x_aw hd1]
  simp only [x_hx, x_n2, x_62, x_x6]
  rw [x_bx (by simp only [length_append, length_cons, length_nil]; omega), x_bx (by simp only [length_append, length_cons, length_nil]; omega),
   x_ags (by simp only [length_append, length_cons, length_nil]; omega), x_bx (by simp only [length_append, length_cons, length_nil]; omega), x_bx (by simp only [length_append, length_cons, length_nil]; omega), x_er (by omega)]
  rw [ih (i + 1) _ n (by omega) (by omega) (by simp only [need, length_append, length_cons, length_nil]; omega)]
  simp only [List.flatMap_cons, itemT, List.append_assoc, List.cons_append, List.nil_append]
theorem need_le : ∀ l : List x_gh, need l ≤ 30 * l.length + (l.map (wt x_ou)).sum
 | [] => Nat.le_refl _
 | x :: l => by
  have := need_le l
  have e : wt x_ou x = 0 + (x.2.1.size + (x.2.2.1.size + (0 + 0))) := rfl
  simp only [need, List.map_cons, List.sum_cons, length_cons] at this ⊢
  rw [x_c6]
  omega
theorem x_23 : ∀ l : List x_gh, (∀ x ∈ l, x.2.1.size ≤ 30) → need l ≤ 60 * l.length
 | [], _ => Nat.le_refl _
 | x :: l, h => by
  have := x_23 l fun y hy => h y (List.mem_cons_of_mem _ hy)
  have hx := h x List.mem_cons_self
  simp only [need, List.map_cons, List.sum_cons, length_cons] at this ⊢
  rw [x_c6]
  omega
theorem texts {K : Nat} (hK : 2097152 ≤ K) (a : TRow) (hr : RSmall a) : ∃ s : ByteArray, x_a5 K a = some (s, ()) ∧ x_a7 K a = some (s, ()) := by
 have r1 := hr.1
 have r2 := hr.2.1
 have r3 := hr.2.2.1
 have hn : a.2.2.length ≤ 1048576 := by omega
 have hneed := x_23 a.2.2 fun x hx => (hr.2.2.2 x hx).2.1
 have lo : (-9223372036854775808 : Int) ≤ 0 := by decide
 have hi : (100000 : Int) ≤ 9223372036854775807 := by decide
 have hl : wfE (.sl x_ou) a.2.2 := ⟨by show a.2.2.length ≤ 9223372036854775807; omega, fun x hx => by
  have h := hr.2.2.2 x hx
  exact ⟨⟨Int.le_trans lo h.1.1, Int.le_trans h.1.2 hi⟩, Nat.le_trans h.2.1 (by decide), Nat.le_trans h.2.2.1 (by decide), ⟨Int.le_trans lo h.2.2.2.1.1, Int.le_trans h.2.2.2.1.2 (by decide)⟩, ⟨Int.le_trans lo h.2.2.2.2.1, Int.le_trans h.2.2.2.2.2 hi⟩⟩⟩
 have a1 : -9223372036854775808 ≤ a.1 := by omega
 have a2 : a.1 ≤ 9223372036854775807 := by omega
 have b1 : -9223372036854775808 ≤ a.2.1 := by omega
 have b2 : a.2.1 ≤ 9223372036854775807 := by omega
 have d1 := x_c7 a1 a2
 have d2 := x_c7 b1 b2
 have d3 := x_c7 (n := ((a.2.2.length : Nat) : Int)) (by omega) (by omega)
 have S := fun q hq => s_loop hK a hl hn a.2.2.length 0 q K (by omega) (by omega) hq
 have I := fun q hq => i_loop hK a hl hn a.2.2.length 0 q K (by omega) (by omega) hq
 unfold x_a5 x_a5.b x_a7 x_a7.b
 rw [x_aw (x_cz (K := K) (by omega) a1 a2), x_aw (x_df a1 a2)]
 rw [x_aw (x_cz (K := K) (by omega) b1 b2), x_aw (x_df b1 b2)]
 rw [x_aw (x_cz (K := K) (by omega) (n := ((a.2.2.length : Nat) : Int)) (by omega) (by omega)), x_aw (x_df (n := ((a.2.2.length : Nat) : Int)) (by omega) (by omega))]
 simp only [x_hx, x_n2]
 rw [x_bx (by simp only [length_append, length_cons, length_nil]; omega), x_bx (by simp only [length_append, length_cons, length_nil]; omega)]
 rw [x_bx (by simp only [length_append, length_cons, length_nil]; omega), x_bx (by simp only [length_append, length_cons, length_nil]; omega)]
 rw [x_bx (by simp only [length_append, length_cons, length_nil]; omega), x_bx (by simp only [length_append, length_cons, length_nil]; omega)]
 rw [x_bx (by simp only [length_append, length_cons, length_nil]; omega), x_bx (by simp only [length_append, length_cons, length_nil]; omega)]
 have hz : ∀ q : List UInt8, q.length ≤ 1000 → q.length + need (a.2.2.drop 0) ≤ 4611686018427387904 := fun q hq => by rw [List.drop_zero]; omega
 exact ⟨_, S _ (hz _ (by simp only [length_append, length_cons, length_nil]; omega)), I _ (hz _ (by simp only [length_append, length_cons, length_nil]; omega))⟩
end XRt
namespace XGt
def x_18 : List Int → List Int → List (List UInt8)
 | [], _ => []
 | m :: ms, [] => Lib.itoa m :: x_18 ms []
 | m :: ms, b :: bts => (Lib.itoa m ++ 58 :: Lib.itoa b) :: x_18 ms bts
def tl (r : List (List UInt8)) : List UInt8 := r.flatMap fun x => 32 :: x
def inI (l : List Int) : Prop := ∀ x ∈ l, -9223372036854775808 ≤ x ∧ x ≤ 9223372036854775807
theorem tl_len {r : List (List UInt8)} (h : ∀ x ∈ r, x.length ≤ 50) : (tl r).length ≤ 51 * r.length := by
 induction r with
 | nil => simp [tl]
 | cons x r ih =>
  have h1 := h x (by simp)
  have h2 := ih fun y hy => h y (by simp [hy])
  simp only [tl, List.flatMap_cons, length_append, length_cons] at h2 ⊢
  omega
theorem tl_append (a b : List (List UInt8)) : tl (a ++ b) = tl a ++ tl b := by simp [tl]
theorem x_py (a : List UInt8) (b : List (List UInt8)) : tl (a :: b) = 32 :: (a ++ tl b) := by simp [tl]
theorem join_tl (x : List UInt8) (r : List (List UInt8)) : Lib.join (x :: r) [32] = x ++ tl r := by
 rw [Lib.join_cons]
 simp only [Lib.joinTail, tl, List.flatMap_def]
 rfl
theorem x_04 : ∀ {ms bts : List Int}, inI ms → inI bts → (x_18 ms bts).length = ms.length ∧ ∀ x ∈ x_18 ms bts, x.length ≤ 50
 | [], bts, _, _ => by simp [x_18]
 | m :: ms, [], hm, hb => by
  obtain ⟨k1, k2⟩ := x_04 (ms := ms) (bts := []) (fun x hx => hm x (by simp [hx])) hb
  have := hm m (by simp)
  have hl := x_c7 this.1 this.2
  simp only [x_18, length_cons, mem_cons]
  exact ⟨by omega, fun x hx => by rcases hx with rfl | hx; omega; exact k2 x hx⟩
 | m :: ms, b :: bts, hm, hb => by
  obtain ⟨k1, k2⟩ := x_04 (ms := ms) (bts := bts) (fun x hx => hm x (by simp [hx])) (fun x hx => hb x (by simp [hx]))
  have h1 := hm m (by simp)
  have hl1 := x_c7 h1.1 h1.2
  have h2 := hb b (by simp)
  have hl2 := x_c7 h2.1 h2.2
  simp only [x_18, length_cons, mem_cons]
  exact ⟨by omega, fun x hx => by rcases hx with rfl | hx; simp only [length_append, length_cons]; omega; exact k2 x hx⟩
theorem s_l1 {K : Nat} (hK : 2097152 ≤ K) (a : x_o) (ho : inI a.2.2.2) (hn : a.2.2.2.length ≤ 1048576) : ∀ (d i : Nat) (q : List UInt8) (n : Nat), i + d = a.2.2.2.length → d < n → q.length + 60 * d ≤ 4611686018427387904 →
  x_m.l1 K a n (bs q) (i : Int) = some (bs (q ++ tl ((a.2.2.2.drop i).map Lib.itoa)), ()) := by
 intro d
 induction d with
 | zero =>
  intro i q n hi hd hq
  obtain ⟨n, rfl⟩ : ∃ m, n = m + 1 := ⟨n - 1, by omega⟩
  show x_m.l1b K a (x_m.l1 K a n) (bs q) (i : Int) = _
  unfold x_m.l1b
  rw [x_rz (by omega), List.drop_of_length_le (by omega)]
  simp [tl]
 | succ d ih =>
  intro i q n hi hd hq
  obtain ⟨n, rfl⟩ : ∃ m, n = m + 1 := ⟨n - 1, by omega⟩
  have hlt : i < a.2.2.2.length := by omega
  have hb := ho _ (List.getElem_mem hlt)
  have hl := x_c7 hb.1 hb.2
  show x_m.l1b K a (x_m.l1 K a n) (bs q) (i : Int) = _
  unfold x_m.l1b
  rw [x_cy (by omega), x_bx (by simp only [length_cons, length_nil]; omega), x_cy (by omega), x_cy (by omega), Int.toNat_natCast, x_ep hlt, x_aw (x_cz (K := K) (by omega) hb.1 hb.2)]
  simp only [x_hx, x_n2]
  rw [x_bx (by simp only [length_append, length_cons, length_nil]; omega), x_er (by omega), ih (i + 1) _ n (by omega) (by omega) (by simp only [length_append, length_cons, length_nil]; omega)]
  rw [List.drop_eq_getElem_cons hlt, List.map_cons, x_py]
  simp only [List.append_assoc, List.cons_append, List.nil_append]
theorem s_l0 {K : Nat} (hK : 2097152 ≤ K) (a : x_o) (hm : inI a.2.1) (hbt : inI a.2.2.1) (ho : inI a.2.2.2) (hn : a.2.1.length ≤ 1048576) (hn3 : a.2.2.2.length ≤ 1048576) : ∀ (d i : Nat) (q : List UInt8) (n : Nat), i + d = a.2.1.length → d < n → q.length + 60 * d ≤ 2305843009213693952 →
  x_m.l0 K a n (bs q) (i : Int) = some (bs (q ++ (tl (x_18 (a.2.1.drop i) (a.2.2.1.drop i)) ++ tl ([47] :: a.2.2.2.map Lib.itoa))), ()) := by
 intro d
 induction d with
 | zero =>
  intro i q n hi hd hq
  obtain ⟨n, rfl⟩ : ∃ m, n = m + 1 := ⟨n - 1, by omega⟩
  show x_m.l0b K a (x_m.l0 K a n) (x_m.l1 K a K) (bs q) (i : Int) = _
  unfold x_m.l0b
  rw [x_rz (by omega), x_bx (by simp only [length_cons, length_nil]; omega), x_n2, List.drop_of_length_le (by omega)]
  have e := s_l1 hK a ho hn3 a.2.2.2.length 0 (q ++ [32, 47]) K (by omega) (by omega) (by simp only [length_append, length_cons, length_nil]; omega)
  rw [show (0 : Int) = ((0 : Nat) : Int) from rfl, e, List.drop_zero, x_py]
  simp [x_18, tl]
 | succ d ih =>
  intro i q n hi hd hq
  obtain ⟨n, rfl⟩ : ∃ m, n = m + 1 := ⟨n - 1, by omega⟩
  have hlt : i < a.2.1.length := by omega
  have hb := hm _ (List.getElem_mem hlt)
  have hl := x_c7 hb.1 hb.2
  show x_m.l0b K a (x_m.l0 K a n) (x_m.l1 K a K) (bs q) (i : Int) = _
  unfold x_m.l0b
  rw [x_cy (by omega), x_bx (by simp only [length_cons, length_nil]; omega), x_cy (by omega), x_cy (by omega), Int.toNat_natCast, x_ep hlt, x_aw (x_cz (K := K) (by omega) hb.1 hb.2)]
  simp only [x_hx, x_n2]
  rw [x_bx (by simp only [length_append, length_cons, length_nil]; omega)]
  rw [List.drop_eq_getElem_cons hlt]
  by_cases hc : i < a.2.2.1.length
  ·have hb2 := hbt _ (List.getElem_mem hc)
   have hl2 := x_c7 hb2.1 hb2.2
   rw [x_cy (by omega), x_bx (by simp only [length_append, length_cons, length_nil]; omega), x_cy (by omega), x_cy (by omega), x_ep hc, x_aw (x_cz (K := K) (by omega) hb2.1 hb2.2)]
   simp only [x_hx, x_n2]
   rw [x_bx (by simp only [length_append, length_cons, length_nil]; omega), x_er (by omega), ih (i + 1) _ n (by omega) (by omega) (by simp only [length_append, length_cons, length_nil]; omega)]
   rw [List.drop_eq_getElem_cons hc, x_18, x_py (_ ++ _)]
   simp only [List.append_assoc, List.cons_append, List.nil_append]
  ·rw [x_rz (by omega), x_er (by omega), ih (i + 1) _ n (by omega) (by omega) (by simp only [length_append, length_cons, length_nil]; omega)]
   rw [List.drop_of_length_le (i := i) (l := a.2.2.1) (by omega), List.drop_of_length_le (i := i + 1) (l := a.2.2.1) (by omega), x_18, x_py (Lib.itoa _)]
   simp only [List.append_assoc, List.cons_append, List.nil_append]
theorem i_l1 {K : Nat} (hK : 2097152 ≤ K) (a : x_o) (ho : inI a.2.2.2) (hn : a.2.2.2.length ≤ 1048576) : ∀ (d i : Nat) (q : List (List UInt8)) (n : Nat), i + d = a.2.2.2.length → d < n → q.length + d ≤ 4000000 →
  x_l.l1 K a n (q.map bs) (i : Int) = (lJoin ((q ++ (a.2.2.2.drop i).map Lib.itoa).map bs) (bs [32])).bind fun v => some (v.1, ()) := by
 intro d
 have hg : x_g = 70368744177664 := rfl
 induction d with
 | zero =>
  intro i q n hi hd hq
  obtain ⟨n, rfl⟩ : ∃ m, n = m + 1 := ⟨n - 1, by omega⟩
  show x_l.l1b K a (x_l.l1 K a n) (q.map bs) (i : Int) = _
  unfold x_l.l1b
  rw [x_rz (by omega), List.drop_of_length_le (by omega)]
  simp
 | succ d ih =>
  intro i q n hi hd hq
  obtain ⟨n, rfl⟩ : ∃ m, n = m + 1 := ⟨n - 1, by omega⟩
  have hlt : i < a.2.2.2.length := by omega
  have hb := ho _ (List.getElem_mem hlt)
  show x_l.l1b K a (x_l.l1 K a n) (q.map bs) (i : Int) = _
  unfold x_l.l1b
  rw [x_cy (by omega), x_cy (by omega), x_cy (by omega), Int.toNat_natCast, x_ep hlt, x_aw (x_df hb.1 hb.2), x_cy (by simp only [length_map, length_cons, length_nil]; omega), x_er (by omega)]
  rw [show q.map bs ++ [(x_4l a.2.2.2[i], ()).1] = (q ++ [Lib.itoa a.2.2.2[i]]).map bs by simp [x_hx]]
  rw [ih (i + 1) _ n (by omega) (by omega) (by simp only [length_append, length_cons, length_nil]; omega), List.drop_eq_getElem_cons hlt]
  simp only [List.map_cons, List.append_assoc, List.cons_append, List.nil_append]
theorem i_l0 {K : Nat} (hK : 2097152 ≤ K) (a : x_o) (hm : inI a.2.1) (hbt : inI a.2.2.1) (ho : inI a.2.2.2) (hn : a.2.1.length ≤ 1048576) (hn3 : a.2.2.2.length ≤ 1048576) : ∀ (d i : Nat) (q : List (List UInt8)) (n : Nat), i + d = a.2.1.length → d < n → q.length + d ≤ 2000000 →
  x_l.l0 K a n (q.map bs) (i : Int) = (lJoin ((q ++ (x_18 (a.2.1.drop i) (a.2.2.1.drop i) ++ ([47] :: a.2.2.2.map Lib.itoa))).map bs) (bs [32])).bind fun v => some (v.1, ()) := by
 intro d
 have hg : x_g = 70368744177664 := rfl
 induction d with
 | zero =>
  intro i q n hi hd hq
  obtain ⟨n, rfl⟩ : ∃ m, n = m + 1 := ⟨n - 1, by omega⟩
  show x_l.l0b K a (x_l.l0 K a n) (x_l.l1 K a K) (q.map bs) (i : Int) = _
  unfold x_l.l0b
  rw [x_rz (by omega), x_cy (by simp only [length_map, length_cons, length_nil]; omega), List.drop_of_length_le (by omega)]
  rw [show q.map bs ++ [bs [47]] = (q ++ [[47]]).map bs by simp]
  have e := i_l1 hK a ho hn3 a.2.2.2.length 0 (q ++ [[47]]) K (by omega) (by omega) (by simp only [length_append, length_cons, length_nil]; omega)
  rw [show (0 : Int) = ((0 : Nat) : Int) from rfl, e, List.drop_zero]
  simp only [x_18, List.append_assoc, List.cons_append, List.nil_append]
 | succ d ih =>
  intro i q n hi hd hq
  obtain ⟨n, rfl⟩ : ∃ m, n = m + 1 := ⟨n - 1, by omega⟩
  have hlt : i < a.2.1.length := by omega
  have hb := hm _ (List.getElem_mem hlt)
  have hl := x_c7 hb.1 hb.2
  show x_l.l0b K a (x_l.l0 K a n) (x_l.l1 K a K) (q.map bs) (i : Int) = _
  unfold x_l.l0b
  rw [x_cy (by omega), x_cy (by omega), x_cy (by omega), Int.toNat_natCast, x_ep hlt, x_aw (x_df hb.1 hb.2)]
  rw [List.drop_eq_getElem_cons hlt]
  by_cases hc : i < a.2.2.1.length
  ·have hb2 := hbt _ (List.getElem_mem hc)
   have hl2 := x_c7 hb2.1 hb2.2
   rw [x_cy (by omega), x_cy (by omega), x_cy (by omega), x_ep hc, x_aw (x_df hb2.1 hb2.2)]
   simp only [x_hx, x_n2]
   rw [x_bx (by simp only [length_append, length_cons, length_nil]; omega), x_bx (by simp only [length_append, length_cons, length_nil]; omega), x_cy (by simp only [length_map, length_cons, length_nil]; omega), x_er (by omega)]
   rw [show q.map bs ++ [bs (Lib.itoa a.2.1[i] ++ ([58] ++ Lib.itoa a.2.2.1[i]))] = (q ++ [Lib.itoa a.2.1[i] ++ 58 :: Lib.itoa a.2.2.1[i]]).map bs by simp]
   rw [ih (i + 1) _ n (by omega) (by omega) (by simp only [length_append, length_cons, length_nil]; omega)]
   rw [List.drop_eq_getElem_cons hc, x_18]
   simp only [List.append_assoc, List.cons_append, List.nil_append]
  ·rw [x_rz (by omega), x_cy (by simp only [length_map, length_cons, length_nil]; omega), x_er (by omega)]
   rw [show q.map bs ++ [(x_4l a.2.1[i], ()).1] = (q ++ [Lib.itoa a.2.1[i]]).map bs by simp [x_hx]]
   rw [ih (i + 1) _ n (by omega) (by omega) (by simp only [length_append, length_cons, length_nil]; omega)]
   rw [List.drop_of_length_le (i := i) (l := a.2.2.1) (by omega), List.drop_of_length_le (i := i + 1) (l := a.2.2.1) (by omega), x_18]
   simp only [List.append_assoc, List.cons_append, List.nil_append]
theorem lJoin_ok {q : List (List UInt8)} {sep : List UInt8} (h1 : q.length ≤ 140737488355328) (h2 : (Lib.join q sep).length ≤ 140737488355328) : lJoin (q.map bs) (bs sep) = some (bs (Lib.join q sep), ()) := by
 have e : (q.map bs).map (·.data.toList) = q := by
  rw [List.map_map]
  exact (List.map_congr_left fun x _ => rfl).trans (List.map_id _)
 unfold lJoin
 rw [e, length_map, x_x6, decide_eq_true h1, decide_eq_true h2]
 rfl
theorem texts {K : Nat} (hK : 2097152 ≤ K) (a : x_o) (h : GSmall a) : ∃ s : ByteArray, x_m K a = some (s, ()) ∧ x_l K a = some (s, ()) := by
 obtain ⟨h0, f1, f2, f3, hm, hb, ho⟩ := h
 have a1 : -9223372036854775808 ≤ a.1 := by omega
 have a2 : a.1 ≤ 9223372036854775807 := by omega
 have hm : inI a.2.1 := fun x hx => by have := hm x hx; omega
 have hb : inI a.2.2.1 := fun x hx => by have := hb x hx; omega
 have ho : inI a.2.2.2 := fun x hx => by have := ho x hx; omega
 have d1 := x_c7 a1 a2
 obtain ⟨k1, k2⟩ := x_04 hm hb
 have k3 : ∀ x ∈ a.2.2.2.map Lib.itoa, x.length ≤ 50 := fun x hx => by
  obtain ⟨y, hy, rfl⟩ := List.mem_map.1 hx
  have := x_c7 (ho y hy).1 (ho y hy).2
  omega
 have l1 := tl_len k2
 have l2 := tl_len k3
 rw [length_map] at l2
 have S := s_l0 hK a hm hb ho (by omega) (by omega) a.2.1.length 0 (Lib.itoa a.1) K (by omega) (by omega) (by omega)
 have I := i_l0 hK a hm hb ho (by omega) (by omega) a.2.1.length 0 [Lib.itoa a.1] K (by omega) (by omega) (by simp only [length_cons, length_nil]; omega)
 rw [List.drop_zero, List.drop_zero] at S I
 have hj : Lib.join ([Lib.itoa a.1] ++ (x_18 a.2.1 a.2.2.1 ++ ([47] :: a.2.2.2.map Lib.itoa))) [32] = Lib.itoa a.1 ++ (tl (x_18 a.2.1 a.2.2.1) ++ tl ([47] :: a.2.2.2.map Lib.itoa)) := by
  rw [List.singleton_append, join_tl, tl_append]
 unfold x_m x_m.b x_l x_l.b
 rw [x_aw (x_cz (K := K) (by omega) a1 a2), x_aw (x_df a1 a2)]
 refine ⟨_, S, ?_⟩
 refine I.trans ?_
 rw [x_aw (lJoin_ok (by simp only [length_append, length_cons, length_nil, length_map]; omega) (by
  rw [hj, x_py]
  simp only [length_append, length_cons, length_nil]
  omega)), hj]
end XGt
namespace XAt
theorem texts {K : Nat} (hK : 100 ≤ K) (a : x_a2) (h1 : -9223372036854775808 ≤ a.2.1) (h2 : a.2.1 ≤ 9223372036854775807) (hs : a.2.2.1.size ≤ 2000000) (ht : a.2.2.2.size ≤ 2000000) :
  ∃ s : ByteArray, x_kn K a = some (s, ()) ∧ x_kx a = some (s, ()) := by
 have hd := x_3n h1 h2
 have e1 := x_cz hK h1 h2
 have e2 : x_ch a.2.1 = some (x_4l a.2.1, ()) := by
  unfold x_ch
  rw [x_af6 h1 h2]; rfl
 unfold x_kn x_kx
 by_cases hc : 0 ≤ a.1 ∧ a.1 ≤ 9
 ·have w1 : x_a4 a.1 0 9 = some (true, ()) := by
   unfold x_a4; rw [x_cy (by omega), decide_eq_true hc.2]
  have w2 : x_ku a.1 0 9 = some (true, ()) := by
   unfold x_ku; rw [x_cy (by omega), decide_eq_true hc.2]
  rw [x_aw w1, x_aw w2]
  simp only [cond_true]
  have hx : ∀ i, (([(bs [100, 111, 110, 101]), (bs [97, 103, 97, 105, 110]), (bs [111, 108, 100]), (bs [103, 97, 112]), (bs [102, 101, 110, 99, 101, 100]), (bs [114, 111, 119]), (bs [108, 111, 119]), (bs [101, 110, 100]), (bs [102, 117, 108, 108]), (bs [103, 114, 111, 117, 112])] : List ByteArray).getD i ByteArray.empty).size ≤ 10 := by
   intro i
   rw [List.getD_eq_getElem?_getD]
   rcases i with _ | _ | _ | _ | _ | _ | _ | _ | _ | _ | i <;> first | decide | exact Nat.zero_le _
  generalize hX : ([(bs [100, 111, 110, 101]), (bs [97, 103, 97, 105, 110]), (bs [111, 108, 100]), (bs [103, 97, 112]), (bs [102, 101, 110, 99, 101, 100]), (bs [114, 111, 119]), (bs [108, 111, 119]), (bs [101, 110, 100]), (bs [102, 117, 108, 108]), (bs [103, 114, 111, 117, 112])] : List ByteArray).getD (Int.toNat a.1) ByteArray.empty = X
  have hX' : X.size ≤ 10 := hX ▸ hx _
  rw [x_cy hc.1, x_cy hc.1, x_cy (show a.1 < 10 by omega), x_cy (show a.1 < 10 by omega)]
  apply Exists.intro
  apply And.intro
  ·rw [x_b6 (by simp only [x_bu, length_cons, length_nil]; omega), x_aw e1]
   repeat rw [x_b6 (by simp only [x_av, x_bu, length_cons, length_nil]; omega)]
  ·rw [x_b6 (by simp only [x_bu, length_cons, length_nil]; omega), x_aw e2]
   repeat rw [x_b6 (by simp only [x_av, x_bu, length_cons, length_nil]; omega)]
 ·have w1 : x_a4 a.1 0 9 = some (false, ()) := by
   unfold x_a4
   by_cases h : a.1 ≥ 0
   ·rw [x_cy h, decide_eq_false (by omega)]
   ·rw [x_rz h]
  have w2 : x_ku a.1 0 9 = some (false, ()) := by
   unfold x_ku
   by_cases h : a.1 ≥ 0
   ·rw [x_cy h, decide_eq_false (by omega)]
   ·rw [x_rz h]
  rw [x_aw w1, x_aw w2]
  simp only [cond_false]
  apply Exists.intro
  apply And.intro
  ·rw [x_b6 (by simp only [x_bu, length_cons, length_nil]; omega), x_aw e1]
   repeat rw [x_b6 (by simp only [x_av, x_bu, length_cons, length_nil]; omega)]
  ·rw [x_b6 (by simp only [x_bu, length_cons, length_nil]; omega), x_aw e2]
   repeat rw [x_b6 (by simp only [x_av, x_bu, length_cons, length_nil]; omega)]
end XAt
namespace XWt
def tl (r : List (List UInt8)) : List UInt8 := r.flatMap fun x => 32 :: x
theorem x_py (a : List UInt8) (b : List (List UInt8)) : tl (a :: b) = 32 :: (a ++ tl b) := by simp [tl]
def inI (l : List Int) : Prop := ∀ x ∈ l, -9223372036854775808 ≤ x ∧ x ≤ 9223372036854775807
def vals (a : x_bt) (v : Int) : List Int := [a.2.1.1, v, a.2.2.2.2.2.2.1, a.2.1.2.2.1.1, ((a.2.2.2.2.2.2.2.2.2.length : Nat) : Int)]
theorem s_l0 {K : Nat} (hK : 2097152 ≤ K) (a : x_bt) (v : Int × Int × Unit) (hv : inI (vals a v.1)) : ∀ (d i : Nat) (q : List UInt8) (n : Nat), i + d = 5 → d < n → q.length + 60 * d ≤ 4611686018427387904 →
  x_7.l0 K a n (bs q) v (i : Int) = some (bs (q ++ tl (((vals a v.1).drop i).map Lib.itoa)), ()) := by
 intro d
 induction d with
 | zero =>
  intro i q n hi hd hq
  obtain ⟨n, rfl⟩ : ∃ m, n = m + 1 := ⟨n - 1, by omega⟩
  show x_7.l0b K a (x_7.l0 K a n) (bs q) v (i : Int) = _
  unfold x_7.l0b
  obtain rfl : i = 5 := by omega
  rw [x_rz (by decide)]
  simp [tl, vals]
 | succ d ih =>
  intro i q n hi hd hq
  obtain ⟨n, rfl⟩ : ∃ m, n = m + 1 := ⟨n - 1, by omega⟩
  have hlt : i < (vals a v.1).length := by show i < 5; omega
  have hb := hv _ (List.getElem_mem hlt)
  have hl := x_c7 hb.1 hb.2
  show x_7.l0b K a (x_7.l0 K a n) (bs q) v (i : Int) = _
  unfold x_7.l0b
  have hg : [a.2.1.1, v.1, a.2.2.2.2.2.2.1, a.2.1.2.2.1.1, ((a.2.2.2.2.2.2.2.2.2.length : Nat) : Int)].getD i 0 = (vals a v.1)[i] := x_ep hlt
  rw [x_cy (by omega), x_bx (by simp only [length_cons, length_nil]; omega), x_cy (by omega), x_cy (by omega), Int.toNat_natCast, hg, x_aw (x_cz (K := K) (by omega) hb.1 hb.2)]
  simp only [x_hx, x_n2]
  rw [x_bx (by simp only [length_append, length_cons, length_nil]; omega), x_er (by omega), ih (i + 1) _ n (by omega) (by omega) (by simp only [length_append, length_cons, length_nil]; omega)]
  rw [List.drop_eq_getElem_cons hlt, List.map_cons, x_py]
  simp only [List.append_assoc, List.cons_append, List.nil_append]
theorem i_l0 {K : Nat} (hK : 2097152 ≤ K) (a : x_bt) (v : Int × Unit) (hv : inI (vals a v.1)) : ∀ (d i : Nat) (q : List UInt8) (n : Nat), i + d = 5 → d < n → q.length + 60 * d ≤ 4611686018427387904 →
  x_q.l0 K a n (bs q) v (i : Int) = some (bs (q ++ tl (((vals a v.1).drop i).map Lib.itoa)), ()) := by
 intro d
 induction d with
 | zero =>
  intro i q n hi hd hq
  obtain ⟨n, rfl⟩ : ∃ m, n = m + 1 := ⟨n - 1, by omega⟩
  show x_q.l0b K a (x_q.l0 K a n) (bs q) v (i : Int) = _
  unfold x_q.l0b
  obtain rfl : i = 5 := by omega
  rw [x_rz (by decide)]
  simp [tl, vals]
 | succ d ih =>
  intro i q n hi hd hq
  obtain ⟨n, rfl⟩ : ∃ m, n = m + 1 := ⟨n - 1, by omega⟩
  have hlt : i < (vals a v.1).length := by show i < 5; omega
  have hb := hv _ (List.getElem_mem hlt)
  have hl := x_c7 hb.1 hb.2
  show x_q.l0b K a (x_q.l0 K a n) (bs q) v (i : Int) = _
  unfold x_q.l0b
  have hg : [a.2.1.1, v.1, a.2.2.2.2.2.2.1, a.2.1.2.2.1.1, ((a.2.2.2.2.2.2.2.2.2.length : Nat) : Int)].getD i 0 = (vals a v.1)[i] := x_ep hlt
  rw [x_cy (by omega), x_cy (by omega), x_cy (by omega), Int.toNat_natCast, hg, x_aw (x_df hb.1 hb.2)]
  simp only [x_hx, x_n2]
  rw [x_bx (by simp only [length_append, length_cons, length_nil]; omega), x_bx (by simp only [length_append, length_cons, length_nil]; omega), x_er (by omega), ih (i + 1) _ n (by omega) (by omega) (by simp only [length_append, length_cons, length_nil]; omega)]
  rw [List.drop_eq_getElem_cons hlt, List.map_cons, x_py]
  simp only [List.append_assoc, List.cons_append, List.nil_append]
theorem i_l1 {K : Nat} (a : x_bt) (v : Int × Unit) : ∀ (n : Nat) (q : ByteArray) (i : Int), x_q.l1 K a n q v i = x_q.l0 K a n q v i := by
 intro n
 induction n with
 | zero => intro q i; rfl
 | succ n ih =>
  intro q i
  show x_q.l1b K a (x_q.l1 K a n) q v i = x_q.l0b K a (x_q.l0 K a n) q v i
  unfold x_q.l1b x_q.l0b
  simp only [ih]
theorem lasts (a : TLog) (hw : -9223372036854775808 ≤ a.1 ∧ a.1 ≤ 9223372036854775807) (hn : a.2.2.length ≤ 1048576) : ∃ r t, x_cs a = some (r, t, ()) ∧ x_afi a = some (r, ()) ∧ -9223372036854775808 ≤ r ∧ r ≤ 9223372036854775807 := by
 obtain ⟨h1, h2⟩ := hw
 unfold x_cs x_afi
 by_cases h : a.2.2.length = 0
 ·refine ⟨a.1, a.2.1, x_cy (by omega), ?_, h1, h2⟩
  rw [h, w64 (by omega) (by omega)]
  simp
 ·rw [x_rz (by omega), w64 (n := ((a.2.2.length : Nat) : Int) - 1) (by omega) (by omega), x_cy (by omega), x_cy (by omega)]
  have hr := IntKind.wrap_i64 (a.1 + ((a.2.2.length : Nat) : Int))
  exact ⟨_, _, rfl, rfl, by omega, by omega⟩
theorem tl_len (l : List Int) (h : inI l) : (tl (l.map Lib.itoa)).length ≤ 21 * l.length := by
 induction l with
 | nil => simp [tl]
 | cons x l ih =>
  have hx := h x List.mem_cons_self
  have := x_c7 hx.1 hx.2
  have := ih (fun y hy => h y (List.mem_cons_of_mem _ hy))
  rw [List.map_cons, x_py]
  simp only [length_cons, length_append]
  omega
theorem peer_texts {K : Nat} (hK : 2097152 ≤ K) (a : x_bt) (hp : PTx a) : ∃ s : ByteArray, x_7 K a = some (s, ()) ∧ x_q K a = some (s, ()) ∧ s.size ≤ 1000 := by
 have q1 := hp.1.1.1
 have q2 := hp.1.1.2
 have q3 := hp.1.2
 have q4 := hp.2.1
 obtain ⟨r, t, e1, e2, r1, r2⟩ := lasts a.2.1.2.2.1 (by omega) (by omega)
 have hv : inI (vals a r) := by
  intro x hx
  have k1 : a.2.2.2.2.2.2.2.2.2.length ≤ 41 := hp.2.2
  simp only [vals, mem_cons, List.not_mem_nil, or_false] at hx
  rcases hx with rfl | rfl | rfl | rfl | rfl
  ·omega
  ·exact ⟨r1, r2⟩
  ·omega
  ·omega
  ·omega
 have S := fun q hq => s_l0 hK a (r, t, ()) hv 5 0 q K (by omega) (by omega) hq
 have I := fun q hq => i_l0 hK a (r, ()) hv 5 0 q K (by omega) (by omega) hq
 have Z : ∀ q : List UInt8, q.length ≤ 100 → (bs (q ++ tl (((vals a r).drop 0).map Lib.itoa))).size ≤ 1000 := by
  intro q hq
  have := tl_len (vals a r) hv
  rw [x_bu, length_append, List.drop_zero]
  have : (vals a r).length = 5 := rfl
  omega
 unfold x_7 x_7.b x_q x_q.b
 have win : ∀ b : Bool, decide (0 ≤ a.2.2.1 ∧ a.2.2.1 ≤ 2) = b → x_ku a.2.2.1 0 2 = some (b, ()) := by
  intro b hb
  unfold x_ku
  by_cases h : a.2.2.1 ≥ 0
  ·rw [x_cy h, ← hb]
   congr 2
   exact decide_eq_decide.2 (by omega)
  ·rw [x_rz h, ← hb, decide_eq_false (by omega)]
 by_cases h1 : a.2.2.1 = 1
 ·rw [x_cy h1, x_aw (win true (decide_eq_true (by omega)))]
  simp only [cond_true]
  rw [x_cy (by omega), x_cy (by omega), x_aw e2, h1]
  unfold x_7.j0
  rw [x_aw e1]
  exact ⟨_, S [115, 116, 97, 110, 100, 115] (by decide), I [115, 116, 97, 110, 100, 115] (by decide), Z _ (by decide)⟩
 ·rw [x_rz h1]
  by_cases h2 : a.2.2.1 = 2
  ·rw [x_cy h2, x_aw (win true (decide_eq_true (by omega)))]
   simp only [cond_true]
   rw [x_cy (by omega), x_cy (by omega), x_aw e2, h2]
   unfold x_7.j0
   rw [x_aw e1]
   exact ⟨_, S [108, 101, 97, 100, 115] (by decide), I [108, 101, 97, 100, 115] (by decide), Z _ (by decide)⟩
  ·rw [x_rz h2]
   unfold x_7.j0
   rw [x_aw e1]
   refine ⟨_, S [102, 111, 108, 108, 111, 119, 115] (by decide), ?_, Z _ (by decide)⟩
   by_cases h0 : a.2.2.1 = 0
   ·rw [x_aw (win true (decide_eq_true (by omega)))]
    simp only [cond_true]
    rw [x_cy (by omega), x_cy (by omega), x_aw e2, h0]
    exact I [102, 111, 108, 108, 111, 119, 115] (by decide)
   ·rw [x_aw (win false (decide_eq_false (by omega)))]
    simp only [cond_false]
    rw [x_aw e2, i_l1]
    exact I [102, 111, 108, 108, 111, 119, 115] (by decide)
theorem x_2s (a b c : ByteArray) : sapp (sapp a b) c = sapp a (sapp b c) := x_aah (by simp only [x_s7, List.append_assoc])
theorem loops {K : Nat} (hK : 2097152 ≤ K) (a : x_r) (hw : WTx a) : ∀ (d i : Nat) (q : ByteArray) (n : Nat), i + d = a.2.2.1.length → d < n → q.size + 2000 * d ≤ 4611686018427380000 →
  ∃ s : ByteArray, x_aj.l0 K a n q (i : Int) = some (s, ()) ∧ x_ak.l0 K a n q (i : Int) = some (s, ()) ∧ (∃ t, s = sapp t (bs [10])) ∧ s.size ≤ q.size + 2000 * d + 1000 := by
 have hn : a.2.2.1.length ≤ 5 := hw.1
 have D : ∀ m : Nat, m ≤ 1048576 → x_al K (m : Int) = some (x_4l (m : Int), ()) ∧ x_ch (m : Int) = some (x_4l (m : Int), ()) ∧ (x_4l (m : Int)).size ≤ 20 := fun m hm =>
  ⟨x_cz (by omega) (by omega) (by omega), x_df (by omega) (by omega), x_3n (by omega) (by omega)⟩
 intro d
 induction d with
 | zero =>
  intro i q n hi hd hq
  obtain ⟨n, rfl⟩ : ∃ m, n = m + 1 := ⟨n - 1, by omega⟩
  have n1 : a.2.2.2.1.length ≤ 1048576 := by have := hw.2.2.1; omega
  have n2 : a.2.2.2.2.2.2.2.length ≤ 1048576 := by have := hw.2.2.2.2; omega
  have n3 : a.2.2.2.2.2.2.1.length ≤ 1048576 := by have := hw.2.2.2.1; omega
  obtain ⟨d1, e1, z1⟩ := D _ n1
  obtain ⟨d2, e2, z2⟩ := D _ n2
  obtain ⟨d3, e3, z3⟩ := D _ n3
  apply Exists.intro
  refine And.intro ?_ (And.intro ?_ (And.intro ?_ ?_))
  ·show x_aj.l0b K a (x_aj.l0 K a n) q (i : Int) = _
   unfold x_aj.l0b
   rw [x_rz (by omega), x_b6 (by simp only [x_bu, x_av, length_cons, length_nil]; omega), x_aw d1, x_b6 (by simp only [x_bu, x_av, length_cons, length_nil]; omega), x_b6 (by simp only [x_bu, x_av, length_cons, length_nil]; omega), x_aw d2, x_b6 (by simp only [x_bu, x_av, length_cons, length_nil]; omega), x_b6 (by simp only [x_bu, x_av, length_cons, length_nil]; omega), x_aw d3, x_b6 (by simp only [x_bu, x_av, length_cons, length_nil]; omega), x_b6 (by simp only [x_bu, x_av, length_cons, length_nil]; omega)]
  ·show x_ak.l0b K a (x_ak.l0 K a n) q (i : Int) = _
   unfold x_ak.l0b
   rw [x_rz (by omega), x_b6 (by simp only [x_bu, x_av, length_cons, length_nil]; omega), x_aw e1, x_b6 (by simp only [x_bu, x_av, length_cons, length_nil]; omega), x_b6 (by simp only [x_bu, x_av, length_cons, length_nil]; omega), x_aw e2, x_b6 (by simp only [x_bu, x_av, length_cons, length_nil]; omega), x_b6 (by simp only [x_bu, x_av, length_cons, length_nil]; omega), x_aw e3, x_b6 (by simp only [x_bu, x_av, length_cons, length_nil]; omega), x_b6 (by simp only [x_bu, x_av, length_cons, length_nil]; omega)]
  ·exact ⟨_, rfl⟩
  ·simp only [x_bu, x_av, length_cons, length_nil]; omega
 | succ d ih =>
  intro i q n hi hd hq
  obtain ⟨n, rfl⟩ : ∃ m, n = m + 1 := ⟨n - 1, by omega⟩
  have hlt : i < a.2.2.1.length := by omega
  obtain ⟨p, p1, p2, p3⟩ := peer_texts hK a.2.2.1[i] (hw.2.1 _ (List.getElem_mem hlt))
  obtain ⟨d1, e1, z1⟩ := D i (by omega)
  obtain ⟨s, h1, h2, h3, h4⟩ := ih (i + 1) (sapp q (sapp (x_4l (i : Int)) (sapp (bs [32]) (sapp p (bs [10]))))) n (by omega) (by omega) (by simp only [x_bu, x_av, length_cons, length_nil]; omega)
  refine ⟨s, ?_, ?_, h3, ?_⟩
  ·show x_aj.l0b K a (x_aj.l0 K a n) q (i : Int) = _
   unfold x_aj.l0b
   rw [x_cy (by omega), x_aw d1, x_b6 (by simp only [x_bu, x_av, length_cons, length_nil]; omega), x_b6 (by simp only [x_bu, x_av, length_cons, length_nil]; omega), x_cy (by omega), x_cy (by omega), Int.toNat_natCast, x_ep hlt, x_aw p1, x_b6 (by simp only [x_bu, x_av, length_cons, length_nil]; omega), x_b6 (by simp only [x_bu, x_av, length_cons, length_nil]; omega), x_er (by omega)]
   simp only [x_2s]
   exact h1
  ·show x_ak.l0b K a (x_ak.l0 K a n) q (i : Int) = _
   unfold x_ak.l0b
   rw [x_cy (by omega), x_cy (by omega), x_cy (by omega), x_aw e1, x_b6 (by simp only [x_bu, x_av, length_cons, length_nil]; omega), Int.toNat_natCast, x_ep hlt, x_aw p2, x_b6 (by simp only [x_bu, x_av, length_cons, length_nil]; omega), x_b6 (by simp only [x_bu, x_av, length_cons, length_nil]; omega), x_b6 (by simp only [x_bu, x_av, length_cons, length_nil]; omega), x_er (by omega)]
   simp only [x_2s]
   exact h2
  ·simp only [x_bu, x_av, length_cons, length_nil] at h4; omega
theorem texts {K : Nat} (hK : 2097152 ≤ K) (a : x_r) (hw : WTx a) : ∃ s : ByteArray, x_aj K a = some (s, ()) ∧ x_ak K a = some (s, ()) ∧ (∃ t, s = sapp t (bs [10])) ∧ s.size ≤ 100000 := by
 have hn : a.2.2.1.length ≤ 5 := hw.1
 obtain ⟨s, h1, h2, h3, h4⟩ := loops hK a hw a.2.2.1.length 0 ByteArray.empty K (by omega) (by omega) (by have : ByteArray.empty.size = 0 := rfl; omega)
 exact ⟨s, h1, h2, h3, by have : ByteArray.empty.size = 0 := rfl; omega⟩
end XWt
theorem law {K : Nat} (hK : 2097152 ≤ K) (a : List Int) {P : Prop} (_h : P) : ∃ u, x_s0 K a = some (true, u) := by
 have key : Tot (x_s0 K a) fun r => r.1 = true := by
  unfold x_s0 l_big
  refine tb (Q := fun r => r.1 = decide (((a.length : Nat) : Int) > 1048576)) (tr rfl) fun v1 g1 => tB (fun _ => tr rfl) fun e => ?_
  rw [g1] at e
  have hl : a.length ≤ 2000000 := by
   have := of_decide_eq_false e
   omega
  refine tb (x_1w hK a hl) fun v2 g2 => tb (x_w6 hK a hl) fun v3 g3 => tb (x_tr hK a hl) fun v4 g4 => tb (x_zj hK a hl) fun v5 g5 => tb (x_w4 hK a hl) fun v6 g6 => ?_
  obtain ⟨s2, p2, q2⟩ := XRt.texts hK v2.1 g2
  obtain ⟨s3, p3, q3⟩ := XGt.texts hK v3.1 g3
  obtain ⟨h4, n4, k4, t4⟩ := g4
  obtain ⟨s4, p4, q4⟩ := XAt.texts (K := K) (by omega) v4.1 (by omega) (by omega) (by omega) (by omega)
  obtain ⟨s5, p5, q5, _⟩ := XWt.peer_texts hK v5.1 g5
  obtain ⟨s6, p6, q6, ⟨t, e6⟩, z6⟩ := XWt.texts hK v6.1 g6
  have ne : ∀ {x y : Option (Bool × Unit)} {s : ByteArray}, Tot y (fun r => r.1 = true) → Tot (bif !(decide (s.data.toList = s.data.toList)) then x else y) fun r => r.1 = true := fun {x y s} h => tn (fun h => absurd rfl h) fun _ => h
  refine te q6 (te q2 (te p2 (ne (te q3 (te p3 (ne (te q4 (te p4 (ne (te q5 (te p5 (ne (te p6 (ne ?_))))))))))))))
  have hs : s6.size = t.size + 1 := by rw [e6, x_av, x_bu]; rfl
  dsimp only
  rw [w64 (n := ((s6.size : Nat) : Int) - 1) (by omega) (by omega)]
  refine ti (fun _ => tc (by omega) (tc (by omega) (tr ?_))) fun h => absurd (show ((s6.size : Nat) : Int) > 0 by omega) h
  refine decide_eq_true ?_
  unfold x_jc
  rw [show Int.toNat (((s6.size : Nat) : Int) - 1) = t.data.toList.length by rw [x_c6]; omega, e6, x_s7, x_x6, x_h1]
  rfl
 obtain ⟨⟨b, u⟩, h, e⟩ := key
 have e : b = true := e
 exact ⟨u, by rw [h, e]⟩
end Go.Proofs.YtkdamnchchhjeaaGreatDoor.Fs
