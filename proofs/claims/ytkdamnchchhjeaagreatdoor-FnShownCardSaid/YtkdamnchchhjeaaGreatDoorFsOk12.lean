/- The functions compute what is told of them. -/
import Derived.Test.YtkdamnchchhjeaaGreatDoorFsOk11
set_option linter.all false
set_option maxRecDepth 100000
namespace Go.Proofs.YtkdamnchchhjeaaGreatDoor.Fs
open Go Go.Kn
noncomputable def x_dh (K : Nat) : FSp := { ps := [.ptr x_dn [.f, .f, .f]], rs := [(true, x_at, [.f, .f, .f, .f, .x 0])], fn := fun v => x_5 K v.1 }
noncomputable def x_eg (K : Nat) : Tab := x_ai (tiOf tys) [(34, x_ad), (141, x_n6 K)]
def x_i5 : Hint := ⟨msk [5, 13, 29, 32797, 29, 61, 125, 1073741949, 125, 29, 5], fun _ _ => false, fun _ => false, fun _ => none⟩
noncomputable def x_i3 : Code := Tryz.f119.body.getD .skip
noncomputable def x_5.g0 (K : Nat) (a0 : x_c) (n : Nat) (q0 : Int) (q1 : Int × x_c × Unit) (q2 : Int) (q3 : Int) (q4 : Int) (q5 : Int) (q6 : List x_wf) : Option (x_v × x_c × Unit) :=
 lpg (x_eg K) x_i5 K x_i3 [.r, .r, .l, .r, .b] n ⟨[.one (.ptr 0 0 0), .dead, .one (.ptr 2 1 0), .one (.ptr 3 1 0), .one (.val .f (.i .i64) q0)] ++ List.replicate 36 .dead, [some (0, [.val .f (.sl (.i .u8)) q1.2.1.1, .val .f (.i .i64) q1.2.1.2.1, .val .f (.i .i64) q1.2.1.2.2]), none, some (1, [.val .f (.i .i64) 0, .val .f (.i .i64) 0, .val .f (.i .i64) 0, .val .f (.i .i64) 0, .val (.x 0) (.sl x_38) []]), some (1, [.val .f (.i .i64) q2, .val .f (.i .i64) q3, .val .f (.i .i64) q4, .val .f (.i .i64) q5, .val (.x 0) (.sl x_38) q6])] ++ List.replicate 37 none⟩ (endK (x_eg K).toEnv (x_dh K) [.cell 2 158])
theorem x_5.ok0 (K : Nat) (a0 : x_c) (n : Nat) : x_5.g0 K a0 n = x_5.l0 K a0 n := by
 induction n with
 | zero =>
  funext q0 q1 q2 q3 q4 q5 q6
  kernel_rfl
 | succ n ih =>
  funext q0 q1 q2 q3 q4 q5 q6
  have e : x_5.g0 K a0 (n + 1) q0 q1 q2 q3 q4 q5 q6 = x_5.l0b K a0 (x_5.g0 K a0 n) q0 q1 q2 q3 q4 q5 q6 := by kernel_rfl
  rw [ih] at e
  refine e.trans ?_
  kernel_rfl
theorem x_v7 (K : Nat) : FOk Tryz.prog 119 (x_dh K) :=
 x_a (T := x_eg K) (H := x_i5) (K := K) (c := x_i3) (ts := [.cell 2 158]) Tryz.func119 (by kernel_rfl) (by kernel_rfl) (by kernel_rfl) rfl
  (tokc (x_1) (tokc (x_r9 K) (tok0 x_k))) mixed
  (fun v => by
  have k0 := x_5.ok0 K v.1 K
  have e : run (x_eg K) x_i5 K x_i3 (x_ax (x_dh K).pk (x_dh K).ps Tryz.f119.ntmps (lv _ v)) (endK (x_eg K).toEnv (x_dh K) [.cell 2 158]) = x_5.b K v.1 (x_5.g0 K v.1 K) := by kernel_rfl
  rw [k0] at e
  refine e.trans ?_
  kernel_rfl)
noncomputable def x_3e (K : Nat) : FSp := { ps := [.ptr x_dn [.f, .f, .f]], rs := [(true, x_at, [.f, .f, .f, .f, .x 0])], fn := fun v => x_yx K v.1 }
noncomputable def x_ac5 (K : Nat) : Tab := x_ai (tiOf tys) [(119, x_dh K), (34, x_ad), (35, x_as)]
def x_ah5 : Hint := ⟨msk [5, 13, 141, 397, 13, 16525, 13, 1048717, 13, 4294967309, 13, 5], fun _ _ => false, fun _ => false, fun _ => none⟩
noncomputable def x_aef : Code := Tryz.f99.body.getD .skip
theorem x_8v (K : Nat) : FOk Tryz.prog 99 (x_3e K) :=
 x_a (T := x_ac5 K) (H := x_ah5) (K := K) (c := x_aef) (ts := [.cell 2 158]) Tryz.func99 (by kernel_rfl) (by kernel_rfl) (by kernel_rfl) rfl
  (tokc (x_v7 K) (tokc (x_1) (tokc (x_aq) (tok0 x_k)))) mixed
  (fun v => by kernel_rfl)
noncomputable def x_3c (K : Nat) : FSp := { ps := [.ptr x_dn [.f, .f, .f]], rs := [(true, x_da, [.f, .f, .f, .f]), (true, x_p8, [.x 0, .x 0, .x 0, .f, .x 0, .x 0])], fn := fun v => x_zg K v.1 }
noncomputable def x_agw (K : Nat) : Tab := x_ai (tiOf tys) [(72, x_gk K), (34, x_ad), (98, x_3x), (20, x_h0 K), (99, x_3e K), (22, x_wb K), (35, x_as)]
def x_afv : Hint := ⟨msk [13, 61, 4157, 12349, 61, 135229, 61, 16781373, 61, 8589938749, 61, 8796093026365, 61, 2251799813689405, 61, 9223372036854775869, 61, 13], fun _ _ => false, fun _ => false, fun _ => none⟩
noncomputable def x_aga : Code := Tryz.f68.body.getD .skip
theorem x_9x (K : Nat) : FOk Tryz.prog 68 (x_3c K) :=
 x_a (T := x_agw K) (H := x_afv) (K := K) (c := x_aga) (ts := [.cell 2 54, .cell 3 43]) Tryz.func68 (by kernel_rfl) (by kernel_rfl) (by kernel_rfl) rfl
  (tokc (x_hm K) (tokc (x_1) (tokc (x_abx) (tokc (x_xx K) (tokc (x_8v K) (tokc (x_xg K) (tokc (x_aq) (tok0 x_k)))))))) mixed
  (fun v => by kernel_rfl)
noncomputable def x_yf (K : Nat) : FSp := { ps := [.ptr x_dn [.f, .f, .f]], rs := [(true, x_da, [.f, .f, .f, .f]), (true, x_7y, [.f, .f, .f, .f, .x 0, .x 0, .x 0, .x 0, .f, .x 0, .x 0])], fn := fun v => x_s3 K v.1 }
noncomputable def x_aap (K : Nat) : Tab := x_ai (tiOf tys) [(66, x_c0 K), (34, x_ad), (35, x_as), (67, x_2y K), (68, x_3c K)]
def x_9b : Hint := ⟨msk [13, 61, 4157, 12349, 61, 528445, 61, 33558589, 61, 1073741885, 61, 13], fun _ _ => false, fun _ => false, fun _ => none⟩
noncomputable def x_aao : Code := Tryz.f41.body.getD .skip
theorem x_6e (K : Nat) : FOk Tryz.prog 41 (x_yf K) :=
 x_a (T := x_aap K) (H := x_9b) (K := K) (c := x_aao) (ts := [.cell 2 54, .cell 3 45]) Tryz.func41 (by kernel_rfl) (by kernel_rfl) (by kernel_rfl) rfl
  (tokc (x_sf K) (tokc (x_1) (tokc (x_aq) (tokc (x_82 K) (tokc (x_9x K) (tok0 x_k)))))) mixed
  (fun v => by kernel_rfl)
noncomputable def x_n0 (K : Nat) : FSp := { ps := [.ptr x_dn [.f, .f, .f]], rs := [(true, x_4w, [.f, .f, .f, .f, .x 0, .f])], fn := fun v => x_ij K v.1 }
noncomputable def x_w1 (K : Nat) : Tab := x_ai (tiOf tys) [(34, x_ad), (72, x_gk K), (73, x_by K), (71, x_bz K)]
def x_w8 : Hint := ⟨msk [5, 69, 197, 5, 32773, 21, 5, 5], fun _ _ => false, fun _ => false, fun _ => none⟩
noncomputable def x_w0 : Code := Tryz.f101.body.getD .skip
theorem x_vt (K : Nat) : FOk Tryz.prog 101 (x_n0 K) :=
 x_a (T := x_w1 K) (H := x_w8) (K := K) (c := x_w0) (ts := [.cell 2 163]) Tryz.func101 (by kernel_rfl) (by kernel_rfl) (by kernel_rfl) rfl
  (tokc (x_1) (tokc (x_hm K) (tokc (x_hu K) (tokc (x_f6 K) (tok0 x_k))))) mixed
  (fun v => by kernel_rfl)
noncomputable def x_di (K : Nat) : FSp := { ps := [.ptr x_dn [.f, .f, .f]], rs := [(false, (.sl (.i .u8)), [.x 0])], fn := fun v => x_9 K v.1 }
noncomputable def x_ei (K : Nat) : Tab := x_ai (tiOf tys) [(34, x_ad), (101, x_n0 K), (100, x_io K)]
def x_i4 : Hint := ⟨msk [1, 9, 25, 537, 25, 25, 5], fun _ _ => false, fun _ => false, fun _ => none⟩
noncomputable def x_i0 : Code := Tryz.f69.body.getD .skip
noncomputable def x_9.g0 (K : Nat) (a0 : x_c) (n : Nat) (q0 : List Int) (q1 : Int) (q2 : x_c) : Option ((List Int) × x_c × Unit) :=
 lpg (x_ei K) x_i4 K x_i0 [.r, .r, .l, .r, .b] n ⟨[.one (.ptr 0 0 0), .dead, .dead, .one (.val (.x 0) (.sl (.i .u8)) q0), .one (.val .f (.i .i64) q1)] ++ List.replicate 13 .dead, [some (0, [.val .f (.sl (.i .u8)) q2.1, .val .f (.i .i64) q2.2.1, .val .f (.i .i64) q2.2.2])] ++ List.replicate 17 none⟩ (endK (x_ei K).toEnv (x_di K) [.tmp 2])
theorem x_9.ok0 (K : Nat) (a0 : x_c) (n : Nat) : x_9.g0 K a0 n = x_9.l0 K a0 n := by
 induction n with
 | zero =>
  funext q0 q1 q2
  kernel_rfl
 | succ n ih =>
  funext q0 q1 q2
  have e : x_9.g0 K a0 (n + 1) q0 q1 q2 = x_9.l0b K a0 (x_9.g0 K a0 n) q0 q1 q2 := by kernel_rfl
  rw [ih] at e
  refine e.trans ?_
  kernel_rfl
theorem x_vq (K : Nat) : FOk Tryz.prog 69 (x_di K) :=
 x_a (T := x_ei K) (H := x_i4) (K := K) (c := x_i0) (ts := [.tmp 2]) Tryz.func69 (by kernel_rfl) (by kernel_rfl) (by kernel_rfl) rfl
  (tokc (x_1) (tokc (x_vt K) (tokc (x_kq K) (tok0 x_k)))) mixed
  (fun v => by
  have k0 := x_9.ok0 K v.1 K
  have e : run (x_ei K) x_i4 K x_i0 (x_ax (x_di K).pk (x_di K).ps Tryz.f69.ntmps (lv _ v)) (endK (x_ei K).toEnv (x_di K) [.tmp 2]) = x_9.b K v.1 (x_9.g0 K v.1 K) := by kernel_rfl
  rw [k0] at e
  refine e.trans ?_
  kernel_rfl)
noncomputable def x_x0 (K : Nat) : FSp := { ps := [.ptr x_dn [.f, .f, .f]], rs := [(true, eDisk, [.x 0, .f])], fn := fun v => x_sr K v.1 }
noncomputable def x_9e (K : Nat) : Tab := x_ai (tiOf tys) [(69, x_di K), (34, x_ad), (35, x_as)]
def x_abg : Hint := ⟨msk [5, 13, 29, 32797, 98333, 21, 33554453, 21, 5], fun _ _ => false, fun _ => false, fun _ => none⟩
noncomputable def x_9p : Code := Tryz.f42.body.getD .skip
theorem x_4d (K : Nat) : FOk Tryz.prog 42 (x_x0 K) :=
 x_a (T := x_9e K) (H := x_abg) (K := K) (c := x_9p) (ts := [.cell 2 48]) Tryz.func42 (by kernel_rfl) (by kernel_rfl) (by kernel_rfl) rfl
  (tokc (x_vq K) (tokc (x_1) (tokc (x_aq) (tok0 x_k)))) mixed
  (fun v => by kernel_rfl)
noncomputable def x_km (K : Nat) : FSp := { ps := [.ptr x_dn [.f, .f, .f]], rs := [(true, eRpc, [.f, .f, .f, .f, .f, .f, .f, .x 0, .f, .f])], fn := fun v => x_cr K v.1 }
noncomputable def x_yr (K : Nat) : Tab := x_ai (tiOf tys) [(34, x_ad), (70, x_jl), (71, x_bz K), (72, x_gk K), (73, x_by K)]
def x_0z : Hint := ⟨msk [5, 13, 67108877, 13, 4294967309, 45, 13, 5], fun _ _ => false, fun _ => false, fun _ => none⟩
noncomputable def x_y9 : Code := Tryz.f43.body.getD .skip
theorem x_nv (K : Nat) : FOk Tryz.prog 43 (x_km K) :=
 x_a (T := x_yr K) (H := x_0z) (K := K) (c := x_y9) (ts := [.cell 2 95]) Tryz.func43 (by kernel_rfl) (by kernel_rfl) (by kernel_rfl) rfl
  (tokc (x_1) (tokc (x_jo) (tokc (x_f6 K) (tokc (x_hm K) (tokc (x_hu K) (tok0 x_k)))))) mixed
  (fun v => by kernel_rfl)
noncomputable def x_qd (K : Nat) : FSp := { ps := [.ptr x_dn [.f, .f, .f]], rs := [(true, x_da, [.f, .f, .f, .f]), (true, x_hh, [.f, .f, .f, .f, .f, .x 0, .x 0, .x 0, .x 0, .f, .x 0, .x 0, .f, .x 0, .x 0, .x 0, .f, .x 0, .x 0, .x 0, .f, .x 0, .x 0, .x 0, .f, .x 0]), (false, (.i .i64), [.f])], fn := fun v => x_p2 K v.1 }
noncomputable def x_9z (K : Nat) : Tab := x_ai (tiOf tys) [(39, x_ic K), (34, x_ad), (40, x_co K), (35, x_as), (41, x_yf K), (42, x_x0 K), (43, x_km K)]
def x_abh : Hint := ⟨msk [13, 45, 4141, 29, 109, 134217837, 402653293, 109, 17314087021, 109, 4398180728941, 109, 281475110928493, 109, 72057594172145773, 109, 2305843009347911789, 109, 147573952589676413037, 109, 29], fun _ _ => false, fun _ => false, fun _ => none⟩
noncomputable def x_88 : Code := Tryz.f24.body.getD .skip
theorem x_tw (K : Nat) : FOk Tryz.prog 24 (x_qd K) :=
 x_a (T := x_9z K) (H := x_abh) (K := K) (c := x_88) (ts := [.cell 2 54, .cell 3 51, .tmp 4]) Tryz.func24 (by kernel_rfl) (by kernel_rfl) (by kernel_rfl) rfl
  (tokc (x_lb K) (tokc (x_1) (tokc (x_cl K) (tokc (x_aq) (tokc (x_6e K) (tokc (x_4d K) (tokc (x_nv K) (tok0 x_k)))))))) mixed
  (fun v => by kernel_rfl)
noncomputable def x_l0 (K : Nat) : FSp := { ps := [.val false (.sl (.i .u8)) [.f]], rs := [(true, x_hh, [.f, .f, .f, .f, .f, .x 0, .x 0, .x 0, .x 0, .f, .x 0, .x 0, .f, .x 0, .x 0, .x 0, .f, .x 0, .x 0, .x 0, .f, .x 0, .x 0, .x 0, .f, .x 0])], fn := fun v => x_g9 K v.1 }
noncomputable def x_tf (K : Nat) : Tab := x_ai (tiOf tys) [(21, x_gj K), (24, x_qd K)]
def x_vp : Hint := ⟨msk [5, 20, 4], fun _ _ => false, fun _ => false, fun _ => none⟩
noncomputable def x_v3 : Code := Tryz.f8.body.getD .skip
theorem x_sq (K : Nat) : FOk Tryz.prog 8 (x_l0 K) :=
 x_a (T := x_tf K) (H := x_vp) (K := K) (c := x_v3) (ts := [.cell 2 51]) Tryz.func8 (by kernel_rfl) (by kernel_rfl) (by kernel_rfl) rfl
  (tokc (x_li K) (tokc (x_tw K) (tok0 x_k))) mixed
  (fun v => by kernel_rfl)
noncomputable def x_yp (K : Nat) : FSp := { ps := [.ptr x_dn [.f, .f, .f]], rs := [(true, x_d8, [.f, .f, .f, .f, .f, .x 0, .x 0, .x 0, .x 0, .x 0, .x 0])], fn := fun v => x_tb K v.1 }
noncomputable def x_8r (K : Nat) : Tab := x_ai (tiOf tys) [(39, x_ic K), (34, x_ad), (43, x_km K), (45, x_dj), (44, x_p9), (24, x_qd K), (35, x_as)]
def x_aba : Hint := ⟨msk [5, 13, 1037, 3085, 13, 66573, 13, 33555469, 13, 549755814925, 13, 281474976711693, 13, 576460752303424525, 45, 13, 2361183241434822606861, 13, 5], fun _ _ => false, fun _ => false, fun _ => none⟩
noncomputable def x_9j : Code := Tryz.f25.body.getD .skip
theorem x_5r (K : Nat) : FOk Tryz.prog 25 (x_yp K) :=
 x_a (T := x_8r K) (H := x_aba) (K := K) (c := x_9j) (ts := [.cell 2 59]) Tryz.func25 (by kernel_rfl) (by kernel_rfl) (by kernel_rfl) rfl
  (tokc (x_lb K) (tokc (x_1) (tokc (x_nv K) (tokc (x_dt) (tokc (x_u1) (tokc (x_tw K) (tokc (x_aq) (tok0 x_k)))))))) mixed
  (fun v => by kernel_rfl)
noncomputable def x_lc (K : Nat) : FSp := { ps := [.val false (.sl (.i .u8)) [.f]], rs := [(true, x_d8, [.f, .f, .f, .f, .f, .x 0, .x 0, .x 0, .x 0, .x 0, .x 0])], fn := fun v => x_gp K v.1 }
noncomputable def x_so (K : Nat) : Tab := x_ai (tiOf tys) [(21, x_gj K), (25, x_yp K)]
def x_sp : Hint := ⟨msk [5, 4], fun _ _ => false, fun _ => false, fun _ => none⟩
noncomputable def x_sj : Code := Tryz.f9.body.getD .skip
theorem x_qo (K : Nat) : FOk Tryz.prog 9 (x_lc K) :=
 x_a (T := x_so K) (H := x_sp) (K := K) (c := x_sj) (ts := [.cell 2 59]) Tryz.func9 (by kernel_rfl) (by kernel_rfl) (by kernel_rfl) rfl
  (tokc (x_li K) (tokc (x_5r K) (tok0 x_k))) mixed
  (fun v => by kernel_rfl)
noncomputable def x_kb : FSp := { ps := [.val false (.i .i64) [.f]], rs := [(false, .s, [.f])], fn := fun v => x_ch v.1 }
noncomputable def x_agb (K : Nat) : Tab := x_ai (tiOf tys) [(46, x_8d)]
def x_agd : Hint := ⟨msk [1, 4], fun _ _ => false, fun _ => false, fun _ => none⟩
noncomputable def x_adn : Code := Tryz.f26.body.getD .skip
theorem x_ke : FOk Tryz.prog 26 (x_kb) := by
 let K := 0
 exact
 x_a (T := x_agb K) (H := x_agd) (K := K) (c := x_adn) (ts := [.tmp 2]) Tryz.func26 (by kernel_rfl) (by kernel_rfl) (by kernel_rfl) rfl
  (tokc (ok_lItoa) (tok0 x_k)) mixed
  (fun v => by kernel_rfl)
noncomputable def x_t2 : FSp := { ps := [.val false (.i .i64) [.f], .val false (.i .i64) [.f], .val false (.i .i64) [.f]], rs := [(false, .b, [.f])], fn := fun v => x_ku v.1 v.2.1 v.2.2.1 }
noncomputable def x_afc (K : Nat) : Tab := x_ai (tiOf tys) []
def x_agv : Hint := ⟨msk [7, 64], fun _ _ => false, fun _ => false, fun _ => none⟩
noncomputable def x_aff : Code := Tryz.f29.body.getD .skip
theorem x_xz : FOk Tryz.prog 29 (x_t2) := by
 let K := 0
 exact
 x_a (T := x_afc K) (H := x_agv) (K := K) (c := x_aff) (ts := [.tmp 6]) Tryz.func29 (by kernel_rfl) (by kernel_rfl) (by kernel_rfl) rfl
  (tok0 x_k) mixed
  (fun v => by kernel_rfl)
noncomputable def x_aic : FSp := { ps := [.val true eLog [.f, .f, .r]], rs := [(false, (.i .i64), [.f])], fn := fun v => x_afi v.1 }
noncomputable def t_i_last (K : Nat) : Tab := x_ai (tiOf tys) []
def h_i_last : Hint := ⟨msk [2, 4], fun _ _ => false, fun _ => false, fun _ => none⟩
noncomputable def c_i_last : Code := Tryz.f31.body.getD .skip
theorem ok_i_last : FOk Tryz.prog 31 (x_aic) := by
 let K := 0
 exact
 x_a (T := t_i_last K) (H := h_i_last) (K := K) (c := c_i_last) (ts := [.tmp 2]) Tryz.func31 (by kernel_rfl) (by kernel_rfl) (by kernel_rfl) rfl
  (tok0 x_k) mixed
  (fun v => by kernel_rfl)
noncomputable def x_dv (K : Nat) : FSp := { ps := [.val true x_hh [.f, .f, .f, .f, .f, .r, .r, .r, .r, .f, .r, .r, .f, .r, .r, .r, .f, .r, .r, .r, .f, .r, .r, .r, .f, .r]], rs := [(false, .s, [.f])], fn := fun v => x_q K v.1 }
noncomputable def x_en (K : Nat) : Tab := x_ai (tiOf tys) [(29, x_t2), (31, x_aic), (26, x_kb)]
def x_kt : Hint := ⟨msk [2, 10, 26, 16410, 18, 34, 962072674336, 2061584302112, 962072674464, 962072674336, 962072674336, 4], fun _ _ => false, fun _ => false, fun _ => none⟩
noncomputable def x_ky : Code := Tryz.f17.body.getD .skip
noncomputable def x_q.g0 (K : Nat) (a0 : x_bt) (n : Nat) (q2 : ByteArray) (v2 : Int × Unit) (q3 : Int) : Option (ByteArray × Unit) :=
 lpg (x_en K) x_kt K x_ky [.r, .r, .r, .r, .r, .l, .r, .b] n ⟨List.replicate 5 .dead ++ [.one (.val .f .s q2)] ++ List.replicate 31 .dead ++ [.one (.val (.x 0) (.sl (.i .i64)) [a0.2.1.1, v2.1, a0.2.2.2.2.2.2.1, a0.2.1.2.2.1.1, ((a0.2.2.2.2.2.2.2.2.2.length : Nat) : Int)]), .one (.val .f (.i .i64) 5), .one (.val .f (.i .i64) q3)] ++ List.replicate 10 .dead, List.replicate 50 none⟩ (endK (x_en K).toEnv (x_dv K) [.tmp 2])
noncomputable def x_q.g1 (K : Nat) (a0 : x_bt) (n : Nat) (q4 : ByteArray) (v4 : Int × Unit) (q5 : Int) : Option (ByteArray × Unit) :=
 lpg (x_en K) x_kt K x_ky [.r, .r, .r, .r, .r, .l, .r, .b] n ⟨List.replicate 5 .dead ++ [.one (.val .f .s q4)] ++ List.replicate 31 .dead ++ [.one (.val (.x 0) (.sl (.i .i64)) [a0.2.1.1, v4.1, a0.2.2.2.2.2.2.1, a0.2.1.2.2.1.1, ((a0.2.2.2.2.2.2.2.2.2.length : Nat) : Int)]), .one (.val .f (.i .i64) 5), .one (.val .f (.i .i64) q5)] ++ List.replicate 10 .dead, List.replicate 50 none⟩ (endK (x_en K).toEnv (x_dv K) [.tmp 2])
theorem x_q.ok0 (K : Nat) (a0 : x_bt) (n : Nat) : x_q.g0 K a0 n = x_q.l0 K a0 n := by
 induction n with
 | zero =>
  funext q2 v2 q3
  kernel_rfl
 | succ n ih =>
  funext q2 v2 q3
  have e : x_q.g0 K a0 (n + 1) q2 v2 q3 = x_q.l0b K a0 (x_q.g0 K a0 n) q2 v2 q3 := by kernel_rfl
  rw [ih] at e
  refine e.trans ?_
  kernel_rfl
theorem x_q.ok1 (K : Nat) (a0 : x_bt) (n : Nat) : x_q.g1 K a0 n = x_q.l1 K a0 n := by
 induction n with
 | zero =>
  funext q4 v4 q5
  kernel_rfl
 | succ n ih =>
  funext q4 v4 q5
  have e : x_q.g1 K a0 (n + 1) q4 v4 q5 = x_q.l1b K a0 (x_q.g1 K a0 n) q4 v4 q5 := by kernel_rfl
  rw [ih] at e
  refine e.trans ?_
  kernel_rfl
theorem x_ry (K : Nat) : FOk Tryz.prog 17 (x_dv K) :=
 x_a (T := x_en K) (H := x_kt) (K := K) (c := x_ky) (ts := [.tmp 2]) Tryz.func17 (by kernel_rfl) (by kernel_rfl) (by kernel_rfl) rfl
  (tokc (x_xz) (tokc (ok_i_last) (tokc (x_ke) (tok0 x_k)))) mixed
  (fun v => by
  have k0 := x_q.ok0 K v.1 K
  have k1 := x_q.ok1 K v.1 K
  have e : run (x_en K) x_kt K x_ky (x_ax (x_dv K).pk (x_dv K).ps Tryz.f17.ntmps (lv _ v)) (endK (x_en K).toEnv (x_dv K) [.tmp 2]) = x_q.b K v.1 (x_q.g0 K v.1 K) (x_q.g1 K v.1 K) := by kernel_rfl
  rw [k0, k1] at e
  refine e.trans ?_
  kernel_rfl)
noncomputable def x_fa (K : Nat) : FSp := { ps := [.val true x_d8 [.f, .f, .f, .f, .f, .r, .r, .r, .r, .r, .r]], rs := [(false, .s, [.f])], fn := fun v => x_ak K v.1 }
noncomputable def x_gz (K : Nat) : Tab := x_ai (tiOf tys) [(26, x_kb), (17, x_dv K)]
def x_ll : Hint := ⟨msk [2, 10, 906, 1930, 954, 906, 906, 4], fun _ _ => false, fun _ => false, fun _ => none⟩
noncomputable def x_lq : Code := Tryz.f10.body.getD .skip
noncomputable def x_ak.g0 (K : Nat) (a0 : x_r) (n : Nat) (q0 : ByteArray) (q1 : Int) : Option (ByteArray × Unit) :=
 lpg (x_gz K) x_ll K x_lq [.r, .r, .l, .r, .b] n ⟨[.dead, .one (.ptr 1 1 0), .dead, .one (.val .f .s q0), .dead, .dead, .dead, .one (.val .r (.sl x_hh) a0.2.2.1), .one (.val .f (.i .i64) ((a0.2.2.1.length : Nat) : Int)), .one (.val .f (.i .i64) q1)] ++ List.replicate 34 .dead, [none, some (1, [.val .f (.i .i64) a0.1.1, .val .f (.i .i64) a0.1.2.1, .val .f (.i .i64) a0.1.2.2.1, .val .f (.i .i64) a0.1.2.2.2, .val .f (.i .i64) a0.2.1, .val .r (.sl x_hh) a0.2.2.1, .val .r (.sl eRpc) a0.2.2.2.1, .val .r (.sl eCmd) a0.2.2.2.2.1, .val .r (.sl (.i .i64)) a0.2.2.2.2.2.1, .val .r (.sl x_j8) a0.2.2.2.2.2.2.1, .val .r (.sl eCmd) a0.2.2.2.2.2.2.2])] ++ List.replicate 42 none⟩ (endK (x_gz K).toEnv (x_fa K) [.tmp 2])
theorem x_ak.ok0 (K : Nat) (a0 : x_r) (n : Nat) : x_ak.g0 K a0 n = x_ak.l0 K a0 n := by
 induction n with
 | zero =>
  funext q0 q1
  kernel_rfl
 | succ n ih =>
  funext q0 q1
  have e : x_ak.g0 K a0 (n + 1) q0 q1 = x_ak.l0b K a0 (x_ak.g0 K a0 n) q0 q1 := by kernel_rfl
  rw [ih] at e
  refine e.trans ?_
  kernel_rfl
theorem x_yy (K : Nat) : FOk Tryz.prog 10 (x_fa K) :=
 x_a (T := x_gz K) (H := x_ll) (K := K) (c := x_lq) (ts := [.tmp 2]) Tryz.func10 (by kernel_rfl) (by kernel_rfl) (by kernel_rfl) rfl
  (tokc (x_ke) (tokc (x_ry K) (tok0 x_k))) mixed
  (fun v => by
  have k0 := x_ak.ok0 K v.1 K
  have e : run (x_gz K) x_ll K x_lq (x_ax (x_fa K).pk (x_fa K).ps Tryz.f10.ntmps (lv _ v)) (endK (x_gz K).toEnv (x_fa K) [.tmp 2]) = x_ak.b K v.1 (x_ak.g0 K v.1 K) := by kernel_rfl
  rw [k0] at e
  refine e.trans ?_
  kernel_rfl)
noncomputable def x_hi (K : Nat) : FSp := { ps := [.val true eRow [.f, .f, .r]], rs := [(false, .s, [.f])], fn := fun v => x_a7 K v.1 }
noncomputable def x_j7 (K : Nat) : Tab := x_ai (tiOf tys) [(26, x_kb)]
def x_qm : Hint := ⟨msk [2, 10, 14680072, 31457288, 14680104, 14680072, 14680072, 4], fun _ _ => false, fun _ => false, fun _ => none⟩
noncomputable def x_rr : Code := Tryz.f11.body.getD .skip
noncomputable def x_a7.g0 (K : Nat) (a0 : TRow) (n : Nat) (q0 : ByteArray) (q1 : Int) : Option (ByteArray × Unit) :=
 lpg (x_j7 K) x_qm K x_rr [.r, .r, .l, .r, .b] n ⟨[.dead, .dead, .dead, .one (.val .f .s q0)] ++ List.replicate 17 .dead ++ [.one (.val .r (.sl x_ou) a0.2.2), .one (.val .f (.i .i64) ((a0.2.2.length : Nat) : Int)), .one (.val .f (.i .i64) q1)] ++ List.replicate 16 .dead, List.replicate 40 none⟩ (endK (x_j7 K).toEnv (x_hi K) [.tmp 2])
theorem x_a7.ok0 (K : Nat) (a0 : TRow) (n : Nat) : x_a7.g0 K a0 n = x_a7.l0 K a0 n := by
 induction n with
 | zero =>
  funext q0 q1
  kernel_rfl
 | succ n ih =>
  funext q0 q1
  have e : x_a7.g0 K a0 (n + 1) q0 q1 = x_a7.l0b K a0 (x_a7.g0 K a0 n) q0 q1 := by kernel_rfl
  rw [ih] at e
  refine e.trans ?_
  kernel_rfl
theorem x_6k (K : Nat) : FOk Tryz.prog 11 (x_hi K) :=
 x_a (T := x_j7 K) (H := x_qm) (K := K) (c := x_rr) (ts := [.tmp 2]) Tryz.func11 (by kernel_rfl) (by kernel_rfl) (by kernel_rfl) rfl
  (tokc (x_ke) (tok0 x_k)) mixed
  (fun v => by
  have k0 := x_a7.ok0 K v.1 K
  have e : run (x_j7 K) x_qm K x_rr (x_ax (x_hi K).pk (x_hi K).ps Tryz.f11.ntmps (lv _ v)) (endK (x_j7 K).toEnv (x_hi K) [.tmp 2]) = x_a7.b K v.1 (x_a7.g0 K v.1 K) := by kernel_rfl
  rw [k0] at e
  refine e.trans ?_
  kernel_rfl)
end Go.Proofs.YtkdamnchchhjeaaGreatDoor.Fs
