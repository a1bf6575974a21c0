/- The functions compute what is told of them. -/
import Derived.Test.YtkdamnchchhjeaaGreatDoorFsOk5
set_option linter.all false
set_option maxRecDepth 100000
namespace Go.Proofs.YtkdamnchchhjeaaGreatDoor.Fs
open Go Go.Kn
noncomputable def x_uo : FSp := { ps := [.val true eLog [.f, .f, .r], .val false (.i .i64) [.f]], rs := [(true, eLog, [.f, .f, .x 0])], fn := fun v => x_vd v.1 v.2.1 }
noncomputable def x_acu (K : Nat) : Tab := x_ai (tiOf tys) [(90, x_p0), (166, x_09)]
def x_air : Hint := ⟨msk [22, 54, 118, 8310, 16, 16], fun _ _ => false, fun _ => false, fun _ => none⟩
noncomputable def x_afj : Code := Tryz.f140.body.getD .skip
theorem x_yh : FOk Tryz.prog 140 (x_uo) := by
 let K := 0
 exact
 x_a (T := x_acu K) (H := x_air) (K := K) (c := x_afj) (ts := [.cell 4 37]) Tryz.func140 (by kernel_rfl) (by kernel_rfl) (by kernel_rfl) rfl
  (tokc (x_rd) (tokc (x_0h) (tok0 x_k))) mixed
  (fun v => by kernel_rfl)
noncomputable def x_7a (K : Nat) : FSp := { ps := [.val true x_da [.f, .f, .f, .f], .val true x_7y [.f, .f, .f, .f, .x 0, .x 0, .x 0, .x 0, .f, .x 0, .x 0], .val true x_4w [.f, .f, .f, .f, .r, .f]], rs := [(true, x_7y, [.f, .f, .f, .f, .x 0, .x 0, .x 0, .x 0, .f, .x 0, .x 0])], fn := fun v => x_6v K v.1 v.2.1 v.2.2.1 }
noncomputable def t_s_l11Do (K : Nat) : Tab := x_ai (tiOf tys) [(137, x_hn K), (138, x_u7 K), (139, x_h9), (140, x_uo)]
def h_s_l11Do : Hint := ⟨msk [120, 4216, 12408, 112, 80, 2101368, 464, 34359738576, 80, 274877907064, 1648, 144115188075856496, 64, 73786976294838207088, 592, 592, 80, 64], fun _ _ => false, fun _ => false, fun _ => none⟩
noncomputable def c_s_l11Do : Code := Tryz.f118.body.getD .skip
theorem x_ahq (K : Nat) : FOk Tryz.prog 118 (x_7a K) :=
 x_a (T := t_s_l11Do K) (H := h_s_l11Do) (K := K) (c := c_s_l11Do) (ts := [.cell 6 45]) Tryz.func118 (by kernel_rfl) (by kernel_rfl) (by kernel_rfl) rfl
  (tokc (x_yd K) (tokc (x_xo K) (tokc (x_hf) (tokc (x_yh) (tok0 x_k))))) mixed
  (fun v => by kernel_rfl)
noncomputable def x_px (K : Nat) : FSp := { ps := [.val true x_da [.f, .f, .f, .f], .val true x_7y [.f, .f, .f, .f, .r, .r, .r, .r, .f, .r, .r], .val true x_4w [.f, .f, .f, .f, .r, .f]], rs := [(true, x_7y, [.f, .f, .f, .f, .x 0, .x 0, .x 0, .x 0, .f, .x 0, .x 0])], fn := fun v => x_iw K v.1 v.2.1 v.2.2.1 }
noncomputable def x_afa (K : Nat) : Tab := x_ai (tiOf tys) [(116, x_vh K), (117, x_mu K), (62, x_rb K), (118, x_7a K)]
def x_ah4 : Hint := ⟨msk [120, 65656, 64, 216, 134217936, 64, 64], fun _ _ => false, fun _ => false, fun _ => none⟩
noncomputable def x_afw : Code := Tryz.f96.body.getD .skip
theorem x_qr (K : Nat) : FOk Tryz.prog 96 (x_px K) :=
 x_a (T := x_afa K) (H := x_ah4) (K := K) (c := x_afw) (ts := [.cell 6 45]) Tryz.func96 (by kernel_rfl) (by kernel_rfl) (by kernel_rfl) rfl
  (tokc (x_xf K) (tokc (x_ne K) (tokc (x_t8 K) (tokc (x_ahq K) (tok0 x_k))))) mixed
  (fun v => by kernel_rfl)
noncomputable def x_lr (K : Nat) : FSp := { ps := [.val true x_da [.f, .f, .f, .f], .val true x_hh [.f, .f, .f, .f, .f, .r, .r, .r, .r, .f, .r, .r, .f, .r, .r, .r, .f, .r, .r, .r, .f, .r, .r, .r, .f, .r], .val true x_4w [.f, .f, .f, .f, .r, .f]], rs := [(true, x_hh, [.f, .f, .f, .f, .f, .x 0, .x 0, .x 0, .x 0, .f, .x 0, .x 0, .f, .x 0, .x 0, .x 0, .f, .x 0, .x 0, .x 0, .f, .x 0, .x 0, .x 0, .f, .x 0]), (false, .b, [.f])], fn := fun v => x_jh K v.1 v.2.1 v.2.2.1 }
noncomputable def x_3t (K : Nat) : Tab := x_ai (tiOf tys) [(40, x_co K), (100, x_io K), (206, x_24), (96, x_px K), (117, x_mu K), (129, x_cq K)]
def x_3o : Hint := ⟨msk [120, 376, 1912, 1912, 1400, 17592186044752, 192, 192], fun _ _ => false, fun _ => false, fun _ => none⟩
noncomputable def x_32 : Code := Tryz.f179.body.getD .skip
theorem x_pb (K : Nat) : FOk Tryz.prog 179 (x_lr K) :=
 x_a (T := x_3t K) (H := x_3o) (K := K) (c := x_32) (ts := [.cell 6 51, .tmp 7]) Tryz.func179 (by kernel_rfl) (by kernel_rfl) (by kernel_rfl) rfl
  (tokc (x_cl K) (tokc (x_kq K) (tokc (x_8s) (tokc (x_qr K) (tokc (x_ne K) (tokc (x_fb K) (tok0 x_k))))))) mixed
  (fun v => by kernel_rfl)
noncomputable def x_e0 (K : Nat) : FSp := { ps := [.ptr x_fp [.f, .f, .f, .f, .f, .f, .f, .f, .f, .f, .f, .f, .f, .f, .f, .f, .f, .f, .x 0, .x 0, .x 0, .f, .x 0, .x 0, .x 0, .f, .x 0, .x 0, .f, .f, .f, .f], .val true x_4w [.f, .f, .f, .f, .r, .f]], rs := [], fn := fun v => x_fh K v.1 v.2.1 }
noncomputable def x_47 (K : Nat) : Tab := x_ai (tiOf tys) [(179, x_lr K)]
def x_5a : Hint := ⟨msk [9, 1033, 49, 17, 1], fun _ _ => false, fun _ => false, fun _ => none⟩
noncomputable def x_6l : Code := Tryz.f180.body.getD .skip
theorem x_fd (K : Nat) : FOk Tryz.prog 180 (x_e0 K) :=
 x_a (T := x_47 K) (H := x_5a) (K := K) (c := x_6l) (ts := []) Tryz.func180 (by kernel_rfl) (by kernel_rfl) (by kernel_rfl) rfl
  (tokc (x_pb K) (tok0 x_k)) mixed
  (fun v => by kernel_rfl)
noncomputable def x_ii (K : Nat) : FSp := { ps := [.ptr x_fp [.f, .f, .f, .f, .f, .f, .f, .f, .f, .f, .f, .f, .f, .f, .f, .f, .f, .f, .x 0, .x 0, .x 0, .f, .x 0, .x 0, .x 0, .f, .x 0, .x 0, .f, .f, .f, .f], .val false (.i .i64) [.f]], rs := [], fn := fun v => x_hd K v.1 v.2.1 }
noncomputable def x_3f (K : Nat) : Tab := x_ai (tiOf tys) [(180, x_e0 K)]
def x_3h : Hint := ⟨msk [2051, 1, 1], fun _ _ => false, fun _ => false, fun _ => none⟩
noncomputable def x_3r : Code := Tryz.f173.body.getD .skip
theorem x_k5 (K : Nat) : FOk Tryz.prog 173 (x_ii K) :=
 x_a (T := x_3f K) (H := x_3h) (K := K) (c := x_3r) (ts := []) Tryz.func173 (by kernel_rfl) (by kernel_rfl) (by kernel_rfl) rfl
  (tokc (x_fd K) (tok0 x_k)) mixed
  (fun v => by kernel_rfl)
noncomputable def x_7m : FSp := { ps := [.val true eLog [.f, .f, .r], .val false (.i .i64) [.f], .val false (.i .i64) [.f]], rs := [(false, .b, [.f])], fn := fun v => x_14 v.1 v.2.1 v.2.2.1 }
noncomputable def t_s_Newer (K : Nat) : Tab := x_ai (tiOf tys) [(32, x_cc)]
def h_s_Newer : Hint := ⟨msk [14, 390, 64], fun _ _ => false, fun _ => false, fun _ => none⟩
noncomputable def c_s_Newer : Code := Tryz.f198.body.getD .skip
theorem x_ad0 : FOk Tryz.prog 198 (x_7m) := by
 let K := 0
 exact
 x_a (T := t_s_Newer K) (H := h_s_Newer) (K := K) (c := c_s_Newer) (ts := [.tmp 6]) Tryz.func198 (by kernel_rfl) (by kernel_rfl) (by kernel_rfl) rfl
  (tokc (x_b1) (tok0 x_k)) mixed
  (fun v => by kernel_rfl)
noncomputable def x_acg (K : Nat) : FSp := { ps := [.val true x_hh [.f, .f, .f, .f, .f, .r, .r, .r, .r, .f, .r, .r, .f, .r, .r, .r, .f, .r, .r, .r, .f, .r, .r, .r, .f, .r], .val true eRpc [.f, .f, .f, .f, .f, .f, .f, .r, .f, .f]], rs := [(true, x_hh, [.f, .f, .f, .f, .f, .x 0, .x 0, .x 0, .x 0, .f, .x 0, .x 0, .f, .x 0, .x 0, .x 0, .f, .x 0, .x 0, .x 0, .f, .x 0, .x 0, .x 0, .f, .x 0]), (false, .b, [.f])], fn := fun v => s_Tell K v.1 v.2.1 }
noncomputable def t_s_Tell (K : Nat) : Tab := x_ai (tiOf tys) [(40, x_co K), (92, x_pp)]
def h_s_Tell : Hint := ⟨msk [28, 92, 4184, 48, 80, 48], fun _ _ => false, fun _ => false, fun _ => none⟩
noncomputable def c_s_Tell : Code := Tryz.f207.body.getD .skip
theorem ok_s_Tell (K : Nat) : FOk Tryz.prog 207 (x_acg K) :=
 x_a (T := t_s_Tell K) (H := h_s_Tell) (K := K) (c := c_s_Tell) (ts := [.cell 4 51, .tmp 5]) Tryz.func207 (by kernel_rfl) (by kernel_rfl) (by kernel_rfl) rfl
  (tokc (x_cl K) (tokc (x_q4) (tok0 x_k))) mixed
  (fun v => by kernel_rfl)
noncomputable def x_jn (K : Nat) : FSp := { ps := [.ptr x_fp [.f, .f, .f, .f, .f, .f, .f, .f, .f, .f, .f, .f, .f, .f, .f, .f, .f, .f, .x 0, .x 0, .x 0, .f, .x 0, .x 0, .x 0, .f, .x 0, .x 0, .f, .f, .f, .f], .val true eRpc [.f, .f, .f, .f, .f, .f, .f, .r, .f, .f]], rs := [], fn := fun v => x_ek K v.1 v.2.1 }
noncomputable def x_92 (K : Nat) : Tab := x_ai (tiOf tys) [(207, x_acg K), (150, x_s5 K)]
def x_9k : Hint := ⟨msk [9, 1033, 9, 9, 57, 17, 1], fun _ _ => false, fun _ => false, fun _ => none⟩
noncomputable def x_aax : Code := Tryz.f181.body.getD .skip
theorem x_kg (K : Nat) : FOk Tryz.prog 181 (x_jn K) :=
 x_a (T := x_92 K) (H := x_9k) (K := K) (c := x_aax) (ts := []) Tryz.func181 (by kernel_rfl) (by kernel_rfl) (by kernel_rfl) rfl
  (tokc (ok_s_Tell K) (tokc (x_v4 K) (tok0 x_k))) mixed
  (fun v => by kernel_rfl)
noncomputable def x_2p (K : Nat) : FSp := { ps := [.ptr x_fp [.f, .f, .f, .f, .f, .f, .f, .f, .f, .f, .f, .f, .f, .f, .f, .f, .f, .f, .x 0, .x 0, .x 0, .f, .x 0, .x 0, .x 0, .f, .x 0, .x 0, .f, .f, .f, .f], .val true eRpc [.f, .f, .f, .f, .f, .f, .f, .r, .f, .f]], rs := [], fn := fun v => x_fy K v.1 v.2.1 }
noncomputable def x_ac6 (K : Nat) : Tab := x_ai (tiOf tys) [(198, x_7m), (180, x_e0 K), (181, x_jn K)]
def x_acx : Hint := ⟨msk [9, 25, 57, 4398046511161, 41, 1], fun _ _ => false, fun _ => false, fun _ => none⟩
noncomputable def x_ahr : Code := Tryz.f174.body.getD .skip
theorem x_abk (K : Nat) : FOk Tryz.prog 174 (x_2p K) :=
 x_a (T := x_ac6 K) (H := x_acx) (K := K) (c := x_ahr) (ts := []) Tryz.func174 (by kernel_rfl) (by kernel_rfl) (by kernel_rfl) rfl
  (tokc (x_ad0) (tokc (x_fd K) (tokc (x_kg K) (tok0 x_k)))) mixed
  (fun v => by kernel_rfl)
noncomputable def x_z6 : FSp := { ps := [.val false .b [.f]], rs := [(false, (.i .i64), [.f])], fn := fun v => x_3s v.1 }
noncomputable def t_s_l1Bit (K : Nat) : Tab := x_ai (tiOf tys) []
def h_s_l1Bit : Hint := ⟨msk [1, 9, 4, 4], fun _ _ => false, fun _ => false, fun _ => none⟩
noncomputable def c_s_l1Bit : Code := Tryz.f199.body.getD .skip
theorem x_2j : FOk Tryz.prog 199 (x_z6) := by
 let K := 0
 exact
 x_a (T := t_s_l1Bit K) (H := h_s_l1Bit) (K := K) (c := c_s_l1Bit) (ts := [.tmp 2]) Tryz.func199 (by kernel_rfl) (by kernel_rfl) (by kernel_rfl) rfl
  (tok0 x_k) mixed
  (fun v => by kernel_rfl)
noncomputable def x_z2 : FSp := { ps := [.val false (.i .i64) [.f]], rs := [(false, (.i .i64), [.f])], fn := fun v => x_6o v.1 }
noncomputable def t_s_Most (K : Nat) : Tab := x_ai (tiOf tys) []
def h_s_Most : Hint := ⟨msk [1, 4], fun _ _ => false, fun _ => false, fun _ => none⟩
noncomputable def c_s_Most : Code := Tryz.f182.body.getD .skip
theorem x_y8 : FOk Tryz.prog 182 (x_z2) := by
 let K := 0
 exact
 x_a (T := t_s_Most K) (H := h_s_Most) (K := K) (c := c_s_Most) (ts := [.tmp 2]) Tryz.func182 (by kernel_rfl) (by kernel_rfl) (by kernel_rfl) rfl
  (tok0 x_k) mixed
  (fun v => by kernel_rfl)
noncomputable def x_qq (K : Nat) : FSp := { ps := [.ptr x_fp [.f, .f, .f, .f, .f, .f, .f, .f, .f, .f, .f, .f, .f, .f, .f, .f, .f, .f, .x 0, .f, .f, .f, .x 0, .x 0, .x 0, .f, .x 0, .x 0, .f, .f, .f, .f]], rs := [], fn := fun v => x_pf K v.1 }
noncomputable def x_aai (K : Nat) : Tab := x_ai (tiOf tys) [(40, x_co K), (32, x_cc), (128, x_e8 K), (180, x_e0 K)]
def x_90 : Hint := ⟨msk [5, 29, 29, 29, 29, 5, 302231454903657293676549, 1, 1, 1], fun _ _ => false, fun _ => false, fun _ => none⟩
noncomputable def x_8y : Code := Tryz.f183.body.getD .skip
theorem x_v0 (K : Nat) : FOk Tryz.prog 183 (x_qq K) :=
 x_a (T := x_aai K) (H := x_90) (K := K) (c := x_8y) (ts := []) Tryz.func183 (by kernel_rfl) (by kernel_rfl) (by kernel_rfl) rfl
  (tokc (x_cl K) (tokc (x_b1) (tokc (x_og K) (tokc (x_fd K) (tok0 x_k))))) mixed
  (fun v => by kernel_rfl)
noncomputable def x_hc (K : Nat) : FSp := { ps := [.ptr x_fp [.f, .f, .f, .f, .f, .f, .f, .f, .f, .f, .f, .f, .f, .f, .f, .f, .f, .f, .x 0, .f, .f, .f, .x 0, .x 0, .x 0, .f, .x 0, .x 0, .f, .f, .f, .f], .val true eRpc [.f, .f, .f, .f, .f, .f, .f, .r, .f, .f]], rs := [], fn := fun v => x_bi K v.1 v.2.1 }
noncomputable def x_j6 (K : Nat) : Tab := x_ai (tiOf tys) [(199, x_z6), (182, x_z2), (183, x_qq K)]
def x_q9 : Hint := ⟨msk [9, 134217737, 1, 17, 49, 2199023255601, 49, 49, 2305843009213693953, 1], fun _ _ => false, fun _ => false, fun _ => none⟩
noncomputable def x_rx : Code := Tryz.f175.body.getD .skip
noncomputable def x_bi.g0 (K : Nat) (a0 : x_e) (a1 : TRpc) (n : Nat) (q0 : Int) (q1 : Int) : Option (x_e × Unit) :=
 lpg (x_j6 K) x_q9 K x_rx [.r, .r, .r, .r, .l, .r, .b] n ⟨[.one (.ptr 0 0 0), .dead, .dead, .dead, .one (.val .f (.i .i64) q0), .one (.val .f (.i .i64) q1)] ++ List.replicate 58 .dead, [some (0, [.val .f (.i .i64) a0.1.1, .val .f (.i .i64) a0.1.2.1, .val .f (.i .i64) a0.1.2.2.1, .val .f (.i .i64) a0.1.2.2.2, .val .f (.i .i64) a0.2.1, .val .f (.i .i64) a0.2.2.1.1, .val .f (.i .i64) a0.2.2.1.2.1.1, .val .f (.i .i64) a0.2.2.1.2.1.2.1, .val .f (.i .i64) a0.2.2.1.2.1.2.2.1.1, .val .f (.i .i64) a0.2.2.1.2.1.2.2.1.2.1, .val .f (.sl x_ct) a0.2.2.1.2.1.2.2.1.2.2, .val .f (.sl eRow) a0.2.2.1.2.1.2.2.2.1, .val .f (.sl x_at) a0.2.2.1.2.1.2.2.2.2.1, .val .f (.sl x_ar) a0.2.2.1.2.1.2.2.2.2.2.1, .val .f (.i .i64) a0.2.2.1.2.1.2.2.2.2.2.2.1, .val .f (.sl (.i .i64)) a0.2.2.1.2.1.2.2.2.2.2.2.2.1, .val .f (.sl x_2) a0.2.2.1.2.1.2.2.2.2.2.2.2.2, .val .f (.i .i64) a0.2.2.1.2.2.1, .val (.x 0) (.sl .b) (a0.2.2.1.2.2.2.1.set (Int.toNat a1.2.1) true), .val .f (.sl (.i .i64)) a0.2.2.1.2.2.2.2.1, .val .f (.sl (.i .i64)) a0.2.2.1.2.2.2.2.2.1, .val .f (.i .i64) a0.2.2.1.2.2.2.2.2.2.1, .val (.x 0) (.sl eRow) a0.2.2.1.2.2.2.2.2.2.2.1.1, .val (.x 0) (.sl x_at) a0.2.2.1.2.2.2.2.2.2.2.1.2.1, .val (.x 0) (.sl x_ar) a0.2.2.1.2.2.2.2.2.2.2.1.2.2.1, .val .f (.i .i64) a0.2.2.1.2.2.2.2.2.2.2.1.2.2.2.1, .val (.x 0) (.sl (.i .i64)) a0.2.2.1.2.2.2.2.2.2.2.1.2.2.2.2.1, .val (.x 0) (.sl x_2) a0.2.2.1.2.2.2.2.2.2.2.1.2.2.2.2.2, .val .f (.sl (.i .u8)) a0.2.2.1.2.2.2.2.2.2.2.2.1.1, .val .f (.i .i64) a0.2.2.1.2.2.2.2.2.2.2.2.1.2, .val .f (.sl eRpc) a0.2.2.1.2.2.2.2.2.2.2.2.2, .val .f .b a0.2.2.2])] ++ List.replicate 63 none⟩ (endK (x_j6 K).toEnv (x_hc K) [])
theorem x_bi.ok0 (K : Nat) (a0 : x_e) (a1 : TRpc) (n : Nat) : x_bi.g0 K a0 a1 n = x_bi.l0 K a0 a1 n := by
 induction n with
 | zero =>
  funext q0 q1
  kernel_rfl
 | succ n ih =>
  funext q0 q1
  have e : x_bi.g0 K a0 a1 (n + 1) q0 q1 = x_bi.l0b K a0 a1 (x_bi.g0 K a0 a1 n) q0 q1 := by kernel_rfl
  rw [ih] at e
  refine e.trans ?_
  kernel_rfl
theorem x_42 (K : Nat) : FOk Tryz.prog 175 (x_hc K) :=
 x_a (T := x_j6 K) (H := x_q9) (K := K) (c := x_rx) (ts := []) Tryz.func175 (by kernel_rfl) (by kernel_rfl) (by kernel_rfl) rfl
  (tokc (x_2j) (tokc (x_y8) (tokc (x_v0 K) (tok0 x_k)))) mixed
  (fun v => by
  have k0 := x_bi.ok0 K v.1 v.2.1 K
  have e : run (x_j6 K) x_q9 K x_rx (x_ax (x_hc K).pk (x_hc K).ps Tryz.f175.ntmps (lv _ v)) (endK (x_j6 K).toEnv (x_hc K) []) = x_bi.b K v.1 v.2.1 (x_bi.g0 K v.1 v.2.1 K) := by kernel_rfl
  rw [k0] at e
  refine e.trans ?_
  kernel_rfl)
noncomputable def x_te (K : Nat) : FSp := { ps := [.ptr x_fp [.f, .f, .f, .f, .f, .f, .f, .f, .f, .f, .f, .f, .f, .f, .f, .f, .f, .f, .x 0, .x 0, .x 0, .f, .x 0, .x 0, .x 0, .f, .x 0, .x 0, .f, .f, .f, .f], .val false (.i .i64) [.f], .val false .b [.f], .val false (.i .i64) [.f]], rs := [], fn := fun v => x_eb K v.1 v.2.1 v.2.2.1 v.2.2.2.1 }
noncomputable def x_ago (K : Nat) : Tab := x_ai (tiOf tys) [(181, x_jn K)]
def x_ac0 : Hint := ⟨msk [1], fun _ _ => false, fun _ => false, fun _ => none⟩
noncomputable def x_aec : Code := Tryz.f200.body.getD .skip
theorem x_yi (K : Nat) : FOk Tryz.prog 200 (x_te K) :=
 x_a (T := x_ago K) (H := x_ac0) (K := K) (c := x_aec) (ts := []) Tryz.func200 (by kernel_rfl) (by kernel_rfl) (by kernel_rfl) rfl
  (tokc (x_kg K) (tok0 x_k)) mixed
  (fun v => by kernel_rfl)
noncomputable def x_hj (K : Nat) : FSp := { ps := [.val true x_hh [.f, .f, .f, .f, .f, .r, .r, .r, .r, .f, .r, .r, .f, .r, .r, .r, .f, .r, .r, .r, .f, .r, .r, .r, .f, .r], .val true eLog [.f, .f, .r]], rs := [(false, .b, [.f])], fn := fun v => x_bp K v.1 v.2.1 }
noncomputable def x_j9 (K : Nat) : Tab := x_ai (tiOf tys) [(32, x_cc), (139, x_h9)]
def x_rv : Hint := ⟨msk [12, 44, 65548, 16, 140, 33554572, 140, 68719476876, 16, 16], fun _ _ => false, fun _ => false, fun _ => none⟩
noncomputable def x_rs : Code := Tryz.f201.body.getD .skip
noncomputable def x_bp.g0 (K : Nat) (a0 : x_bt) (a1 : TLog) (n : Nat) (q0 : Int) : Option (Bool × Unit) :=
 lpg (x_j9 K) x_rv K x_rs [.r, .r, .r, .l, .r, .b] n ⟨[.dead, .dead, .one (.ptr 2 1 0), .one (.ptr 3 1 0), .dead, .dead, .dead, .one (.val .f (.i .i64) q0)] ++ List.replicate 29 .dead, [none, none, some (1, [.val .f (.i .i64) a0.1, .val .f (.i .i64) a0.2.1.1, .val .f (.i .i64) a0.2.1.2.1, .val .f (.i .i64) a0.2.1.2.2.1.1, .val .f (.i .i64) a0.2.1.2.2.1.2.1, .val .r (.sl x_ct) a0.2.1.2.2.1.2.2, .val .r (.sl eRow) a0.2.1.2.2.2.1, .val .r (.sl x_at) a0.2.1.2.2.2.2.1, .val .r (.sl x_ar) a0.2.1.2.2.2.2.2.1, .val .f (.i .i64) a0.2.1.2.2.2.2.2.2.1, .val .r (.sl (.i .i64)) a0.2.1.2.2.2.2.2.2.2.1, .val .r (.sl x_2) a0.2.1.2.2.2.2.2.2.2.2, .val .f (.i .i64) a0.2.2.1, .val .r (.sl .b) a0.2.2.2.1, .val .r (.sl (.i .i64)) a0.2.2.2.2.1, .val .r (.sl (.i .i64)) a0.2.2.2.2.2.1, .val .f (.i .i64) a0.2.2.2.2.2.2.1, .val .r (.sl eRow) a0.2.2.2.2.2.2.2.1.1, .val .r (.sl x_at) a0.2.2.2.2.2.2.2.1.2.1, .val .r (.sl x_ar) a0.2.2.2.2.2.2.2.1.2.2.1, .val .f (.i .i64) a0.2.2.2.2.2.2.2.1.2.2.2.1, .val .r (.sl (.i .i64)) a0.2.2.2.2.2.2.2.1.2.2.2.2.1, .val .r (.sl x_2) a0.2.2.2.2.2.2.2.1.2.2.2.2.2, .val .r (.sl (.i .u8)) a0.2.2.2.2.2.2.2.2.1.1, .val .f (.i .i64) a0.2.2.2.2.2.2.2.2.1.2, .val .r (.sl eRpc) a0.2.2.2.2.2.2.2.2.2]), some (1, [.val .f (.i .i64) a1.1, .val .f (.i .i64) a1.2.1, .val .r (.sl x_ct) a1.2.2])] ++ List.replicate 33 none⟩ (endK (x_j9 K).toEnv (x_hj K) [.tmp 4])
theorem x_bp.ok0 (K : Nat) (a0 : x_bt) (a1 : TLog) (n : Nat) : x_bp.g0 K a0 a1 n = x_bp.l0 K a0 a1 n := by
 induction n with
 | zero =>
  funext q0
  kernel_rfl
 | succ n ih =>
  funext q0
  have e : x_bp.g0 K a0 a1 (n + 1) q0 = x_bp.l0b K a0 a1 (x_bp.g0 K a0 a1 n) q0 := by kernel_rfl
  rw [ih] at e
  refine e.trans ?_
  kernel_rfl
theorem x_5d (K : Nat) : FOk Tryz.prog 201 (x_hj K) :=
 x_a (T := x_j9 K) (H := x_rv) (K := K) (c := x_rs) (ts := [.tmp 4]) Tryz.func201 (by kernel_rfl) (by kernel_rfl) (by kernel_rfl) rfl
  (tokc (x_b1) (tokc (x_hf) (tok0 x_k))) mixed
  (fun v => by
  have k0 := x_bp.ok0 K v.1 v.2.1 K
  have e : run (x_j9 K) x_rv K x_rs (x_ax (x_hj K).pk (x_hj K).ps Tryz.f201.ntmps (lv _ v)) (endK (x_j9 K).toEnv (x_hj K) [.tmp 4]) = x_bp.b K v.1 v.2.1 (x_bp.g0 K v.1 v.2.1 K) := by kernel_rfl
  rw [k0] at e
  refine e.trans ?_
  kernel_rfl)
noncomputable def x_ik : FSp := { ps := [.val false (.i .i64) [.f], .val false (.i .i64) [.f]], rs := [(false, (.i .i64), [.f])], fn := fun v => x_jx v.1 v.2.1 }
noncomputable def t_s_l1Min (K : Nat) : Tab := x_ai (tiOf tys) []
def h_s_l1Min : Hint := ⟨msk [3, 131, 19, 19], fun _ _ => false, fun _ => false, fun _ => none⟩
noncomputable def c_s_l1Min : Code := Tryz.f168.body.getD .skip
theorem x_id : FOk Tryz.prog 168 (x_ik) := by
 let K := 0
 exact
 x_a (T := t_s_l1Min K) (H := h_s_l1Min) (K := K) (c := c_s_l1Min) (ts := [.tmp 4]) Tryz.func168 (by kernel_rfl) (by kernel_rfl) (by kernel_rfl) rfl
  (tok0 x_k) mixed
  (fun v => by kernel_rfl)
noncomputable def x_d6 (K : Nat) : FSp := { ps := [.val false (.sl x_ct) [.r], .val false (.sl x_ct) [.r]], rs := [(false, .b, [.f])], fn := fun v => x_ah K v.1 v.2.1 }
noncomputable def x_fr (K : Nat) : Tab := x_ai (tiOf tys) []
def x_ko : Hint := ⟨msk [3, 35, 32803, 35, 67108899, 16, 16], fun _ _ => false, fun _ => false, fun _ => none⟩
noncomputable def x_kp : Code := Tryz.f202.body.getD .skip
noncomputable def x_ah.g0 (K : Nat) (a0 : List x_au) (a1 : List x_au) (n : Nat) (q0 : Int) : Option (Bool × Unit) :=
 lpg (x_fr K) x_ko K x_kp [.r, .l, .r, .b] n ⟨[.one (.val .r (.sl x_ct) a0), .one (.val .r (.sl x_ct) a1), .dead, .dead, .dead, .one (.val .f (.i .i64) q0)] ++ List.replicate 26 .dead, List.replicate 32 none⟩ (endK (x_fr K).toEnv (x_d6 K) [.tmp 4])
theorem x_ah.ok0 (K : Nat) (a0 : List x_au) (a1 : List x_au) (n : Nat) : x_ah.g0 K a0 a1 n = x_ah.l0 K a0 a1 n := by
 induction n with
 | zero =>
  funext q0
  kernel_rfl
 | succ n ih =>
  funext q0
  have e : x_ah.g0 K a0 a1 (n + 1) q0 = x_ah.l0b K a0 a1 (x_ah.g0 K a0 a1 n) q0 := by kernel_rfl
  rw [ih] at e
  refine e.trans ?_
  kernel_rfl
theorem x_w5 (K : Nat) : FOk Tryz.prog 202 (x_d6 K) :=
 x_a (T := x_fr K) (H := x_ko) (K := K) (c := x_kp) (ts := [.tmp 4]) Tryz.func202 (by kernel_rfl) (by kernel_rfl) (by kernel_rfl) rfl
  (tok0 x_k) mixed
  (fun v => by
  have k0 := x_ah.ok0 K v.1 v.2.1 K
  have e : run (x_fr K) x_ko K x_kp (x_ax (x_d6 K).pk (x_d6 K).ps Tryz.f202.ntmps (lv _ v)) (endK (x_fr K).toEnv (x_d6 K) [.tmp 4]) = x_ah.b K v.1 v.2.1 (x_ah.g0 K v.1 v.2.1 K) := by kernel_rfl
  rw [k0] at e
  refine e.trans ?_
  kernel_rfl)
end Go.Proofs.YtkdamnchchhjeaaGreatDoor.Fs
