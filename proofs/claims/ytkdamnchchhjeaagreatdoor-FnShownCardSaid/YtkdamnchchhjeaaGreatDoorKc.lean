/- A small machine over plain lists, and the proof that what it computes is what the Go function computes. -/
import Derived.Test.YtkdamnchchhjeaaGreatDoorKb
import Derived.ChangeArms
import Derived.WideShapes
import Derived.ChangeShapes
import Derived.Below
import Derived.Carry
import Derived.SizedLaws
import Derived.HandedShaped
import Derived.OpenShut
import Derived.RowKit
import Derived.ChangeOld
import Derived.KernelRfl
import Derived.Lib.ItoaNum
import Derived.Lib.AtoiAll
import Derived.Lib.Join
import Derived.Lib.SplitLaws
import Derived.Lib.LaidTab
import Derived.Lib.SmallJoins
import Derived.LaidMore
import Derived.LaidOnce
import Derived.Sort.Grow
set_option linter.all false
namespace Go.Kn
variable [Ctx]
variable {P : Program} {D : Key × Nat → Prop} {st st' : St} {tm : Array Value} {w w1 : World} {g : Gh} {ds : List Deferred} {E : Env}
inductive RS where
 | tmp (t : Nat) | cell (a : Nat) (t : TypeId)
def RS.var : RS → ResultVar
 | .tmp t => .tmp t
 | .cell a t => .cell a t
def resSrc (E : Env) : RS → Pr SC
 | .tmp t => .rs t fun x => .ret (x_52 t x)
 | .cell a t => .rs a fun x => loadR E t (x_52 a x)
def fR (m : Md) : Md := if noR m then m else .f
def dropR (z : List Cell) (a : List (Md × Cell)) : List (Md × Cell) := List.zipWith (fun z x => if noR x.1 then x else (.f, z)) z a
def isVal : Cell → Bool
 | .val _ _ _ => true
 | _ => false
def dropP (e : ET) (ms : List Md) (a : List (Md × Cell)) : Pr (List (Md × Cell)) :=
 if ms.all noR then .ret a else if (x_c3 e).length = a.length && a.all (fun x => noR x.1 || isVal x.2) then .ret (dropR (x_c3 e) a) else .fail
def x_4v (E : Env) : List (Bool × ET × List Md) → List RS → Pr (List (Md × Cell))
 | [], [] => .ret []
 | r :: rs, t :: ts => (resSrc E t).bind fun x => (zipV r.1 r.2.2 x).bind fun a0 => (dropP r.2.1 r.2.2 a0).bind fun a => (x_4v E rs ts).bind fun b => .ret (a ++ b)
 | _, _ => .fail
def x_oh : Nat → List Par → Pr (List (Md × Cell))
 | _, [] => .ret []
 | k, .val _ _ _ :: ps => x_oh (k + 1) ps
 | k, .ptr _ ms :: ps => if ms.length = 0 || !ms.all noR then .fail else .ln k ms.length ((x_tm k 0 0 ms.length).bind fun cs => (x_oh (k + 1) ps).bind fun b => .ret (ms.zip cs ++ b))
noncomputable def endP (E : Env) (F : FSp) (ts : List RS) : Pr (resE F.ps F.rs).val :=
 (x_4v E F.rs ts).bind fun a => (x_oh 0 F.ps).bind fun b => (giveCs (a ++ b)).bind fun ls => x_p4 (resE F.ps F.rs) ls
noncomputable def endK (E : Env) (F : FSp) (ts : List RS) (e : Ex) (st : St) : Option (resE F.ps F.rs).val := match e with
 | .exit _ => none
 | _ => (endP E F ts).run st [] [] fun a _ _ _ => some a
theorem zipV_ends {agg : Bool} {ms : List Md} {x : SC} {v : Value} {a : List (Md × Cell)} (O : Opd D st tm w g x v) (h1 : (zipV agg ms x).Ends st a st') :
  st' = st ∧ ∃ c, a = ms.zip c ∧ c.length = ms.length ∧ c.length = v.cells.toList.length ∧ (∀ (j : Nat) y, c[j]? = some y → ∃ cv, v.cells.toList[j]? = some cv ∧ okCell D st tm w g y cv) ∧ x_gv agg v := by
 unfold zipV at h1
 split at h1
 ·rename_i cs
  split at h1
  ·rename_i hl
   obtain ⟨rfl, hs⟩ := Pr.ends_ret h1
   obtain ⟨h5, h6⟩ := x_fj (agg := true) O (.inl ⟨rfl, rfl⟩)
   obtain ⟨us, rfl, _⟩ := O.agg
   exact ⟨hs, cs, rfl, hl.symm, h5, h6, _, rfl⟩
  ·exact (Pr.ends_fail h1).elim
 ·rename_i c
  split at h1
  ·rename_i hl
   obtain ⟨rfl, hs⟩ := Pr.ends_ret h1
   obtain ⟨h5, h6⟩ := x_fj (agg := false) O (.inr ⟨rfl, _, rfl, rfl⟩)
   exact ⟨hs, [c], rfl, hl.symm, h5, h6, O.one.1⟩
  ·exact (Pr.ends_fail h1).elim
 ·exact (Pr.ends_fail h1).elim
def x_aes (P : Program) (tm : Array Value) (w : World) (t : RS) (v : Value) : Prop := (match t with
 | .tmp t => (pure (tm.getD t undef) : Sem Value)
 | .cell a t => do loadVar t (← asAddr (tm.getD a undef))).run P w = .ok v w
theorem x_6s {t : TypeId} {v v' : Value} (h : (Instr.loadAt t v).run P w = .ok v' w) : ((do loadVar t (← asAddr v)) : Sem Value).run P w = .ok v' w := by
 cases v with
 | pointer a =>
  cases a with
  | some a => simpa [Instr.loadAt, Instr.sureAddr, asAddr] using h
  | none => simp [Instr.loadAt, Instr.sureAddr] at h
 | _ => simp [Instr.loadAt, Instr.sureAddr] at h
theorem x_ya {T : Tab} (TO : x_f2 P T.ti) (I : Inv D st tm w g) {t : RS} {x : SC} {s1 : St} (he : (resSrc T.toEnv t).Ends st x s1) : s1 = st ∧ ∃ v, x_aes P tm w t v ∧ Opd D st tm w g x v := by
 cases t with
 | tmp t =>
  have he : (Pr.rs t fun x => .ret (x_52 t x)).Ends st x s1 := he
  have he := Pr.ends_rs he
  obtain ⟨rfl, hs⟩ := Pr.ends_ret he
  exact ⟨hs, _, rfl, x_5p I t⟩
 | cell a t =>
  have he : (Pr.rs a fun x => loadR T.toEnv t (x_52 a x)).Ends st x s1 := he
  have he := Pr.ends_rs he
  obtain ⟨hs, v, h1, h2⟩ := x_8f TO I (x_5p I a) he
  refine ⟨hs, v, ?_, h2⟩
  show ((do loadVar t (← asAddr (tm.getD a undef))) : Sem Value).run P w = _
  exact x_6s h1
theorem x_afs : ∀ e : ET, ∃ c : List Value, (x_c3 e).length = c.length ∧ ∀ (j : Nat) x, (x_c3 e)[j]? = some x → ∃ cv, c[j]? = some cv ∧ okCell D st tm w g x cv
 | .p x y => by
  obtain ⟨c, hl, hc⟩ := x_afs x
  obtain ⟨d, hl', hd⟩ := x_afs y
  refine ⟨c ++ d, by simp [x_c3, hl, hl'], fun j z hz => ?_⟩
  simp only [x_c3, List.getElem?_append] at hz ⊢
  rw [← hl]
  split at hz
  ·rename_i a; rw [if_pos a]; exact hc j z hz
  ·rename_i a; rw [if_neg a]; exact hd _ z hz
 | .u => ⟨[], rfl, fun j x hx => by simp [x_c3] at hx⟩
 | .sl x => ⟨_, x_g8 (x := .nil x) (v := .slice none 0 0) ⟨trivial, by simp [stC], rfl⟩⟩
 | .i k => ⟨_, x_g8 (x := x_lf ⟨.i k, (0 : Int)⟩) (v := .int k 0) ⟨trivial, by simp [stC, x_lf], rfl, rfl⟩⟩
 | .b => ⟨_, x_g8 (x := x_lf ⟨.b, false⟩) (v := .bool false) ⟨trivial, by simp [stC, x_lf], rfl, rfl⟩⟩
 | .s => ⟨_, x_g8 (x := x_lf ⟨.s, ByteArray.empty⟩) (v := .string ByteArray.empty) ⟨trivial, by simp [stC, x_lf], rfl, rfl⟩⟩
 | .er => ⟨_, x_g8 (x := x_lf ⟨.er, false⟩) (v := .nilIface) ⟨trivial, by simp [stC, x_lf], rfl, _, rfl, by simp [x_39]⟩⟩
theorem drop_ends {e : ET} {ms : List Md} {c : List Cell} {us : List Value} {a : List (Md × Cell)} {s1 : St} (he : (dropP e ms (ms.zip c)).Ends st a s1) (hl : c.length = ms.length) (hu : us.length = ms.length)
  (hc : ∀ (j : Nat) y, c[j]? = some y → ∃ cv, us[j]? = some cv ∧ okCell D st tm w g y cv) :
  s1 = st ∧ a.map (·.1) = ms.map fR ∧ (∀ (j : Nat) m u, ms[j]? = some m → us[j]? = some u → noR m = false → x_ca u) ∧ ∃ zs : List Value, zs.length = ms.length ∧ (∀ (j : Nat) m, ms[j]? = some m → noR m = true → zs[j]? = us[j]?) ∧ ∀ (j : Nat) x, a[j]? = some x → ∃ cv, zs[j]? = some cv ∧ okCell D st tm w g x.2 cv := by
 unfold dropP at he
 split at he
 ·rename_i ha
  obtain ⟨rfl, hs⟩ := Pr.ends_ret he
  refine ⟨hs, ?_, fun j m u hm _ hn => ?_, us, hu, fun _ _ _ _ => rfl, fun j x hx => ?_⟩
  ·rw [List.map_fst_zip (by omega)]
   conv => lhs; rw [← List.map_id ms]
   refine List.map_congr_left fun m hm => ?_
   simp [fR, List.all_eq_true.1 ha m hm]
  ·rw [List.all_eq_true.1 ha m (List.mem_of_getElem? hm)] at hn; cases hn
  ·rw [List.getElem?_zip_eq_some] at hx
   exact hc j x.2 hx.2
 ·split at he
  ·rename_i hn
   simp only [Bool.and_eq_true, decide_eq_true_eq] at hn
   obtain ⟨hn, hv⟩ := hn
   obtain ⟨rfl, hs⟩ := Pr.ends_ret he
   obtain ⟨zs, k1, k2⟩ := x_afs (D := D) (st := st) (tm := tm) (w := w) (g := g) e
   have hz : (ms.zip c).length = ms.length := by simp [hl]
   have hnl : (x_c3 e).length = ms.length := by omega
   refine ⟨hs, ?_, fun j m u hm hu' hno => ?_, List.zipWith (fun (m : Md × Value) u => if noR m.1 then u else m.2) (ms.zip zs) us, by simp; omega, fun j m hm hr => ?_, fun j x hx => ?_⟩
   ·apply List.ext_getElem?
    intro j
    simp only [dropR, List.getElem?_map, List.getElem?_zipWith]
    rcases Nat.lt_or_ge j ms.length with h | h
    ·rw [List.getElem?_eq_getElem (by omega), List.getElem?_eq_getElem (by omega), List.getElem?_eq_getElem h]
     simp only [Option.map_some, List.getElem_zip, fR]
     split <;> rfl
    ·rw [List.getElem?_eq_none (by omega), List.getElem?_eq_none h]; simp
   ·have h := (List.getElem?_eq_some_iff.1 hm).1
    have hx : (ms.zip c)[j]? = some (m, c[j]) := by rw [List.getElem?_zip_eq_some]; exact ⟨hm, List.getElem?_eq_getElem (by omega)⟩
    have h1 := List.all_eq_true.1 hv _ (List.mem_of_getElem? hx)
    simp only [hno, Bool.false_or] at h1
    obtain ⟨cv, h2, h3⟩ := hc j _ (List.getElem?_eq_getElem (show j < c.length by omega))
    rw [hu'] at h2
    obtain rfl := Option.some.inj h2
    obtain ⟨hnx, _, hr⟩ := h3
    revert h1 hnx hr
    generalize c[j] = y
    intro h1 hnx hr
    match y, h1, hnx, hr with
    | .val .f e v, _, _, hr => exact x_c5 hr
    | .val .r e v, _, _, hr => exact x_c5 hr
    | .val (.x _) e v, _, _, hr => obtain ⟨x, rfl, hr⟩ := hr; exact x_c5 hr
   ·have h := (List.getElem?_eq_some_iff.1 hm).1
    have hm' : ms[j] = m := (List.getElem?_eq_some_iff.1 hm).2
    simp only [List.getElem?_zipWith]
    rw [List.getElem?_eq_getElem (show j < (ms.zip zs).length by simp; omega), List.getElem?_eq_getElem (show j < us.length by omega)]
    simp [hm', hr]
   ·have h : j < ms.length := by
     have := (List.getElem?_eq_some_iff.1 hx).1
     simp only [dropR, List.length_zipWith] at this
     omega
    simp only [dropR, List.getElem?_zipWith] at hx ⊢
    rw [List.getElem?_eq_getElem (show j < (x_c3 e).length by omega), List.getElem?_eq_getElem (show j < (ms.zip c).length by omega)] at hx
    rw [List.getElem?_eq_getElem (show j < (ms.zip zs).length by simp; omega), List.getElem?_eq_getElem (show j < us.length by omega)]
    simp only [List.getElem_zip, Option.some.injEq] at hx ⊢
    obtain ⟨cv, h1, h2⟩ := hc j _ (List.getElem?_eq_getElem (by omega))
    obtain ⟨cv', h3, h4⟩ := k2 j _ (List.getElem?_eq_getElem (by omega))
    refine ⟨_, rfl, ?_⟩
    rw [← hx]
    by_cases hr : noR ms[j] = true
    ·rw [if_pos hr, if_pos hr]
     rw [List.getElem?_eq_getElem (by omega)] at h1
     rw [Option.some.inj h1]; exact h2
    ·rw [if_neg hr, if_neg hr]
     rw [List.getElem?_eq_getElem (by omega)] at h3
     rw [Option.some.inj h3]; exact h4
  ·exact (Pr.ends_fail he).elim
theorem x_r2 {T : Tab} (TO : x_f2 P T.ti) (I : Inv D st tm w g) : ∀ (rs : List (Bool × ET × List Md)) (ts : List RS) (r : List (Md × Cell)) (s1 : St), (x_4v T.toEnv rs ts).Ends st r s1 →
  s1 = st ∧ rs.length = ts.length ∧ r.map (·.1) = (rs.flatMap (fun r => r.2.2)).map fR ∧ ∃ vs : List Value, vs.length = ts.length ∧ (∀ (j : Nat) t v, ts[j]? = some t → vs[j]? = some v → x_aes P tm w t v) ∧
   (∀ (j : Nat) q v, rs[j]? = some q → vs[j]? = some v → x_gv q.1 v ∧ v.cells.size = q.2.2.length) ∧
   (∀ (j : Nat) m u, (rs.flatMap (fun r => r.2.2))[j]? = some m → (vs.flatMap fun v => v.cells.toList)[j]? = some u → noR m = false → x_ca u) ∧
   ∃ us : List Value, r.length = us.length ∧ us.length = (vs.flatMap fun v => v.cells.toList).length ∧
    (∀ (j : Nat) m, (rs.flatMap (fun r => r.2.2))[j]? = some m → noR m = true → us[j]? = (vs.flatMap fun v => v.cells.toList)[j]?) ∧
    ∀ (j : Nat) x, r[j]? = some x → ∃ cv, us[j]? = some cv ∧ okCell D st tm w g x.2 cv
 | [], [], r, s1, he => by obtain ⟨rfl, hs⟩ := Pr.ends_ret he; exact ⟨hs, rfl, rfl, [], rfl, by simp, by simp, by simp, [], rfl, rfl, by simp, by simp⟩
 | [], _ :: _, r, s1, he => (Pr.ends_fail he).elim
 | _ :: _, [], r, s1, he => (Pr.ends_fail he).elim
 | q :: rs, t :: ts, r, s1, he => by
  obtain ⟨x, s0, h0, he⟩ := Pr.ends_bind he
  obtain ⟨hs0, v, hv, O⟩ := x_ya TO I h0
  rw [hs0] at he
  obtain ⟨a0, s, h1, h2⟩ := Pr.ends_bind he
  obtain ⟨hs, c, rfl, hl, hlv, hc, hf⟩ := zipV_ends O h1
  rw [hs] at h2
  obtain ⟨a, s', hd, h2⟩ := Pr.ends_bind h2
  obtain ⟨hs', hm, hpl, zs, z1, z2, z3⟩ := drop_ends hd hl (by omega) hc
  rw [hs'] at h2
  obtain ⟨b, s'', h3, h4⟩ := Pr.ends_bind h2
  obtain ⟨rfl, hs''⟩ := Pr.ends_ret h4
  obtain ⟨k1, k2, k3, vs, k0, kr, k5, kp, us, k6, k7, k8, k9⟩ := x_r2 TO I rs ts b s'' h3
  have hal : a.length = q.2.2.length := by have := congrArg List.length hm; simpa using this
  refine ⟨hs''.trans k1, by simp [k2], ?_, v :: vs, by simp [k0], fun j t' v' ht hv' => ?_, fun j q' v' hq hv' => ?_, fun j m u hm hu' hno => ?_, zs ++ us, by simp; omega, by simp only [List.flatMap_cons, List.length_append]; omega, fun j m hm hr => ?_, fun j x hx => ?_⟩
  ·rw [List.map_append, k3, List.flatMap_cons, List.map_append, hm]
  ·cases j with
   | zero =>
    simp only [List.getElem?_cons_zero, Option.some.injEq] at ht hv'
    subst ht; subst hv'
    exact hv
   | succ j => exact kr j t' v' (by simpa using ht) (by simpa using hv')
  ·cases j with
   | zero =>
    simp only [List.getElem?_cons_zero, Option.some.injEq] at hq hv'
    subst hq; subst hv'
    exact ⟨hf, (Array.length_toList (xs := v.cells)).symm.trans (hlv.symm.trans hl)⟩
   | succ j => exact k5 j q' v' (by simpa using hq) (by simpa using hv')
  ·simp only [List.flatMap_cons, List.getElem?_append] at hm hu'
   rw [show v.cells.toList.length = q.2.2.length by omega] at hu'
   split at hm
   ·rename_i h; rw [if_pos h] at hu'; exact hpl j m u hm hu' hno
   ·rename_i h; rw [if_neg h] at hu'; exact kp _ m u hm hu' hno
  ·simp only [List.flatMap_cons, List.getElem?_append] at hm ⊢
   rw [z1]
   rw [show v.cells.toList.length = q.2.2.length by omega]
   split at hm
   ·rename_i h; rw [if_pos h, if_pos h]; exact z2 j m hm hr
   ·rename_i h; rw [if_neg h, if_neg h]; exact k8 _ m hm hr
  ·rw [List.getElem?_append] at hx ⊢
   rw [z1]
   rw [hal] at hx
   split at hx
   ·rename_i h; rw [if_pos h]; exact z3 j x hx
   ·rename_i h; rw [if_neg h]; exact k9 _ x hx
theorem x_se (I : Inv D st tm w g) : ∀ (ps : List Par) (k : Nat) (r : List (Md × Cell)) (s1 : St), (x_oh k ps).Ends st r s1 →
  s1 = st ∧ ∃ cvs : List Value, r.length = cvs.length ∧ ∀ (j : Nat) x, r[j]? = some x → ∃ cv, cvs[j]? = some cv ∧ okCell D st tm w g x.2 cv
 | [], k, r, s1, he => by obtain ⟨rfl, hs⟩ := Pr.ends_ret he; exact ⟨hs, [], rfl, fun j x h => by simp at h⟩
 | .val _ _ _ :: ps, k, r, s1, he => x_se I ps (k + 1) r s1 he
 | .ptr _ ms :: ps, k, r, s1, he => by
  simp only [x_oh] at he
  split at he
  ·exact (Pr.ends_fail he).elim
  ·obtain ⟨⟨t1, cs1, hb1, hl1⟩, he⟩ := Pr.ends_ln he
   obtain ⟨c, s, h1, h2⟩ := Pr.ends_bind he
   obtain ⟨hs, hl, hb, hc⟩ := x_el I _ _ _ _ h1
   rw [hs] at h2
   obtain ⟨b, s', h3, h4⟩ := Pr.ends_bind h2
   obtain ⟨rfl, hs'⟩ := Pr.ends_ret h4
   obtain ⟨hs2, cvs, h6, h7⟩ := x_se I ps (k + 1) b s' h3
   obtain ⟨_, _, vals, ty, hh, hsz⟩ := I.box k t1 cs1 hb1
   have hcc : ∀ (j : Nat) y, c[j]? = some y → ∃ cv, vals.toList[j]? = some cv ∧ okCell D st tm w g y cv := by
    intro j y hy
    obtain ⟨c0, h8, h9⟩ := hc j y hy
    obtain ⟨k1, k2, cv, k3, k4⟩ := x_kv I h8 h9 p0
    refine ⟨cv, ?_, k1, k2, k4⟩
    simpa [cAt, bcell, hh] using k3
   obtain ⟨h8, h9⟩ := x_s9 (ms := ms) hl (by simp; omega) hcc h6 h7
   exact ⟨hs'.trans hs2, _, h8, h9⟩
end Go.Kn
namespace Go.Kn
variable [Ctx]
variable {P : Program} {D : Key × Nat → Prop} {st st' : St} {tm : Array Value} {w w1 : World} {g : Gh} {ds : List Deferred} {E : Env}
def x_99 : List Value → Value
 | [v] => v
 | vs => .tuple vs.toArray
theorem run_mapM {α β : Type} (f : α → Sem β) (h : α → β) (w : World) : ∀ (l : List α), (∀ a ∈ l, (f a).run P w = .ok (h a) w) → (l.mapM f).run P w = .ok (l.map h) w
 | [], _ => by simp
 | a :: l, hf => by simp [List.mapM_cons, hf a (by simp), run_mapM f h w l (fun b hb => hf b (by simp [hb]))]
theorem x_70 {α β : Type} (f : α → Sem β) (w : World) : ∀ (l : List α) (vs : List β), vs.length = l.length → (∀ (j : Nat) a v, l[j]? = some a → vs[j]? = some v → (f a).run P w = .ok v w) → (l.mapM f).run P w = .ok vs w
 | [], [], _, _ => by simp
 | [], _ :: _, h, _ => by simp at h
 | _ :: _, [], h, _ => by simp at h
 | a :: l, v :: vs, hl, hf => by
  have h0 := hf 0 a v rfl rfl
  have h1 := x_70 f w l vs (by simpa using hl) (fun j a v h1 h2 => hf (j + 1) a v (by simpa using h1) (by simpa using h2))
  simp [List.mapM_cons, h0, h1]
theorem x_xq {fn : Func} {ts : List RS} (h : fn.results = (ts.map RS.var).toArray) (tm : Array Value) (w : World) (vs : List Value) (hl : vs.length = ts.length) (hv : ∀ (j : Nat) t v, ts[j]? = some t → vs[j]? = some v → x_aes P tm w t v) :
  (results fn tm).run P w = .ok (x_99 vs) w := by
 unfold results
 rw [h, Array.mapM_eq_mapM_toList]
 simp only [Sem.run_bind, Sem.run_map]
 rw [x_70 _ w (ts.map RS.var) vs (by simp [hl]) (fun j a v ha hv' => by
  rw [List.getElem?_map, Option.map_eq_some_iff] at ha
  obtain ⟨t, ht, rfl⟩ := ha
  have := hv j t v ht hv'
  cases t <;> exact this)]
 rcases vs with _ | ⟨t, _ | ⟨u, vs⟩⟩ <;> simp [x_99]
end Go.Kn
namespace Go.Kn
variable [Ctx]
open Classical
variable {P : Program} {D : Key × Nat → Prop} {st st' : St} {tm : Array Value} {w w1 : World} {g : Gh} {ds : List Deferred} {E : Env}
def plabs : Nat → List Par → List Pl
 | _, [] => []
 | k, .val _ _ _ :: ps => plabs (k + 1) ps
 | k, .ptr _ ms :: ps => (List.range ms.length).map (fun j => ⟨true, k, j⟩) ++ plabs (k + 1) ps
def isPtr (ps : List Par) (k : Nat) : Prop := ∃ e ms, ps[k]? = some (.ptr e ms)
noncomputable def finG (g1 : Gh) (X : Nat → Option Pl) (L : List Pl) (ps : List Par) : Gh :=
 {γ := fun b => match g1.γ b with
   | .fr => .fr
   | .lent => .lent
   | .out => .out
   | .row h => if hx : ∃ j, X j = some h then .row (L.getD hx.choose p0) else .out
   | .bx n => if isPtr ps n then .bx n else .out
  bb := g1.bb }
theorem fin_stp {g1 : Gh} {X : Nat → Option Pl} {L : List Pl} {ps : List Par} : Stp w g1 w (finG g1 X L ps) :=
 ⟨fun b h => ⟨by simp [finG, h], rfl⟩, fun b h => ⟨by simp [finG, h], rfl⟩, fun b _ h => ⟨by simp [finG, h], rfl⟩, Nat.le_refl _, rfl, rfl, rfl⟩
theorem x_ahj {g1 : Gh} {X : Nat → Option Pl} {L : List Pl} {ps : List Par} {s1 : St} (hinj : ∀ j j' h, X j = some h → X j' = some h → j = j') {j : Nat} {m : Md} {a : LV} {cv : Value} {p : Pl} (hm : noR m = true) (hp : L[j]? = some p)
  (h : got s1 w g1 X j m a cv) : hand w (finG g1 X L ps) p m a cv := by
 have hfr : ∀ b, g1.γ b = .fr → (finG g1 X L ps).γ b = .fr := fun b hb => by simp [finG, hb]
 cases m with
 | f => exact lrep.mono h (fun b hb => ⟨hfr b hb, rfl⟩) fun b hb => ⟨hfr b hb, rfl⟩
 | r => simp [noR] at hm
 | x t =>
  obtain ⟨x, v, rfl, h⟩ := h
  refine ⟨x, v, rfl, ?_⟩
  rcases h with ⟨rfl, rfl⟩ | ⟨q, hq, hr⟩
  ·exact x_ba.nil rfl rfl
  ·refine x_ba.mono hr (fun b hb => ?_) (fun _ _ => rfl) fun a cs _ hr => rep.mono hfr (fun _ _ => rfl) _ _ _ hr
   have hx : ∃ j, X j = some q := ⟨j, hq⟩
   have hj : hx.choose = j := hinj _ _ _ hx.choose_spec hq
   have hb : g1.γ b = .row q := hb
   show (finG g1 X L ps).γ b = .row p
   simp only [finG, hb, dif_pos hx, hj, List.getD_eq_getElem?_getD, hp, Option.getD_some]
theorem x_abm (v : Value) : x_9s v = v.cells.toList := by cases v <;> rfl
theorem res_form {rs : List (Bool × ET × List Md)} {vs : List Value} (hl : rs.length = vs.length)
  (h : ∀ (j : Nat) q v, rs[j]? = some q → vs[j]? = some v → x_gv q.1 v ∧ v.cells.size = q.2.2.length) :
  form rs (x_99 vs) ∧ vcs (x_99 vs) = vs.flatMap fun v => v.cells.toList := by
 have tup : ∀ us : List Value, vcs (.tuple us.toArray) = us.flatMap fun v => v.cells.toList := fun us => by
  show us.flatMap x_9s = _
  exact x_p3 fun v _ => x_abm v
 rcases vs with _ | ⟨t, _ | ⟨u, vs⟩⟩
 ·obtain rfl : rs = [] := List.length_eq_zero_iff.1 hl
  exact ⟨⟨#[], rfl, rfl, fun i h => by simp at h⟩, rfl⟩
 ·obtain ⟨q, rfl⟩ := List.length_eq_one_iff.1 hl
  obtain ⟨h1, h2⟩ := h 0 q t rfl rfl
  refine ⟨⟨h1, h2⟩, ?_⟩
  obtain ⟨_, h4, _⟩ := x_5w (cs := List.replicate q.2.2.length .dead) h1 h2 (by simp)
  simp only [x_99, List.flatMap_cons, List.flatMap_nil, List.append_nil]
  exact h4
 ·refine ⟨?_, ?_⟩
  ·rcases rs with _ | ⟨a, _ | ⟨b, rs⟩⟩
   ·simp at hl
   ·simp at hl
   ·refine ⟨_, rfl, by simp at hl ⊢; omega, fun i hi hi' => ?_⟩
    have hti : i < (t :: u :: vs).length := by omega
    have := h i _ _ (List.getElem?_eq_getElem hi) (List.getElem?_eq_getElem hti)
    have e2 : ((t :: u :: vs).toArray)[i]'(by simpa using hti) = (t :: u :: vs)[i] := rfl
    exact e2 ▸ this
  ·show vcs (.tuple (t :: u :: vs).toArray) = _
   rw [tup]
end Go.Kn
namespace Go.Kn
variable [Ctx]
open Classical
variable {P : Program} {D : Key × Nat → Prop} {st st' : St} {tm : Array Value} {w w1 : World} {g : Gh} {ds : List Deferred} {E : Env}
def x_yl (w : World) (g : Gh) (st : St) : Nat → List Par → List (Md × Cell) → List Value → Prop
 | _, [], r, cvs => r = [] ∧ cvs = []
 | k, .val _ _ _ :: ps, r, cvs => x_yl w g st (k + 1) ps r cvs
 | k, .ptr _ ms :: ps, r, cvs => ∃ c r' vals ty cvs', r = ms.zip c ++ r' ∧ c.length = ms.length ∧ g.γ (g.bb k) = .bx k ∧ w.heap[g.bb k]? = some (.cells vals ty (0, 0)) ∧ vals.size = ms.length ∧
   cvs = vals.toList ++ cvs' ∧ ms.all noR = true ∧ okBx st k 0 = true ∧ x_yl w g st (k + 1) ps r' cvs'
theorem x_o2 (I : Inv D st tm w g) : ∀ (ps : List Par) (k : Nat) (r : List (Md × Cell)) (s1 : St), (x_oh k ps).Ends st r s1 →
  s1 = st ∧ ∃ cvs : List Value, x_yl w g st k ps r cvs ∧ r.length = cvs.length ∧ ∀ (j : Nat) x, r[j]? = some x → ∃ cv, cvs[j]? = some cv ∧ okCell D st tm w g x.2 cv
 | [], k, r, s1, he => by obtain ⟨rfl, hs⟩ := Pr.ends_ret he; exact ⟨hs, [], ⟨rfl, rfl⟩, rfl, fun j x h => by simp at h⟩
 | .val _ _ _ :: ps, k, r, s1, he => x_o2 I ps (k + 1) r s1 he
 | .ptr _ ms :: ps, k, r, s1, he => by
  simp only [x_oh] at he
  split at he
  ·exact (Pr.ends_fail he).elim
  ·rename_i hm
   simp only [Bool.or_eq_true, not_or, decide_eq_true_eq, Bool.not_eq_true', Bool.not_eq_false] at hm
   obtain ⟨⟨t1, cs1, hb1, hl1⟩, he⟩ := Pr.ends_ln he
   obtain ⟨c, s, h1, h2⟩ := Pr.ends_bind he
   obtain ⟨hs, hl, hb, hc⟩ := x_el I _ _ _ _ h1
   rw [hs] at h2
   obtain ⟨b, s', h3, h4⟩ := Pr.ends_bind h2
   obtain ⟨rfl, hs'⟩ := Pr.ends_ret h4
   obtain ⟨hs2, cvs, h5, h6, h7⟩ := x_o2 I ps (k + 1) b s' h3
   obtain ⟨_, hγ, vals, ty, hh, hsz⟩ := I.box k t1 cs1 hb1
   have hcc : ∀ (j : Nat) y, c[j]? = some y → ∃ cv, vals.toList[j]? = some cv ∧ okCell D st tm w g y cv := by
    intro j y hy
    obtain ⟨c0, h8, h9⟩ := hc j y hy
    obtain ⟨k1, k2, cv, k3, k4⟩ := x_kv I h8 h9 p0
    refine ⟨cv, ?_, k1, k2, k4⟩
    simpa [cAt, bcell, hh] using k3
   obtain ⟨h8, h9⟩ := x_s9 (ms := ms) hl (by simp; omega) hcc h6 h7
   exact ⟨hs'.trans hs2, _, ⟨c, b, vals, ty, cvs, rfl, hl, hγ, hh, by omega, rfl, hm.2, hb (by omega), h5⟩, h8, h9⟩
end Go.Kn
namespace Go.Kn
variable [Ctx]
open Classical
variable {P : Program} {D : Key × Nat → Prop} {st st' : St} {tm : Array Value} {w w1 : World} {g : Gh} {ds : List Deferred} {E : Env}
theorem x_53 {g0 g1 G2 : Gh} (hbb : ∀ k, okBx st k 0 = true → g1.bb k = g0.bb k) : ∀ (ps : List Par) (k : Nat) (r : List (Md × Cell)) (cvs : List Value) (ls : List LV), x_yl w g1 st k ps r cvs → ls.length = r.length →
  (∀ (j : Nat) x cv a p, r[j]? = some x → cvs[j]? = some cv → ls[j]? = some a → (plabs k ps)[j]? = some p → noR x.1 = true → hand w G2 p x.1 a cv) →
  (∀ j, (∃ e ms, ps[j]? = some (.ptr e ms)) → g1.γ (g1.bb (k + j)) = .bx (k + j) → G2.γ (g1.bb (k + j)) = .bx (k + j)) → x_r4 g0 w G2 k ps ls
 | [], k, r, cvs, ls, hf, hl, hh, hG => trivial
 | .val agg e ms :: ps, k, r, cvs, ls, hf, hl, hh, hG => x_53 hbb ps (k + 1) r cvs ls hf hl hh fun j hj h => by
   rw [show k + 1 + j = k + (j + 1) by omega] at h ⊢
   exact hG (j + 1) (by simpa using hj) h
 | .ptr e ms :: ps, k, _, _, ls, ⟨c, r', vals, ty, cvs', rfl, hc, hγ, hh0, hv, rfl, hno, hok, hrest⟩, hl, hh, hG => by
  have hz : (ms.zip c).length = ms.length := by simp [hc]
  obtain ⟨z1, z2⟩ := x_acj (a := r') hc
  have hll : ls.length = ms.length + r'.length := by rw [hl, List.length_append, hz]
  have hlab : ((List.range ms.length).map fun j => (⟨true, k, j⟩ : Pl)).length = ms.length := by simp
  have hvl : vals.toList.length = ms.length := by simpa using hv
  have hb := hbb k hok
  refine ⟨⟨vals, ty, ?_, by rw [← hb]; exact hh0, ⟨by simp; omega, hvl, fun j m a cv hm ha hcv => ?_⟩⟩, ?_⟩
  ·rw [← hb]
   exact hG 0 ⟨e, ms, rfl⟩ hγ
  ·have hj := (List.getElem?_eq_some_iff.1 hm).1
   obtain ⟨y, hy⟩ := z1 j m hm
   rw [List.getElem?_take, if_pos hj] at ha
   exact hh j (m, y) cv a ⟨true, k, j⟩ hy (by rw [List.getElem?_append_left (by omega)]; exact hcv) ha (by
    simp only [plabs]
    rw [List.getElem?_append_left (by rw [hlab]; exact hj)]
    simp [hj]) (List.all_eq_true.1 hno m (List.mem_of_getElem? hm))
  ·refine x_53 hbb ps (k + 1) r' cvs' _ hrest (by simp; omega) (fun j x cv a p hx hcv ha hp hm => ?_) fun j hj h => by
    rw [show k + 1 + j = k + (j + 1) by omega] at h ⊢
    exact hG (j + 1) (by simpa using hj) h
   rw [List.getElem?_drop] at ha
   exact hh (ms.length + j) x cv a p (z2 j x hx) (by rw [List.getElem?_append_right (by rw [hvl]; omega), hvl, Nat.add_sub_cancel_left]; exact hcv) ha (by
    simp only [plabs]
    rw [List.getElem?_append_right (by rw [hlab]; omega), hlab, Nat.add_sub_cancel_left]
    exact hp) hm
end Go.Kn
namespace Go.Kn
variable [Ctx]
open Classical
variable {P : Program} {D : Key × Nat → Prop} {st st' : St} {tm : Array Value} {w w1 : World} {g : Gh} {ds : List Deferred} {E : Env} {T : Tab}
theorem x_0w {s s' st2 : St} {g1 : Gh} (Z1 : Z s g s' g1) : ∀ (ps : List Par) (k : Nat) (r : List (Md × Cell)) (cvs : List Value), x_yl w g st2 k ps r cvs → x_yl w g1 st2 k ps r cvs
 | [], k, r, cvs, h => h
 | .val _ _ _ :: ps, k, r, cvs, h => x_0w Z1 ps (k + 1) r cvs h
 | .ptr _ ms :: ps, k, r, cvs, ⟨c, r', vals, ty, cvs', h1, h2, h3, h4, h5, h6, h7, h8, h9⟩ =>
  ⟨c, r', vals, ty, cvs', h1, h2, by rw [Z1.bb]; exact Z1.bx _ _ h3, by rw [Z1.bb]; exact h4, h5, h6, h7, h8, x_0w Z1 ps (k + 1) r' cvs' h9⟩
theorem end_ok {F : FSp} {ts : List RS} {st0 : St} {w0 : World} {g0 : Gh} {r : (resE F.ps F.rs).val} (TO : x_f2 P T.ti) (I : Inv D0 st tm w g) (hF : Far st0 w0 g0 st w g) (he : (endP T.toEnv F ts).Ends st r st') :
  ∃ vs : List Value, vs.length = ts.length ∧ (∀ (j : Nat) t v, ts[j]? = some t → vs[j]? = some v → x_aes P tm w t v) ∧ fEnd F w0 g0 r (.returned (x_99 vs)) w := by
 obtain ⟨a, s1, h1, h2⟩ := Pr.ends_bind he
 obtain ⟨rfl, k2, k3, vs, k0, kr, k5, kp, us, k6, k7, k8, k9⟩ := x_r2 TO I _ _ _ _ h1
 refine ⟨vs, k0, kr, ?_⟩
 obtain ⟨b, s2, h3, h4⟩ := Pr.ends_bind h2
 obtain ⟨rfl, cvs, m1, m2, m3⟩ := x_o2 I _ _ _ _ h3
 obtain ⟨ls, s3, h5, h6⟩ := Pr.ends_bind h4
 obtain ⟨hofl, _⟩ := x_fw h6
 have hls := x_r7 hofl
 obtain ⟨f1, f2⟩ := res_form (k2.trans k0.symm) k5
 have hal : (a ++ b).length = (us ++ cvs).length := by simp only [List.length_append, k6, m2]
 obtain ⟨g1, X, G1, Z1, hl1, hgot, hX, hinj⟩ := x_x5 (cvs := us ++ cvs) I h5 hal (fun j x hx => by
  rw [List.getElem?_append] at hx
  rw [List.getElem?_append, ← k6]
  split at hx
  ·rename_i h; rw [if_pos h]; exact k9 j x hx
  ·rename_i h; rw [if_neg h]; exact m3 _ x hx)
 have hra : a.length = resN F.rs := by have := congrArg List.length k3; simpa [resN] using this
 let L : List Pl := (List.range (resN F.rs)).map (fun j => (⟨false, 0, j⟩ : Pl)) ++ plabs 0 F.ps
 have hL1 : ((List.range (resN F.rs)).map (fun j => (⟨false, 0, j⟩ : Pl))).length = resN F.rs := by simp
 have S2 := (hF.stp.trans G1.stp).trans (fin_stp (w := w) (g1 := g1) (X := X) (L := L) (ps := F.ps))
 refine ⟨finG g1 X L F.ps, S2, ⟨fun b hb => G1.inv.uni b fun e => hb (by simp [finG, e]), G1.inv.lib.tag fun b hb => by simp [finG, hb]⟩, f1, ⟨by rw [hls, List.length_take, hl1, List.length_append, hra]; show min (resN F.rs) (resN F.rs + b.length) = resN F.rs; omega, by rw [f2, ← k7, ← k6, hra]; rfl, fun j m y cv hm hy hcv hno => ?_, fun j m cv hm hcv hno => kp j m cv hm (by rw [← f2]; exact hcv) hno⟩, ?_⟩
 ·have hj := (List.getElem?_eq_some_iff.1 hm).1
  have hj' : j < resN F.rs := hj
  rw [hls, List.getElem?_take, if_pos hj'] at hy
  rw [f2, ← k8 j m hm hno] at hcv
  have haj : (a.map (·.1))[j]? = some m := by
   rw [k3, List.getElem?_map, hm, Option.map_some]
   simp [fR, hno]
  rw [List.getElem?_map, Option.map_eq_some_iff] at haj
  obtain ⟨x, hx, rfl⟩ := haj
  have hg := hgot j x cv y (by rw [List.getElem?_append_left (by omega)]; exact hx) (by rw [List.getElem?_append_left (by omega)]; exact hcv) hy
  exact x_ahj hinj hno (by
   show (_ ++ _)[j]? = _
   rw [List.getElem?_append_left (by rw [hL1]; exact hj')]
   simp [hj']) hg
 ·rw [hls]
  refine x_53 (fun k hk => by rw [Z1.bb]; exact (hF.bb k hk).2) F.ps 0 b cvs _ ?_ (by simp only [List.length_drop, hl1, List.length_append]; omega) (fun j x cv y p hx hcv hy hp hm => ?_) fun j hj h => ?_
  ·exact x_0w Z1 F.ps 0 b cvs m1
  ·rw [List.getElem?_drop] at hy
   have hg := hgot (resN F.rs + j) x cv y (by rw [List.getElem?_append_right (by omega), hra, Nat.add_sub_cancel_left]; exact hx) (by rw [List.getElem?_append_right (by omega), ← k6, hra, Nat.add_sub_cancel_left]; exact hcv) hy
   exact x_ahj hinj hm (by
    show (_ ++ _)[resN F.rs + j]? = _
    rw [List.getElem?_append_right (by rw [hL1]; omega), hL1, Nat.add_sub_cancel_left]
    exact hp) hg
  ·rw [Nat.zero_add] at h ⊢
   show (finG g1 X L F.ps).γ (g1.bb j) = _
   simp only [finG, h]
   rw [if_pos]
   obtain ⟨e, ms, hj⟩ := hj
   exact ⟨e, ms, hj⟩
theorem x_a {f : FuncId} {fn : Func} {c : Code} {F : FSp} {ts : List RS} {H : Hint} {K : Nat} (hf : P.funcs[f]? = some fn) (hb : fn.body = some c) (hn : (fn.name == "runtime.NumGoroutine") = false)
  (hres : fn.results = (ts.map RS.var).toArray) (hpk : pkOk F.pk F.ps.length = true) (TO : TOk P T) (hm : P.follows .mixedOrders = true) (hrun : ∀ v, run T H K c (x_ax F.pk F.ps fn.ntmps (lv _ v)) (endK T.toEnv F ts) = F.fn v) (hmk : F.nv = false := by rfl) : FOk P f F := by
 refine .plain ⟨fn, hf, by rw [hb]; rfl, hn⟩ hmk fun w g vs ls v r hU ha hv hr => ?_
 have hls := x_r7 hv
 have hrun' : run T H K c (x_ax F.pk F.ps fn.ntmps ls) (endK T.toEnv F ts) = some r := by rw [← hls, hrun, hr]
 refine calls_of_wp hf hb (run_ok TO hm c _ _ w g (endK T.toEnv F ts) _ (x_adh hpk hU ha) hrun' fun e st' tm' w' g' I' Far hk => ?_)
 have fin : ((endP T.toEnv F ts).run st' [] [] fun a _ _ _ => some a) = some r → ∃ v, (results fn tm').run P w' = .ok v w' ∧ fEnd F w g r (.returned v) w' := fun h => by
  obtain ⟨a, tr, ws, hev, hka⟩ := Pr.run_ev _ _ _ _ _ _ h
  obtain rfl := Option.some.inj hka
  obtain ⟨vs, h1, h2, h3⟩ := end_ok TO.ty I' Far ⟨tr, ws, hev, rfl⟩
  exact ⟨_, x_xq hres tm' w' vs h1 h2, h3⟩
 cases e with
 | normal => exact ⟨rfl, fin hk⟩
 | ret => exact ⟨rfl, fin hk⟩
 | exit id => simp [endK] at hk
def frzC : Cell → Pr LV
 | .val .f e v => .ret ⟨e, v⟩
 | _ => .fail
noncomputable def nvP (E : Env) (F : FSp) (t : Nat) : Pr (resE F.ps F.rs).val := (resSrc E (.tmp t)).bind fun
 | .one (.ptr n s 0) => .ln n (resE F.ps F.rs).cells ((x_tm n s 0 (resE F.ps F.rs).cells).bind fun cs => (mapP frzC cs).bind fun ls => x_p4 (resE F.ps F.rs) ls)
 | _ => .fail
noncomputable def nvK (E : Env) (F : FSp) (t : Nat) (e : Ex) (st : St) : Option (resE F.ps F.rs).val := match e with
 | .exit _ => none
 | _ => (nvP E F t).run st [] [] fun a _ _ _ => some a
theorem x_7w : ∀ (cs : List Cell) (ls : List LV) (s1 : St), (mapP frzC cs).Ends st ls s1 → s1 = st ∧ ls.length = cs.length ∧ ∀ (j : Nat) a, ls[j]? = some a → cs[j]? = some (.val .f a.1 a.2)
 | [], ls, s1, he => by
  obtain ⟨rfl, hs⟩ := Pr.ends_ret he
  exact ⟨hs, rfl, fun j a h => by simp at h⟩
 | c :: cs, ls, s1, he => by
  obtain ⟨a, s, h1, h2⟩ := Pr.ends_bind he
  obtain ⟨r, s', h3, h4⟩ := Pr.ends_bind h2
  obtain ⟨rfl, hs'⟩ := Pr.ends_ret h4
  unfold frzC at h1
  split at h1
  ·rename_i e v
   obtain ⟨rfl, hs⟩ := Pr.ends_ret h1
   rw [hs] at h3
   obtain ⟨k1, k2, k3⟩ := x_7w cs r s' h3
   refine ⟨hs'.trans k1, congrArg Nat.succ k2, fun j a h => ?_⟩
   cases j with
   | zero =>
    have h : (⟨e, v⟩ : LV) = a := Option.some.inj h
    subst h
    rfl
   | succ j => exact k3 j a h
  ·exact (Pr.ends_fail h1).elim
theorem nv_ok {F : FSp} {t : Nat} {st0 : St} {w0 : World} {g0 : Gh} {r : (resE F.ps F.rs).val} (TO : x_f2 P T.ti) (I : Inv D0 st tm w g) (hF : Far st0 w0 g0 st w g) (hg0 : ∀ b, g0.γ b = .fr ∨ g0.γ b = .out) (h0 : 0 < (resE F.ps F.rs).cells)
  (he : (nvP T.toEnv F t).Ends st r st') : ∃ v, x_aes P tm w (.tmp t) v ∧ mEnd F w0 g0 r (.returned v) w := by
 obtain ⟨x, s1, h1, h2⟩ := Pr.ends_bind he
 obtain ⟨hs1, v, hv, O⟩ := x_ya TO I h1
 rw [hs1] at h2
 refine ⟨v, hv, ?_⟩
 split at h2
 ·rename_i n s
  obtain ⟨⟨t1, cs1, hb1, hl1⟩, h2⟩ := Pr.ends_ln h2
  obtain ⟨cs, s2, h3, h4⟩ := Pr.ends_bind h2
  obtain ⟨hs2, hl, hb, hc⟩ := x_el I _ _ _ _ h3
  rw [hs2] at h4
  obtain ⟨ls, s3, h5, h6⟩ := Pr.ends_bind h4
  obtain ⟨hs3, hll, hfz⟩ := x_7w _ _ _ h5
  obtain ⟨hofl, _⟩ := x_fw h6
  have hls := x_r7 hofl
  have hvv := O.one.2.2.2 (hb h0)
  obtain ⟨_, hbx, vals, ty, hh, hsz⟩ := I.box n t1 cs1 hb1
  have hge : w0.heap.size ≤ g.bb n := by
   rcases Nat.lt_or_ge (g.bb n) w0.heap.size with hlt | hge
   ·exfalso
    rcases hg0 (g.bb n) with h | h
    ·have := (hF.stp.fr _ h).1; rw [hbx] at this; cases this
    ·have := (hF.stp.out _ hlt h).1; rw [hbx] at this; cases this
   ·exact hge
  refine ⟨g, g.bb n, vals, ty, hF.stp, ⟨I.uni, I.lib⟩, hvv, hge, by rw [hbx]; simp, hh, by rw [hls]; omega, fun j a cv ha hcv => ?_⟩
  rw [hls] at ha
  have hcj := hfz j a ha
  obtain ⟨c0, h8, h9⟩ := hc j _ hcj
  obtain ⟨k1, k2, cv', k3, k4⟩ := x_kv I h8 h9 p0
  have : cv' = cv := by
   simp only [cAt, if_true, bcell, hh, Nat.zero_add] at k3
   rw [hcv] at k3
   exact (Option.some.inj k3).symm
  rw [this] at k4
  exact k4
 ·exact (Pr.ends_fail h2).elim
theorem fok_nv {f : FuncId} {fn : Func} {c : Code} {x : ET} {rs : List (Bool × ET × List Md)} {pf : (argE [Par.val false (.sl x) [.f]]).val → Option (resE [Par.val false (.sl x) [.f]] rs).val} {t : Nat} {H : Hint} {K : Nat} (hf : P.funcs[f]? = some fn) (hb : fn.body = some c) (hn : (fn.name == "runtime.NumGoroutine") = false)
  (hres : fn.results = #[.tmp t]) (h0 : 0 < (resE [Par.val false (.sl x) [.f]] rs).cells) (TO : TOk P T) (hm : P.follows .mixedOrders = true)
  (hrun : ∀ v, run T H K c (x_ax [] [Par.val false (.sl x) [.f]] fn.ntmps (lv _ v)) (nvK T.toEnv { ps := [.val false (.sl x) [.f]], rs := rs, fn := pf, nv := true } t) = pf v) :
  FOk P f { ps := [.val false (.sl x) [.f]], rs := rs, fn := pf, nv := true } := by
 refine ⟨⟨fn, hf, by rw [hb]; rfl, hn⟩, fun _ w g vs ls v r hg0 hU hl hr hv hfn => ?_, fun h => by cases h⟩
 have hls := x_r7 hv
 have e1 : ls = [⟨.sl x, v.1⟩] := by rw [← hls]; rfl
 subst e1
 obtain ⟨cv, rfl⟩ : ∃ cv, vs = [cv] := List.length_eq_one_iff.1 hl.symm
 obtain ⟨hp, hrep⟩ := hr 0 _ cv rfl rfl
 have hcells : cv.cells.toList = [cv] := by cases cv <;> simp [x_ca, Value.cells] at hp ⊢
 have ha : x_iu w g 0 [Par.val false (.sl x) [.f]] [⟨.sl x, v.1⟩] [cv] := by
  refine ⟨[⟨.sl x, v.1⟩], [], cv, [], rfl, rfl, ⟨rfl, by rw [hcells]; rfl, fun j m a u hm ha hu => ?_⟩, hp, rfl, rfl⟩
  rw [hcells] at hu
  cases j with
  | zero =>
   obtain rfl := Option.some.inj hm
   obtain rfl := Option.some.inj ha
   obtain rfl := Option.some.inj hu
   exact hrep
  | succ j => simp at hm
 have hrun' := (hrun v).trans hfn
 refine calls_of_wp hf hb (run_ok TO hm c _ _ w g (nvK T.toEnv { ps := [.val false (.sl x) [.f]], rs := rs, fn := pf, nv := true } t) _ (x_adh (pk := []) (ps := [Par.val false (.sl x) [.f]]) (n := fn.ntmps) rfl hU ha) hrun'
  fun e st' tm' w' g' I' Far hk => ?_)
 have fin : ((nvP T.toEnv { ps := [.val false (.sl x) [.f]], rs := rs, fn := pf, nv := true } t).run st' [] [] fun a _ _ _ => some a) = some r → ∃ v, (results fn tm').run P w' = .ok v w' ∧ mEnd { ps := [.val false (.sl x) [.f]], rs := rs, fn := pf, nv := true } w g r (.returned v) w' := fun h => by
  obtain ⟨a, tr, ws, hev, hka⟩ := Pr.run_ev _ _ _ _ _ _ h
  obtain rfl := Option.some.inj hka
  obtain ⟨u, h1, h2⟩ := nv_ok TO.ty I' Far hg0 h0 ⟨tr, ws, hev, rfl⟩
  refine ⟨_, x_xq (ts := [.tmp t]) (by rw [hres]; rfl) tm' w' [u] rfl (fun j y z hy hz => ?_), h2⟩
  cases j with
  | zero =>
   obtain rfl := Option.some.inj hy
   obtain rfl := Option.some.inj hz
   exact h1
  | succ j => simp at hy
 cases e with
 | normal => exact ⟨rfl, fin hk⟩
 | ret => exact ⟨rfl, fin hk⟩
 | exit id => simp [nvK] at hk
end Go.Kn
namespace Go.Kn
variable [Ctx]
variable {P : Program} {H : Type} {enc : TypeId × Value → H} {w : World} {base : Nat} {spare : Nat → Bool} {held : Bool}
def fieldL (P : Program) (q : TypeId → ET → Bool) (f : Field) (e : ET) (off : Nat) : Bool := f.offset == off && P.cellsOf f.type == e.cells && q f.type e
def layFs (P : Program) (q : TypeId → ET → Bool) : List Field → ET → Nat → Bool
 | [f], e, off => fieldL P q f e off
 | f :: h :: fs, .p x y, off => fieldL P q f x off && layFs P q (h :: fs) y (off + x.cells)
 | _, _, _ => false
def layTy (P : Program) : Nat → TypeId → ET → Bool
 | 0, _, _ => false
 | d + 1, t, e => match P.underlying t with
  | some (.int k) => decide (e = .i k)
  | some .bool => decide (e = .b)
  | some .string => decide (e = .s)
  | some (.struct fs) => P.cellsOf t == e.cells && layFs P (layTy P d) fs.toList e 0
  | some (.slice el) => match e with
   | .sl x => P.cellsOf el == x.cells && x.cells != 0 && layTy P d el x
   | _ => false
  | _ => false
def wfE : (e : ET) → e.val → Prop
 | .i k, n => k.min ≤ n ∧ n ≤ k.max
 | .s, v => ByteArray.size v ≤ maxLen
 | .sl x, l => List.length l ≤ maxLen ∧ ∀ a ∈ l, wfE x a
 | .p x y, v => wfE x v.1 ∧ wfE y v.2
 | _, _ => True
theorem x_vw {α β : Type} {f : α → Option β} : ∀ {l : List α} {r : List β}, l.mapM f = some r → r.length = l.length ∧ ∀ (j : Nat) a, l[j]? = some a → ∃ b, r[j]? = some b ∧ f a = some b
 | [], r, h => by simp at h; subst h; simp
 | a :: l, r, h => by
  simp only [List.mapM_cons, Option.pure_def, Option.bind_eq_bind, Option.bind_eq_some_iff, Option.some.injEq] at h
  obtain ⟨b, h1, r', h2, rfl⟩ := h
  obtain ⟨h3, h4⟩ := x_vw h2
  refine ⟨by simp [h3], fun j c hc => ?_⟩
  cases j with
  | zero => simp only [List.getElem?_cons_zero, Option.some.injEq] at hc ⊢; subst hc; exact ⟨b, rfl, h1⟩
  | succ j => simpa using h4 j c (by simpa using hc)
theorem x_65 {α : Type} {Q : Nat → α → Prop} : ∀ (n : Nat), (∀ i, i < n → ∃ a, Q i a) → ∃ l : List α, l.length = n ∧ ∀ i (h : i < l.length), Q i l[i]
 | 0, _ => ⟨[], rfl, fun i h => by simp at h⟩
 | n + 1, h => by
  obtain ⟨l, h1, h2⟩ := x_65 n fun i hi => h i (by omega)
  obtain ⟨a, ha⟩ := h n (by omega)
  refine ⟨l ++ [a], by simp [h1], fun i hi => ?_⟩
  rw [List.getElem_append]
  split
  ·rename_i hlt; exact h2 i hlt
  ·rename_i hge
   simp only [List.length_append, List.length_singleton] at hi
   have : i = n := by omega
   subst this
   simpa using ha
theorem x_zz {t el : TypeId} {fuel : Nat} {cs : List Value} {r : DataW H × List MemPlace} (hu : P.underlying t = some (.slice el)) (h : DataW.trod enc P w base spare held (fuel + 1) t cs = some r) :
  cs = [.slice none 0 0] ∨ ∃ a len cap, cs = [.slice (some a) len cap] ∧ len ≤ cap ∧ cap ≤ maxLen ∧
   (spare a.block = true → ∀ i, i < cap → ∃ l y, w.cells? base (a.add (i * P.cellsOf el)) (P.cellsOf el) = some l ∧ DataW.trod enc P w base spare held fuel el l = some y) := by
 unfold DataW.trod at h
 rw [hu] at h
 split at h <;> rename_i he <;> (try (simp at he; done)) <;> (try (simp at h; done))
 ·exact .inl rfl
 ·rename_i e a len cap
  simp only [Option.some.injEq, TypeDesc.slice.injEq] at he
  subst he
  split at h
  ·rename_i hcnd
   simp only [Option.bind_eq_some_iff, Option.map_eq_some_iff] at h
   obtain ⟨elems, h1, rest, h2, _⟩ := h
   refine .inr ⟨a, len, cap, rfl, hcnd.2.1, hcnd.2.2, fun hs i hi => ?_⟩
   rw [if_pos hs] at h2
   rcases Nat.lt_or_ge i len with hlt | hge
   ·obtain ⟨y, _, h4⟩ := (x_vw h1).2 i i (by rw [List.getElem?_range hlt])
    simp only [Option.bind_eq_some_iff] at h4
    obtain ⟨l, h5, h6⟩ := h4
    exact ⟨l, y, h5, h6⟩
   ·obtain ⟨y, _, h4⟩ := (x_vw h2).2 (i - len) (i - len) (by rw [List.getElem?_range (by omega)])
    simp only [Option.bind_eq_some_iff] at h4
    obtain ⟨l, h5, h6⟩ := h4
    rw [show len + (i - len) = i by omega] at h5
    exact ⟨l, y, h5, h6⟩
  ·simp at h
theorem x_1u {a : Addr} {n : Nat} {l : List Value} (h : w.cells? base a n = some l) : (List.range n).mapM (fun i => w.cell? (a.add i)) = some l := by
 unfold World.cells? at h
 split at h
 ·exact h
 ·simp at h
theorem x_6r : ∀ (fuel d : Nat) (t : TypeId) (e : ET) (cs : List Value) (r : DataW H × List MemPlace), layTy P d t e = true → DataW.trod enc P w base spare held fuel t cs = some r →
  (∀ b, spare b = true) → ∃ v : e.val, rep w (fun b => b < w.heap.size) e v cs ∧ wfE e v
 | 0, d, t, e, cs, r, hl, h, hs => by simp [DataW.trod] at h
 | fuel + 1, 0, t, e, cs, r, hl, h, hs => by simp [layTy] at hl
 | fuel + 1, d + 1, t, e, cs, r, hl, h, hs => by
  unfold layTy at hl
  split at hl
  ·rename_i k hu
   obtain rfl := of_decide_eq_true hl
   obtain ⟨n, rfl, _, hw⟩ := DataW.trod_int hu h
   simp only [Lit.wf, Bool.and_eq_true, decide_eq_true_eq] at hw
   exact ⟨n, rfl, hw⟩
  ·rename_i hu
   obtain rfl := of_decide_eq_true hl
   obtain ⟨b, rfl, _⟩ := DataW.trod_bool hu h
   exact ⟨b, rfl, trivial⟩
  ·rename_i hu
   obtain rfl := of_decide_eq_true hl
   obtain ⟨s, rfl, _, hw⟩ := DataW.trod_string hu h
   exact ⟨s, rfl, hw⟩
  ·rename_i fs hu
   simp only [Bool.and_eq_true, beq_iff_eq] at hl
   obtain ⟨xs, n, hn, rfl, hlen, hxl, hf⟩ := DataW.trod_struct hu h
   obtain rfl : fuel = n := by omega
   have key : ∀ (l : List Field) (j off : Nat) (e : ET), layFs P (layTy P d) l e off = true → (∀ i f, l[i]? = some f → fs[j + i]? = some f) → off + e.cells ≤ cs.length →
     ∃ v : e.val, rep w (fun b => b < w.heap.size) e v ((cs.drop off).take e.cells) ∧ wfE e v := by
    intro l
    have one : ∀ (f : Field) (j off : Nat) (e : ET), fieldL P (layTy P d) f e off = true → fs[j]? = some f → ∃ v : e.val, rep w (fun b => b < w.heap.size) e v ((cs.drop off).take e.cells) ∧ wfE e v := by
     intro f j off e hfl hj
     simp only [fieldL, Bool.and_eq_true, beq_iff_eq] at hfl
     obtain ⟨⟨h1, h2⟩, h3⟩ := hfl
     have h4 := hf j f hj
     have hj' : j < xs.length := by rw [hxl]; exact (Array.getElem?_eq_some_iff.1 hj).1
     rw [List.getElem?_eq_getElem hj', h1, h2] at h4
     exact x_6r fuel d f.type e _ _ h3 h4 hs
    induction l with
    | nil => intro j off e h; simp [layFs] at h
    | cons f l ih =>
     intro j off e h hg hle
     cases l with
     | nil => exact one f j off e (by simpa [layFs] using h) (by simpa using hg 0 f rfl)
     | cons f' l =>
      cases e with
      | p x y =>
       simp only [layFs, Bool.and_eq_true] at h
       simp only [ET.cells] at hle
       obtain ⟨v1, r1, w1⟩ := one f j off x h.1 (by simpa using hg 0 f rfl)
       obtain ⟨v2, r2, w2⟩ := ih (j + 1) (off + x.cells) y h.2 (fun i f0 hi => by
        have := hg (i + 1) f0 (by simpa using hi)
        rwa [show j + (i + 1) = j + 1 + i by omega] at this) (by omega)
       refine ⟨(v1, v2), ⟨_, _, ?_, r1, r2⟩, w1, w2⟩
       rw [ET.cells, List.take_add, List.drop_drop]
      | _ => simp [layFs] at h
   obtain ⟨v, h1, h2⟩ := key fs.toList 0 0 e hl.2 (fun i f hi => by simpa using hi) (by omega)
   rw [List.drop_zero, List.take_of_length_le (by omega)] at h1
   exact ⟨v, h1, h2⟩
  ·rename_i el hu
   split at hl
   ·rename_i x
    simp only [Bool.and_eq_true, beq_iff_eq, bne_iff_ne, ne_eq] at hl
    obtain ⟨⟨hc, hc0⟩, hx⟩ := hl
    rcases x_zz hu h with rfl | ⟨a, len, cap, rfl, hle, hmx, hel⟩
    ·exact ⟨[], ⟨_, rfl, x_ba.nil rfl rfl⟩, by simp, by simp⟩
    ·have hel := hel (hs _)
     rw [hc] at hel
     by_cases h0 : cap = 0
     ·subst h0
      obtain rfl : len = 0 := by omega
      exact ⟨[], ⟨_, rfl, .inl ⟨some a, rfl, rfl, by simp⟩⟩, by simp, by simp⟩
     ·have first := hel 0 (by omega)
      obtain ⟨l0, y0, hl0, _⟩ := first
      have hcell := (x_vw (x_1u hl0)).2 0 0 (by rw [List.getElem?_range (by omega)])
      obtain ⟨c0, _, hc1⟩ := hcell
      have hsp : a.spot = none ∧ ∃ cs ty fz, w.heap[a.block]? = some (.cells cs ty fz) := by
       have : a.add (0 * x.cells) = a := by simp [Addr.add]
       rw [this] at hc1
       have h2 : a.add 0 = a := by simp [Addr.add]
       rw [h2] at hc1
       unfold World.cell? at hc1
       split at hc1
       ·rename_i cc ty fz hh
        split at hc1
        ·simp at hc1
        ·rename_i hsp
         exact ⟨by simpa using hsp, cc, ty, fz, hh⟩
       ·simp at hc1
      obtain ⟨hsp, cs, ty, fz, hh⟩ := hsp
      obtain ⟨b, o, sp⟩ := a
      simp only at hsp hh
      subst hsp
      have hplain : ∀ n m, ((⟨b, o, none⟩ : Addr).add n).add m = ⟨b, o + n + m, none⟩ := fun n m => by simp only [Addr.add]; split <;> split <;> simp_all
      have hrow : ∀ i, i < cap → ∃ v : x.val, (rep w (fun b => b < w.heap.size) x v ((cs.toList.drop (o + i * x.cells)).take x.cells) ∧ wfE x v) ∧ o + (i + 1) * x.cells ≤ cs.size := by
       intro i hi
       obtain ⟨l, y, h1, h2⟩ := hel i hi
       obtain ⟨h3, h4⟩ := x_vw (x_1u h1)
       have hget : ∀ j, j < x.cells → ∃ v, l[j]? = some v ∧ cs[o + i * x.cells + j]? = some v := fun j hj => by
        obtain ⟨v, h5, h6⟩ := h4 j j (by rw [List.getElem?_range hj])
        rw [hplain] at h6
        exact ⟨v, h5, by simpa [World.cell?, hh] using h6⟩
       have hsz : o + (i + 1) * x.cells ≤ cs.size := by
        obtain ⟨v, _, h6⟩ := hget (x.cells - 1) (by omega)
        have := (Array.getElem?_eq_some_iff.1 h6).1
        rw [Nat.succ_mul]; omega
       have hl : l = (cs.toList.drop (o + i * x.cells)).take x.cells := by
        simp only [List.length_range] at h3
        rw [Nat.succ_mul] at hsz
        apply List.ext_getElem?
        intro j
        rcases Nat.lt_or_ge j x.cells with hj | hj
        ·obtain ⟨v, h5, h6⟩ := hget j hj
         rw [h5, List.getElem?_take, if_pos hj, List.getElem?_drop, Array.getElem?_toList, h6]
        ·rw [List.getElem?_eq_none (by omega), List.getElem?_eq_none (by simp; omega)]
       obtain ⟨v, h7, h8⟩ := x_6r fuel d el x l y hx h2 hs
       exact ⟨v, ⟨by rw [← hl]; exact h7, h8⟩, hsz⟩
      obtain ⟨xs, hxs, hxq⟩ := x_65 len fun i hi => by
       obtain ⟨v, h1, _⟩ := hrow i (by omega)
       exact ⟨v, h1⟩
      refine ⟨xs, ⟨_, rfl, .inr ⟨b, o, cap, cs, ty, fz, by rw [hxs], ?_, by omega, hh, ?_, by simp, fun i hi => (hxq i hi).1⟩⟩, ?_, fun a ha => ?_⟩
      ·exact (Array.getElem?_eq_some_iff.1 hh).1
      ·simp only [Bool.false_eq_true, if_false, hxs]
       obtain ⟨_, _, hsz⟩ := hrow (cap - 1) (by omega)
       have := Nat.mul_le_mul_right x.cells (show len ≤ cap - 1 + 1 by omega)
       omega
      ·show xs.length ≤ maxLen
       omega
      ·obtain ⟨i, hi, rfl⟩ := List.mem_iff_getElem.1 ha
       exact (hxq i hi).2
   ·simp at hl
  ·simp at hl
end Go.Kn
namespace Go.Kn
variable [Ctx]
variable {P : Program} {H : Type} {enc : TypeId × Value → H} {w : World}
theorem x_me {x : ET} (v : x.val) : x_33 x x v = some v := by simp [x_33]
theorem x_z1 : ∀ (e : ET) (v : e.val) (r : List LV), x_eu e (lv e v ++ r) = some (v, r)
 | .p x y, v, r => by simp [lv, x_eu, x_z1 x, x_z1 y]
 | .u, v, r => rfl
 | .sl x, v, r => by
  show (x_33 (.sl x) (.sl x) v).map _ = _
  rw [x_me]; rfl
 | .i k, v, r => by
  show (x_33 (.i k) (.i k) v).map _ = _
  rw [x_me]; rfl
 | .b, v, r => by
  show (x_33 .b .b v).map _ = _
  rw [x_me]; rfl
 | .s, v, r => by
  show (x_33 .s .s v).map _ = _
  rw [x_me]; rfl
 | .er, v, r => by
  show (x_33 .er .er v).map _ = _
  rw [x_me]; rfl
theorem ofLV_of (e : ET) (v : e.val) : ofLV e (lv e v) = some v := by
 have := x_z1 e v []
 rw [List.append_nil] at this
 simp [ofLV, this]
def x_1i (es : List (Bool × ET)) : List Par := es.map fun x => .val x.1 x.2 (List.replicate x.2.cells .f)
def lawTy (P : Program) (t : TypeId) (x : Bool × ET) : Bool := layTy P 1000 t x.2 && (x.1 == aggOf P t) && P.readableRec t && decide (t < P.types.size)
def x_lk (P : Program) : List TypeId → List (Bool × ET) → Bool
 | [], [] => true
 | t :: ts, x :: xs => lawTy P t x && x_lk P ts xs
 | _, _ => false
def lawG (w : World) : Gh := { γ := fun b => if b < w.heap.size then .fr else .out, bb := fun _ => 0 }
theorem law_hands {e : ET} {v : e.val} {cs : List Value} (h : rep w (fun b => b < w.heap.size) e v cs) (lab : Nat → Pl) : Hands w (lawG w) lab (List.replicate e.cells .f) (lv e v) cs := by
 have hr : rep w (lawG w).fr e v cs := rep.mono (fun b hb => by simp [Gh.fr, lawG, hb]) (fun _ _ => rfl) e v cs h
 obtain ⟨hl, hg⟩ := (x_v5 e v cs (x_u3 e v cs hr)).get
 have hc := hr.length
 refine ⟨by simp; omega, by simp [hc], fun j m a cv hm ha hcv => ?_⟩
 obtain ⟨cv', h1, h2⟩ := hg j a ha
 rw [hcv] at h1
 obtain rfl := Option.some.inj h1
 rw [List.getElem?_replicate] at hm
 split at hm
 ·obtain rfl := Option.some.inj hm
  exact h2
 ·simp at hm
theorem law_agg {t : TypeId} {agg : Bool} {v : Value} {e : ET} {base : Nat} (ha : agg = aggOf P t) (hv : Value.okWide P w .any base t v) (hl : layTy P 1000 t e = true) : x_gv agg v := by
 subst ha
 unfold layTy at hl
 unfold Value.okWide at hv
 unfold x_gv aggOf
 cases hu : P.underlying t with
 | none => rw [hu] at hl; simp at hl
 | some d =>
  rw [hu] at hl hv
  cases d <;> simp only [Bool.false_eq_true] at hl <;> simp only [Cell.okWide, Cell.ok, hu] at hv <;> simp only [Bool.false_eq_true, if_false, if_true]
  case struct => obtain ⟨cs, h1, _⟩ := hv; exact ⟨cs, h1⟩
  all_goals (cases v <;> simp at hv ⊢ <;> simp [x_ca])
theorem x_af2 {base : Nat} : ∀ (ts : List TypeId) (es : List (Bool × ET)) (k : Nat) (args : List Value) (ds : List (DataW H)) (ps : List MemPlace), x_lk P ts es = true → DataW.TrodAll enc P w 0 (fun _ => true) true ts args ds ps →
  (∀ (j : Nat) t v, ts[j]? = some t → args[j]? = some v → Value.okWide P w .any base t v) →
  ∃ v : (argE (x_1i es)).val, wfE (argE (x_1i es)) v ∧ x_iu w (lawG w) k (x_1i es) (lv _ v) args
 | [], [], k, args, ds, ps, hl, h, hv => by
  obtain ⟨rfl, _, _⟩ := ChangeShapes.trodAll_nil h
  exact ⟨(), trivial, rfl, rfl⟩
 | [], _ :: _, k, args, ds, ps, hl, h, hv => by simp [x_lk] at hl
 | _ :: _, [], k, args, ds, ps, hl, h, hv => by simp [x_lk] at hl
 | t :: ts, x :: es, k, _, _, _, hl, h, hv => by
  obtain ⟨v, vs, d, ds, p, q, rfl, rfl, rfl, h1, h2⟩ := ChangeShapes.trodAll_cons h
  simp only [x_lk, lawTy, Bool.and_eq_true, beq_iff_eq, decide_eq_true_eq] at hl
  obtain ⟨⟨⟨⟨l1, l2⟩, l3⟩, l4⟩, l5⟩ := hl
  obtain ⟨fuel, h1⟩ := h1
  obtain ⟨a, r1, r2⟩ := x_6r fuel 1000 t x.2 _ _ l1 h1 (fun _ => rfl)
  obtain ⟨u, r3, r4⟩ := x_af2 ts es (k + 1) vs ds q l5 h2 (fun j t v ht hv' => hv (j + 1) t v (by simpa using ht) (by simpa using hv'))
  exact ⟨(a, u), ⟨r2, r3⟩, lv _ a, lv _ u, v, vs, rfl, rfl, law_hands r1 _, law_agg l2 (hv 0 t v rfl rfl) l1, r4⟩
theorem x_ae3 {w' : World} (hb : RowKit.Below w.heap.size w w') (hlo : laidOutB P = true) : ∀ (ts : List TypeId) (es : List (Bool × ET)) (args : List Value) (ds : List (DataW H)) (ps : List MemPlace), x_lk P ts es = true → DataW.TrodAll enc P w 0 (fun _ => true) true ts args ds ps →
  DataW.TrodAll enc P w' 0 (fun b => decide (b < w.heap.size)) true ts args ds ps
 | [], [], args, ds, ps, hl, h => by
  obtain ⟨rfl, rfl, rfl⟩ := ChangeShapes.trodAll_nil h
  rfl
 | [], _ :: _, args, ds, ps, hl, h => by simp [x_lk] at hl
 | _ :: _, [], args, ds, ps, hl, h => by simp [x_lk] at hl
 | t :: ts, x :: es, _, _, _, hl, h => by
  obtain ⟨v, vs, d, ds, p, q, rfl, rfl, rfl, h1, h2⟩ := ChangeShapes.trodAll_cons h
  simp only [x_lk, lawTy, Bool.and_eq_true, beq_iff_eq, decide_eq_true_eq] at hl
  obtain ⟨⟨⟨⟨l1, l2⟩, l3⟩, l4⟩, l5⟩ := hl
  have hlt : ∀ x ∈ p, x.block < w.heap.size := by obtain ⟨m, hm⟩ := h1; exact DataW.trod_lt m _ _ _ hm
  exact ⟨p, q, RowKit.Below.trod hlo l3 l4 h1 hb hlt, x_ae3 hb hlo ts es vs ds q l5 h2, rfl⟩
def lawF (es : List (Bool × ET)) (fn : (argE (x_1i es)).val → Option (resE (x_1i es) [(false, .b, [.f])]).val) : FSp := { ps := x_1i es, rs := [(false, .b, [.f])], fn := fn }
theorem law_calls (hC : Ctx.ok w) (hAt : ∀ b, Ctx.at_ b → b < w.heap.size) {f : FuncId} {es : List (Bool × ET)} {fn : (argE (x_1i es)).val → Option (resE (x_1i es) [(false, .b, [.f])]).val} (hF : FOk P f (lawF es fn)) (hp : ∀ v, wfE (argE (x_1i es)) v → ∃ u, fn v = some (true, u))
  {ts : List TypeId} {args : Array Value} {ds : List (DataW H)} {ps : List MemPlace} {base : Nat} (hl : x_lk P ts es = true) (h : DataW.TrodAll enc P w 0 (fun _ => true) true ts args.toList ds ps)
  (hv : ∀ (j : Nat) t v, ts[j]? = some t → args.toList[j]? = some v → Value.okWide P w .any base t v) : Calls P f args w fun e w' => e = .returned (.bool true) ∧ RowKit.Below w.heap.size w w' := by
 obtain ⟨v, h1, h2⟩ := x_af2 ts es 0 args.toList ds ps hl h hv
 obtain ⟨u, hu⟩ := hp v h1
 have := hF.ok rfl w (lawG w) args.toList _ v (true, u) ⟨fun b hb => by
  simp only [lawG] at hb
  split at hb
  ·assumption
  ·simp at hb, fun b hb => by simp only [lawG]; rw [if_pos (hAt b hb)], hC⟩ h2 (ofLV_of _ v) hu
 have e0 : (x_1j (lawF es fn).pk args.toList).toArray = args := by
  show (x_1j [] args.toList).toArray = args
  have : x_1j [] args.toList = args.toList := by cases args.toList <;> rfl
  rw [this, Array.toArray_toList]
 rw [e0] at this
 refine this.mono fun e w' he => ?_
 cases e with
 | returned rv =>
  obtain ⟨g', S, hU, hf, hh, _⟩ := he
  obtain ⟨f1, f2⟩ := hf
  have f1 : x_ca rv := f1
  have hcv : vcs rv = [rv] := by
   cases rv <;> simp [vcs, x_ca] at f1 ⊢
  rw [hcv] at hh
  have h3 := hh.h 0 .f ⟨.b, true⟩ rv rfl rfl rfl rfl
  have h3 : false = false ∧ [rv] = [.bool true] := h3
  refine ⟨by rw [List.singleton_inj.1 h3.2], S.oth.1, S.oth.2.1, S.oth.2.2, S.size, fun k hk => (S.fr k (by simp [lawG, hk])).2⟩
 | panicked c => exact he.elim
 | outgrown => exact he.elim
theorem x_ahd {C : Checked} {f : FuncId} {fn : Func} {s : ChangeSpec} {W : World} (hC : Ctx.ok W) (hAt : ∀ b, Ctx.at_ b → b < W.heap.size)
  (hvars : s.vars = []) {rt : TypeId} (hrt : fn.resultTypes.toList = [rt]) (hbool : C.prog.underlying rt = some .bool) (hlo : laidOutB C.prog = true) {es : List (Bool × ET)} (hl : x_lk C.prog fn.params.toList es = true)
  (hs : ∀ ds : List (DataW H), ds.length = es.length → s.fn H ds = { results := [.lit (.bool true)], args := ds })
  {g : (argE (x_1i es)).val → Option (resE (x_1i es) [(false, .b, [.f])]).val} (hF : FOk C.prog f (lawF es g)) (hp : ∀ v, wfE (argE (x_1i es)) v → ∃ u, g v = some (true, u))
  {base : Nat} {args : Array Value} {ds gs : List (DataW H)} {before : List MemPlace} (hval : ∀ (j : Nat) t v, fn.params[j]? = some t → args[j]? = some v → Value.okWide C.prog W .any base t v)
  (hW : DataW.Whole enc C.prog fn.params.toList s.vars false W args.toList ds gs before) :
  Calls C.prog f args W fun e W' => ∃ v, e = .returned v ∧ s.post enc C.prog fn false true false false W args v W' := by
 have hW' := hW
 obtain ⟨p, q, hA, hV, rfl, hfz, hnd⟩ := hW
 rw [hvars] at hV
 obtain ⟨rfl, rfl⟩ := ChangeShapes.trodVars_none hV
 refine (law_calls hC hAt hF hp hl hA (base := base) fun j t v ht hv => hval j t v (by simpa using ht) (by simpa using hv)).mono fun e W' ⟨he, bel⟩ => ?_
 subst he
 have hlen : ∀ (ts : List TypeId) (vs : List Value) (ds : List (DataW H)) (p : List MemPlace) (es : List (Bool × ET)), x_lk C.prog ts es = true → DataW.TrodAll enc C.prog W 0 (fun _ => true) true ts vs ds p → ds.length = es.length := by
  intro ts
  induction ts with
  | nil => intro vs ds p es hl h; obtain ⟨_, rfl, _⟩ := ChangeShapes.trodAll_nil h; cases es <;> simp [x_lk] at hl ⊢
  | cons t ts ih =>
   intro vs ds p es hl h
   cases es with
   | nil => simp [x_lk] at hl
   | cons x es =>
    obtain ⟨v, vs, d, ds, p, q, rfl, rfl, rfl, h1, h2⟩ := ChangeShapes.trodAll_cons h
    simp only [x_lk, Bool.and_eq_true] at hl
    simp [ih vs ds q es hl.2 h2]
 have hfs := hs (ds ++ []) (by rw [List.append_nil]; exact hlen _ _ _ _ _ hl hA)
 have hsz : fn.resultTypes.size = 1 := by have := congrArg List.length hrt; simpa using this
 refine ⟨_, rfl, ds, [], p ++ [], [], p, [], hW', ?_, ?_, ?_, bel.frame _, fun h => by cases h⟩
 ·rw [hfs, hrt, hsz]
  exact ChangeShapes.trodAll_mk1 (RowKit.shut_bool hbool _)
 ·rw [hfs, List.append_nil]
  exact x_ae3 bel hlo _ _ _ _ _ hl hA
 ·rw [hfs, hvars]; rfl
theorem law_lifted {C : Checked} {os : Os} {f : FuncId} {fn : Func} {s : ChangeSpec} (own : ownKnob C.prog.godebug = none) (started : os.Started) (noInit : C.prog.inits.idxOf? f = none) (hfn : C.prog.funcs[f]? = some fn)
  (witness : ∃ (w : World) (tape : Tape) (i : Input), w.os = os ∧ (w.forCall tape i).Shaped C.prog ∧ i.vars = [] ∧ Input.okWide C.prog (w.forCall tape i) .any w.heap.size f i ∧
   s.pre6 enc C.prog fn [] false (w.forCall tape i).memory i.args ∧ ({} : Assume).holds C.prog (lone (Frame.enter C.prog f i.args .normal) [] (w.forCall tape i)))
  (hctx : ∀ w : World, w.ShapedOpen C.prog → Ctx.ok w ∧ ∀ b, Ctx.at_ b → b < w.heap.size)
  (hvars : s.vars = []) {rt : TypeId} (hrt : fn.resultTypes.toList = [rt]) (hbool : C.prog.underlying rt = some .bool) (hlo : laidOutB C.prog = true) {es : List (Bool × ET)} (hl : x_lk C.prog fn.params.toList es = true)
  (hs : ∀ ds : List (DataW H), ds.length = es.length → s.fn H ds = { results := [.lit (.bool true)], args := ds })
  {g : (argE (x_1i es)).val → Option (resE (x_1i es) [(false, .b, [.f])]).val} (hF : FOk C.prog f (lawF es g)) (hp : ∀ v, wfE (argE (x_1i es)) v → ∃ u, g v = some (true, u)) :
  ReturnsInHanded {} C os f .any (s.pre6 enc C.prog fn [] false) (s.post enc C.prog fn false true false false) := by
 refine returnsInHanded_of_change_shaped own started noInit hfn witness ?_
 intro W base args ds gs before hval hW _ _ hsh _
 exact x_ahd (hctx W hsh).1 (hctx W hsh).2 hvars hrt hbool hlo hl hs hF hp hval hW
theorem x_wt {C : Checked} {os : Os} {f : FuncId} {fn : Func} {s : ChangeSpec} {X : World → Prop} (hX : ∀ w w' : World, w.heap = w'.heap → X w → X w')
  (own : ownKnob C.prog.godebug = none) (started : os.Started) (noInit : C.prog.inits.idxOf? f = none) (hfn : C.prog.funcs[f]? = some fn)
  (witness : ∃ (w : World) (tape : Tape) (i : Input), w.os = os ∧ (w.forCall tape i).Shaped C.prog ∧ i.vars = [] ∧ Input.okWide C.prog (w.forCall tape i) .any w.heap.size f i ∧
   ((s.pre enc C.prog fn [] false (w.forCall tape i).memory i.args ∧ X (w.forCall tape i).memory) ∧ sizedMet enc C.prog fn (OpenSpec.ofChange s) false (w.forCall tape i).memory i.args) ∧ ({} : Assume).holds C.prog (lone (Frame.enter C.prog f i.args .normal) [] (w.forCall tape i)))
  (hctx : ∀ w : World, w.ShapedOpen C.prog → X w → Ctx.ok w ∧ ∀ b, Ctx.at_ b → b < w.heap.size)
  (hvars : s.vars = []) {rt : TypeId} (hrt : fn.resultTypes.toList = [rt]) (hbool : C.prog.underlying rt = some .bool) (hlo : laidOutB C.prog = true) {es : List (Bool × ET)} (hl : x_lk C.prog fn.params.toList es = true)
  (hs : ∀ ds : List (DataW H), ds.length = es.length → s.fn H ds = { results := [.lit (.bool true)], args := ds })
  {g : (argE (x_1i es)).val → Option (resE (x_1i es) [(false, .b, [.f])]).val} (hF : FOk C.prog f (lawF es g)) (hp : ∀ v, wfE (argE (x_1i es)) v → ∃ u, g v = some (true, u)) :
  ReturnsInHanded {} C os f .any (fun w args => (s.pre enc C.prog fn [] false w args ∧ X w) ∧ sizedMet enc C.prog fn (OpenSpec.ofChange s) false w args) (s.post enc C.prog fn false true false false) := by
 refine returnsInHanded_of_calls own started noInit witness ?_
 intro w tape i _ hsh _ hok hpre hholds
 obtain ⟨_, _, _, fn', hfn', _, _, _, _, hval⟩ := hok
 have e : fn' = fn := Option.some.inj (hfn'.symm.trans hfn)
 subst e
 obtain ⟨⟨⟨ds, gs, before, hw, hc⟩, hx⟩, hz⟩ := hpre
 have hw' := DataW.Whole.of_heap (w' := w.forCall tape i) (by rfl) hw
 have hx' := hctx (w.forCall tape i) hsh (hX _ _ (by rfl) hx)
 refine (x_ahd hx'.1 hx'.2 hvars hrt hbool hlo hl hs hF hp hval hw').mono fun e W' ⟨v, he, hp⟩ => ?_
 subst he
 exact ChangeSpec.post_blind hp
end Go.Kn
namespace Go.Kn
variable [Ctx]
variable {P : Program}
def tiOf (l : List (TypeId × TInf)) (t : TypeId) : Option TInf := (l.find? fun x => x.1 == t).map (·.2)
def x_ai (ti : TypeId → Option TInf) (l : List (FuncId × FSp)) : Tab := { ti := ti, fs := fun f => (l.find? fun x => x.1 == f).map (·.2) }
theorem tabOk_of {l : List (TypeId × TInf)} (h : (l.all fun x => x_2u P (tiOf l) x.1 x.2) = true) : x_f2 P (tiOf l) := by
 intro t i ht
 simp only [tiOf, Option.map_eq_some_iff] at ht
 obtain ⟨x, h1, rfl⟩ := ht
 have h2 := List.find?_some h1
 have h3 := List.mem_of_find?_eq_some h1
 obtain rfl : x.1 = t := by simpa using h2
 exact List.all_eq_true.1 h x h3
theorem tok0 {ti : TypeId → Option TInf} (h : x_f2 P ti) : TOk P (x_ai ti []) := ⟨h, fun f F hf => by simp [x_ai] at hf⟩
theorem tok_frz {T : Tab} {z : Nat → Bool} (h : TOk P T) : TOk P { T with frz := z } := ⟨h.ty, h.fn⟩
theorem tokc {ti : TypeId → Option TInf} {f : FuncId} {F : FSp} {l : List (FuncId × FSp)} (h : FOk P f F) (H : TOk P (x_ai ti l)) : TOk P (x_ai ti ((f, F) :: l)) := by
 refine ⟨H.ty, fun g G hg => ?_⟩
 simp only [x_ai, List.find?_cons, Option.map_eq_some_iff] at hg
 obtain ⟨x, h1, rfl⟩ := hg
 split at h1
 ·rename_i he
  obtain rfl := Option.some.inj h1
  obtain rfl : f = g := by simpa using he
  exact h
 ·exact H.fn g _ (by simp only [x_ai, Option.map_eq_some_iff]; exact ⟨x, h1, rfl⟩)
inductive Dir where
 | l | r | b | t | e | lp (n : Nat)
def subc : Code → List Dir → Code
 | .seq a _, .l :: p => subc a p
 | .seq _ b, .r :: p => subc b p
 | .block _ c, .b :: p => subc c p
 | .cond _ x _, .t :: p => subc x p
 | .cond _ _ y, .e :: p => subc y p
 | .loop c, .lp _ :: p => subc c p
 | c, _ => c
noncomputable def cont {R : Type} (T : Tab) (H : Hint) (K : Nat) : Code → List Dir → (Ex → St → Option R) → (Ex → St → Option R)
 | .seq a b, .l :: p, k => cont T H K a p fun e st' => match e with
  | .normal => run T H K b st' k
  | e => k e st'
 | .seq _ b, .r :: p, k => cont T H K b p k
 | .block id c, .b :: p, k => cont T H K c p fun e st' => match e with
  | .exit j => if j = id then k .normal st' else k (.exit j) st'
  | e => k e st'
 | .cond _ x _, .t :: p, k => cont T H K x p k
 | .cond _ _ y, .e :: p, k => cont T H K y p k
 | .loop c, .lp n :: p, k => cont T H K c p fun e st' => match e with
  | .normal => loopN (fun st k => run T H K c st k) n st' k
  | e => k e st'
 | _, _, k => k
noncomputable def lpg {R : Type} (T : Tab) (H : Hint) (K : Nat) (c : Code) (p : List Dir) (n : Nat) (st : St) (k : Ex → St → Option R) : Option R :=
 loopN (fun st k => run T H K (subc c (p ++ [.lp 0])) st k) n st (cont T H K c p k)
def bs (l : List UInt8) : ByteArray := ⟨l.toArray⟩
def msk (l : List Nat) (r n : Nat) : Bool := (l.getD r 0).testBit n
end Go.Kn
namespace Go.Kn
open Go.RowKit (Below)
variable [Ctx]
variable {P : Program} {w w' : World} {g : Gh}
theorem x_zu (h : Below w.heap.size w w') (hU : Uni w g) : Stp w g w' g :=
 ⟨fun b hb => ⟨hb, h.block b (hU.1 b (by simp [hb]))⟩, fun b hb => ⟨hb, h.block b (hU.1 b (by simp [hb]))⟩, fun b hl hb => ⟨hb, h.block b hl⟩, h.size, h.os, h.tape, h.output⟩
theorem x_1d (h : Below w.heap.size w w') (hU : Uni w g) : Uni w' g :=
 ⟨fun b hb => Nat.lt_of_lt_of_le (hU.1 b hb) h.size, LibOk.of (fun b hb => ⟨hb, h.block b (hU.1 b (by simp [hb]))⟩) hU.2⟩
theorem x_aae {v : Value} (h : x_ca v) : v.cells.toList = [v] := by cases v <;> simp [x_ca, Value.cells] at h ⊢
theorem plain_vcs {v : Value} (h : x_ca v) : vcs v = [v] := by cases v <;> simp [x_ca, vcs] at h ⊢
theorem x_ng {lab : Nat → Pl} {m : Md} {a : LV} {v : Value} (h : Hands w g lab [m] [a] v.cells.toList) (hv : x_ca v) : hand w g (lab 0) m a v := by
 rw [x_aae hv] at h
 exact h.h 0 m a v rfl rfl rfl
theorem allF {l : List Md} {j : Nat} {m : Md} {C : Prop} (hm : l[j]? = some m) (hn : noR m = false) (h : l.all noR = true := by rfl) : C := by
 have := List.all_eq_true.1 h m (List.mem_of_getElem? hm)
 rw [hn] at this; cases this
theorem x_ahl {ps : List Par} {fn : (argE ps).val → Option (resE ps [(false, .s, [.f])]).val} {pk : List Pk} {s : ByteArray} {u : (ptrE ps).val} (hps : ∀ p ∈ ps, ∃ a e ms, p = .val a e ms)
  (hU : Uni w g) (hb : Below w.heap.size w w') : fEnd { ps := ps, rs := [(false, .s, [.f])], pk := pk, fn := fn } w g (s, u) (.returned (.string s)) w' := by
 refine ⟨g, x_zu hb hU, x_1d hb hU, ⟨by simp [x_gv, x_ca], by simp [Value.cells]⟩, ⟨rfl, rfl, fun j m a cv hm ha hc _ => ?_, fun j m cv hm _ hn => absurd hn (by rcases j with _ | j <;> simp at hm; subst hm; simp [noR])⟩, ?_⟩
 ·cases j with
  | zero =>
   obtain rfl : Md.f = m := Option.some.inj hm
   obtain rfl : (⟨.s, s⟩ : LV) = a := Option.some.inj ha
   obtain rfl : Value.string s = cv := Option.some.inj hc
   exact ⟨rfl, rfl⟩
  | succ j => simp at hm
 ·have : ∀ (ps : List Par) (k : Nat) (l : List LV), (∀ p ∈ ps, ∃ a e ms, p = .val a e ms) → x_r4 g w' g k ps l := by
   intro ps
   induction ps with
   | nil => intro k l h; trivial
   | cons p ps ih =>
    intro k l h
    obtain ⟨a, e, ms, rfl⟩ := h p (by simp)
    exact ih (k + 1) l fun q hq => h q (by simp [hq])
  exact this ps 0 _ hps
def lItoa (n : Int) : Option (ByteArray × Unit) := bif decide ((-9223372036854775808 : Int) ≤ n) && decide (n ≤ 9223372036854775807) then some (⟨(Lib.itoa n).toArray⟩, ()) else none
noncomputable def x_8d : FSp := { ps := [.val false (.i .i64) [.f]], rs := [(false, .s, [.f])], fn := fun v => lItoa v.1 }
theorem okl_itoa {f : FuncId} (ent : ∃ fn, P.funcs[f]? = some fn ∧ fn.body.isNone = false ∧ (fn.name == "runtime.NumGoroutine") = false)
  (h : ∀ n w, Ctx.ok w → -9223372036854775808 ≤ n → n ≤ 9223372036854775807 → Calls P f #[.int .i64 n] w fun e w' => e = .returned (.string ⟨(Lib.itoa n).toArray⟩) ∧ Below w.heap.size w w') : FOk P f x_8d := by
 refine .plain ent rfl fun w g vs ls v r hU ha hv hr => ?_
 have hls := x_r7 hv
 obtain ⟨l1, l2, x, vs', h1, rfl, h3, h4, rfl, rfl⟩ := ha
 have e1 : l1 = [⟨.i .i64, v.1⟩] := by rw [List.append_nil] at h1; rw [← h1]; exact hls.symm
 subst e1
 have hx := x_ng h3 h4
 obtain ⟨_, hx⟩ := hx
 simp only [rep, List.cons.injEq, and_true] at hx
 subst hx
 simp only [x_8d, lItoa] at hr
 cases hd : decide ((-9223372036854775808 : Int) ≤ v.1) && decide (v.1 ≤ 9223372036854775807) with
 | false => rw [hd] at hr; simp at hr
 | true =>
  rw [hd] at hr
  have hr := Option.some.inj (show some _ = some r from hr)
  simp only [Bool.and_eq_true, decide_eq_true_eq] at hd
  subst hr
  refine (h v.1 w hU.2.2 hd.1 hd.2).mono fun e w' ⟨he, hb⟩ => ?_
  subst he
  exact x_ahl (fun p hp => ⟨_, _, _, by simpa using hp⟩) hU hb
theorem x_zi {w : World} {g : Gh} {p : Pl} {s : ByteArray} {cv : Value} (h : hand w g p .f ⟨.s, s⟩ cv) : cv = .string s := by
 obtain ⟨_, h⟩ := h
 simpa only [rep, List.cons.injEq, and_true] using h
theorem rows_str {ok : Nat → Prop} {fr : Nat → Prop} {xs : List ByteArray} {cv : Value} (h : x_ba w ok false (rep w fr .s) 1 xs cv) : (∃ a, cv = .slice a 0 0 ∧ xs = []) ∨
  ∃ b o cap, cv = .slice (some ⟨b, o, none⟩) xs.length cap ∧ ok b ∧ xs.length ≤ cap ∧ b < w.heap.size ∧ ∀ (j : Nat) x, xs[j]? = some x → w.cell? ⟨b, o + j, none⟩ = some (.string x) := by
 rcases h with ⟨a, h1, h2, _⟩ | ⟨b, o, cap, cs, ty, fz, h1, h2, h3, h4, h5, _, h7⟩
 ·exact .inl ⟨a, h1, h2⟩
 ·refine .inr ⟨b, o, cap, h1, h2, h3, (Array.getElem?_eq_some_iff.1 h4).1, fun j x hx => ?_⟩
  obtain ⟨hj, rfl⟩ := List.getElem?_eq_some_iff.1 hx
  have := h7 j hj
  simp only [rep, Nat.mul_one] at this
  simp only [World.cell?, h4]
  have hlen : o + j < cs.size := by simp at h5; omega
  rw [List.drop_eq_getElem_cons (by simpa using hlen)] at this
  simp only [List.take_succ_cons, List.take_zero, List.cons.injEq, and_true, Array.getElem_toList] at this
  simp [hlen, this]
def lJoin (l : List ByteArray) (sep : ByteArray) : Option (ByteArray × Unit) := bif decide (l.length ≤ 140737488355328) && decide ((Lib.join (l.map (·.data.toList)) sep.data.toList).length ≤ 140737488355328) then some (⟨(Lib.join (l.map (·.data.toList)) sep.data.toList).toArray⟩, ()) else none
noncomputable def x_13 : FSp := { ps := [.val false (.sl .s) [.r], .val false .s [.f]], rs := [(false, .s, [.f])], fn := fun v => lJoin v.1 v.2.1 }
theorem okl_join {f : FuncId} (ent : ∃ fn, P.funcs[f]? = some fn ∧ fn.body.isNone = false ∧ (fn.name == "runtime.NumGoroutine") = false)
  (h0 : ∀ (a : Option Addr) (c : Nat) (sep : ByteArray) (w : World), Calls P f #[.slice a 0 c, .string sep] w fun e w' => e = .returned (.string ⟨#[]⟩) ∧ w' = w)
  (h : ∀ (bk o c : Nat) (xs : List ByteArray) (sep : ByteArray) (w : World), (∀ (j : Nat) x, xs[j]? = some x → w.cell? ⟨bk, o + j, none⟩ = some (.string x)) → bk < w.heap.size → xs.length ≤ 140737488355328 → xs.length ≤ c →
   (Lib.join (xs.map (·.data.toList)) sep.data.toList).length ≤ 140737488355328 →
   Calls P f #[.slice (some ⟨bk, o, none⟩) xs.length c, .string sep] w fun e w' => e = .returned (.string ⟨(Lib.join (xs.map (·.data.toList)) sep.data.toList).toArray⟩) ∧ Below w.heap.size w w') : FOk P f x_13 := by
 refine .plain ent rfl fun w g vs ls v r hU ha hv hr => ?_
 have hls := x_r7 hv
 obtain ⟨l1, l2, x, vs', h1, rfl, h3, h4, l3, l4, y, vs'', h5, rfl, h6, h7, rfl, rfl⟩ := ha
 have e0 : l1 ++ l2 = [⟨.sl .s, v.1⟩, ⟨.s, v.2.1⟩] := by rw [← h1]; exact hls.symm
 have hn := h3.l1
 have e1 : l1 = [⟨.sl .s, v.1⟩] ∧ l2 = [⟨.s, v.2.1⟩] := by
  match l1, hn with
  | [a], _ => exact ⟨by rw [(List.cons.inj (show a :: l2 = _ :: _ from e0)).1], (List.cons.inj (show a :: l2 = _ :: _ from e0)).2⟩
 obtain ⟨rfl, rfl⟩ := e1
 rw [List.append_nil] at h5
 subst h5
 have hx := x_ng h3 h4
 have hy := x_zi (x_ng h6 h7)
 subst hy
 simp only [x_13, lJoin] at hr
 cases hd : decide (v.1.length ≤ 140737488355328) && decide ((Lib.join (v.1.map (·.data.toList)) v.2.1.data.toList).length ≤ 140737488355328) with
 | false => rw [hd] at hr; simp at hr
 | true =>
  rw [hd] at hr
  have hr := Option.some.inj (show some _ = some r from hr)
  simp only [Bool.and_eq_true, decide_eq_true_eq] at hd
  subst hr
  have fin : ∀ e w', (e = .returned (.string ⟨(Lib.join (v.1.map (·.data.toList)) v.2.1.data.toList).toArray⟩) ∧ Below w.heap.size w w') → fEnd x_13 w g (⟨(Lib.join (v.1.map (·.data.toList)) v.2.1.data.toList).toArray⟩, ()) e w' := fun e w' ⟨he, hb⟩ => by
   subst he
   exact x_ahl (fun p hp => by simp only [List.mem_cons, List.not_mem_nil, or_false] at hp; rcases hp with rfl | rfl <;> exact ⟨_, _, _, rfl⟩) hU hb
  rcases rows_str (xs := v.1) hx with ⟨a, rfl, h0'⟩ | ⟨b, o, cap, rfl, _, h8, h9, h10⟩
  ·refine (h0 a 0 v.2.1 w).mono fun e w' ⟨he, hw⟩ => fin e w' ⟨?_, hw ▸ Below.refl _ _⟩
   rw [he, h0']
   rfl
  ·exact (h b o cap v.1 v.2.1 w h10 h9 hd.1 h8 hd.2).mono fin
def lSplit (s sep : ByteArray) : Option (List ByteArray × Unit) := bif decide (s.size < 4294967281) && decide (1 ≤ sep.size) then some (Lib.splitB sep 0 (Lib.countB s sep) s, ()) else none
noncomputable def x_afx : FSp := { ps := [.val false .s [.f], .val false .s [.f]], rs := [(false, .sl .s, [.f])], fn := fun v => lSplit v.1 v.2.1 }
theorem two_strs {w : World} {g : Gh} {vs : List Value} {ls : List LV} {s t : ByteArray} {u : Unit} (ha : x_iu w g 0 [.val false .s [.f], .val false .s [.f]] ls vs) (hls : lv (argE [.val false .s [.f], .val false .s [.f]]) (s, t, u) = ls) : vs = [.string s, .string t] := by
 obtain ⟨l1, l2, x, vs', h1, rfl, h3, h4, l3, l4, y, vs'', h5, rfl, h6, h7, rfl, rfl⟩ := ha
 have e0 : l1 ++ l2 = [⟨.s, s⟩, ⟨.s, t⟩] := by rw [← h1]; exact hls.symm
 have hn := h3.l1
 have e1 : l1 = [⟨.s, s⟩] ∧ l2 = [⟨.s, t⟩] := by
  match l1, hn with
  | [a], _ => exact ⟨by rw [(List.cons.inj (show a :: l2 = _ :: _ from e0)).1], (List.cons.inj (show a :: l2 = _ :: _ from e0)).2⟩
 obtain ⟨rfl, rfl⟩ := e1
 rw [List.append_nil] at h5
 subst h5
 have hx := x_zi (x_ng h3 h4)
 have hy := x_zi (x_ng h6 h7)
 rw [hx, hy]
theorem okl_split {f : FuncId} {ty : TypeId} (ent : ∃ fn, P.funcs[f]? = some fn ∧ fn.body.isNone = false ∧ (fn.name == "runtime.NumGoroutine") = false)
  (h : ∀ (s sep : ByteArray) (w : World), Ctx.ok w → s.size < 4294967281 → 1 ≤ sep.size → Calls P f #[.string s, .string sep] w fun e w' =>
   e = .returned (.slice (some ⟨w.heap.size, 0, none⟩) (Lib.countB s sep + 1) (Lib.countB s sep + 1)) ∧ w' = w.alloc (.cells ((Lib.splitB sep 0 (Lib.countB s sep) s).map Value.string).toArray ty)) : FOk P f x_afx := by
 refine .plain ent rfl fun w g vs ls v r hU ha hv hr => ?_
 have hls := x_r7 hv
 have hvs := two_strs ha hls
 subst hvs
 simp only [x_afx, lSplit] at hr
 cases hd : decide (v.1.size < 4294967281) && decide (1 ≤ v.2.1.size) with
 | false => rw [hd] at hr; simp at hr
 | true =>
  rw [hd] at hr
  have hr := Option.some.inj (show some _ = some r from hr)
  simp only [Bool.and_eq_true, decide_eq_true_eq] at hd
  subst hr
  refine (h v.1 v.2.1 w hU.2.2 hd.1 hd.2).mono fun e w' ⟨he, hw⟩ => ?_
  subst he hw
  have hb : Below w.heap.size w (w.alloc (.cells ((Lib.splitB v.2.1 0 (Lib.countB v.1 v.2.1) v.1).map Value.string).toArray ty)) := (Below.refl _ _).alloc (Nat.le_refl _) _
  have hlen := Lib.splitB_all v.2.1 hd.2 0 (Lib.countB v.1 v.2.1) v.1 rfl
  generalize hxs : Lib.splitB v.2.1 0 (Lib.countB v.1 v.2.1) v.1 = xs at hlen hb ⊢
  have hS := x_zu hb hU
  have hUn := x_1d hb hU
  let g' : Gh := { g with γ := fun b => if b = w.heap.size then .fr else g.γ b }
  have hne : ∀ b, b < w.heap.size → g'.γ b = g.γ b := fun b hb => by simp [g', Nat.ne_of_lt hb]
  have hsz : (w.alloc (.cells (xs.map Value.string).toArray ty)).heap.size = w.heap.size + 1 := by show (w.heap.push _).size = _; rw [Array.size_push]
  have hnew : (w.alloc (.cells (xs.map Value.string).toArray ty)).heap[w.heap.size]? = some (.cells (xs.map Value.string).toArray ty) := by show (w.heap.push _)[w.heap.size]? = _; simp
  have hout : ∀ b, w.heap.size ≤ b → g.γ b = .out := fun b hb => by
   by_cases h : g.γ b = .out
   ·exact h
   ·exact absurd (hU.1 b h) (by omega)
  refine ⟨g', ⟨fun b hb' => ?_, fun b hb' => ?_, fun b hl hb' => ⟨by rw [hne b hl]; exact hb', (hS.out b hl hb').2⟩, hS.size, hS.oth⟩, ⟨fun b hb' => ?_, LibOk.of (fun b hb' => ⟨?_, rfl⟩) hUn.2⟩, ⟨by simp [x_gv, x_ca], by simp [Value.cells]⟩, ⟨rfl, rfl, fun j m a cv hm ha hc _ => ?_, fun j m cv hm _ hn => allF hm hn⟩, trivial⟩
  ·have hl := hU.1 b (by rw [hb']; simp)
   exact ⟨by rw [hne b hl]; exact hb', (hS.fr b hb').2⟩
  ·have hl := hU.1 b (by rw [hb']; simp)
   exact ⟨by rw [hne b hl]; exact hb', (hS.lent b hb').2⟩
  ·by_cases h : b = w.heap.size
   ·omega
   ·have : g'.γ b = g.γ b := by simp [g', h]
    rw [this] at hb'
    have := hU.1 b hb'
    omega
  ·simp only [g']
   split
   ·rfl
   ·exact hb'
  ·cases j with
   | zero =>
    obtain rfl : Md.f = m := Option.some.inj hm
    obtain rfl : (⟨.sl .s, xs⟩ : LV) = a := Option.some.inj ha
    obtain rfl := Option.some.inj hc
    refine .inr ⟨w.heap.size, 0, Lib.countB v.1 v.2.1 + 1, _, _, _, by rw [hlen], if_pos rfl, Nat.le_of_eq hlen, hnew, ?_, fun h => by simp at h, fun i hi => ?_⟩
    ·show 0 + xs.length * 1 ≤ _
     simp
    ·show ((xs.map Value.string).toArray.toList.drop (0 + i * 1)).take 1 = [Value.string xs[i]]
     rw [Nat.zero_add, Nat.mul_one, List.drop_eq_getElem_cons (by simpa using hi)]
     simp only [List.take_succ_cons, List.take_zero, List.getElem_map, List.getElem_toArray, Array.getElem_toList]
   | succ j => exact absurd (show ([Md.f] : List Md)[j + 1]? = some m from hm) (by simp)
def lAtoi (s : ByteArray) : Option (Int × Bool × Unit) := bif decide (s.size ≤ 281474976710656) then some (match Lib.atoiAll s.data.toList with | .ok n => (n, false, ()) | .range => (Lib.atoiSat s.data.toList, true, ()) | _ => ((0 : Int), true, ())) else none
noncomputable def F_lAtoi : FSp := { ps := [.val false .s [.f]], rs := [(false, .i .i64, [.f]), (false, .er, [.f])], fn := fun v => lAtoi v.1 }
theorem x_5l {ps : List Par} {fn : (argE ps).val → Option (resE ps [(false, .i .i64, [.f]), (false, .er, [.f])]).val} {pk : List Pk} {n : Int} {b : Bool} {x : Value} {u : (ptrE ps).val} (hps : ∀ p ∈ ps, ∃ a e ms, p = .val a e ms)
  (hx : x_39 x b) (hU : Uni w g) (hb : Below w.heap.size w w') : fEnd { ps := ps, rs := [(false, .i .i64, [.f]), (false, .er, [.f])], pk := pk, fn := fn } w g (n, b, u) (.returned (.tuple #[.int .i64 n, x])) w' := by
 have hp : x_ca x := by cases x <;> simp [x_39, x_ca] at hx ⊢
 have hxc : x.cells = #[x] := by cases x <;> simp [x_39, Value.cells] at hx ⊢
 refine ⟨g, x_zu hb hU, x_1d hb hU, ⟨_, rfl, rfl, fun i h h' => ?_⟩, ⟨rfl, by cases x <;> simp [x_39, vcs] at hx ⊢, fun j m a cv hm ha hc _ => ?_, fun j m cv hm _ hn => allF hm hn⟩, ?_⟩
 ·match i, h with
  | 0, _ => exact ⟨by simp [x_gv, x_ca], by simp [Value.cells]⟩
  | 1, _ => exact ⟨by simpa [x_gv] using hp, by simp [hxc]⟩
 ·have hvc : vcs (.tuple #[.int .i64 n, x]) = [.int .i64 n, x] := by cases x <;> simp [x_39, vcs] at hx ⊢
  rw [hvc] at hc
  match j with
  | 0 =>
   obtain rfl : Md.f = m := Option.some.inj hm
   obtain rfl : (⟨.i .i64, n⟩ : LV) = a := Option.some.inj ha
   obtain rfl : Value.int .i64 n = cv := Option.some.inj hc
   exact ⟨rfl, rfl⟩
  | 1 =>
   obtain rfl : Md.f = m := Option.some.inj hm
   obtain rfl : (⟨.er, b⟩ : LV) = a := Option.some.inj ha
   obtain rfl : x = cv := Option.some.inj hc
   exact ⟨rfl, _, rfl, hx⟩
  | j + 2 => simp at hm
 ·have : ∀ (ps : List Par) (k : Nat) (l : List LV), (∀ p ∈ ps, ∃ a e ms, p = .val a e ms) → x_r4 g w' g k ps l := by
   intro ps
   induction ps with
   | nil => intro k l h; trivial
   | cons p ps ih =>
    intro k l h
    obtain ⟨a, e, ms, rfl⟩ := h p (by simp)
    exact ih (k + 1) l fun q hq => h q (by simp [hq])
  exact this ps 0 _ hps
theorem okl_atoi {f : FuncId} (ent : ∃ fn, P.funcs[f]? = some fn ∧ fn.body.isNone = false ∧ (fn.name == "runtime.NumGoroutine") = false)
  (h : ∀ (s : ByteArray) (w : World), Ctx.ok w → s.size ≤ 281474976710656 → Calls P f #[.string s] w fun e w' => (∃ x, x_39 x (match Lib.atoiAll s.data.toList with | .ok n => (n, false) | .range => (Lib.atoiSat s.data.toList, true) | _ => ((0 : Int), true)).2 ∧
   e = .returned (.tuple #[.int .i64 (match Lib.atoiAll s.data.toList with | .ok n => (n, false) | .range => (Lib.atoiSat s.data.toList, true) | _ => ((0 : Int), true)).1, x])) ∧ Below w.heap.size w w') : FOk P f F_lAtoi := by
 refine .plain ent rfl fun w g vs ls v r hU ha hv hr => ?_
 have hls := x_r7 hv
 obtain ⟨l1, l2, x, vs', h1, rfl, h3, h4, rfl, rfl⟩ := ha
 have e1 : l1 = [⟨.s, v.1⟩] := by rw [List.append_nil] at h1; rw [← h1]; exact hls.symm
 subst e1
 have hx := x_zi (x_ng h3 h4)
 subst hx
 simp only [F_lAtoi, lAtoi] at hr
 cases hd : decide (v.1.size ≤ 281474976710656) with
 | false => rw [hd] at hr; simp at hr
 | true =>
  rw [hd] at hr
  have hr := Option.some.inj (show some _ = some r from hr)
  simp only [decide_eq_true_eq] at hd
  subst hr
  refine (h v.1 w hU.2.2 hd).mono fun e w' ⟨⟨x, hx, he⟩, hb⟩ => ?_
  subst he
  have hps : ∀ p ∈ [Par.val false .s [.f]], ∃ a e ms, p = .val a e ms := fun p hp => ⟨_, _, _, by simpa using hp⟩
  revert hx
  cases Lib.atoiAll v.1.data.toList <;> exact fun hx => x_5l hps hx hU hb
end Go.Kn
namespace Go.Kn
open Go.RowKit (Below)
theorem x_yw {P : Program} {w w' : World} {n : String} (h : ∀ b, P.globalNamed n = some b → w'.heap[b]? = w.heap[b]?) : w'.var? P n = w.var? P n := by
 unfold World.var?
 cases hg : P.globalNamed n with
 | none => rfl
 | some g => simp only [Option.bind_some, h g hg]
theorem var_lt {P : Program} {w : World} {n : String} {cs : Array Value} {b : Nat} (h : w.var? P n = some cs) (hb : P.globalNamed n = some b) : b < w.heap.size := by
 unfold World.var? at h
 rw [hb] at h
 simp only [Option.bind_some] at h
 split at h
 ·rename_i hh; exact (Array.getElem?_eq_some_iff.1 hh).1
 ·cases h
def pow10 : String := "internal/strconv.uint64pow10"
@[reducible] def x_acz (P : Program) : Ctx where
 at_ b := P.globalNamed pow10 = some b
 ok w := Lib.TabIs P w pow10 .u64 Lib.pow10Tab
 stable w w' h hw := by
  unfold Lib.TabIs at hw ⊢
  rw [x_yw h]; exact hw
theorem x_aip {P : Program} {w : World} (h : (x_acz P).ok w) : ∀ b, (x_acz P).at_ b → b < w.heap.size := fun b hb => var_lt h hb
@[reducible] def fullCtx (P : Program) (g : Nat) : Ctx where
 at_ b := P.globalNamed pow10 = some b ∨ b = g ∨ P.globalNamed "strconv.ErrSyntax" = some b ∨ P.globalNamed "strconv.ErrRange" = some b
 ok w := Lib.TabIs P w pow10 .u64 Lib.pow10Tab ∧ (∃ m, w.cell? ⟨g, 0, none⟩ = some (.int .i64 m)) ∧ (∃ tp p, w.var? P "strconv.ErrSyntax" = some #[.iface tp p]) ∧ ∃ tp p, w.var? P "strconv.ErrRange" = some #[.iface tp p]
 stable w w' h hw := by
  obtain ⟨h1, ⟨m, h2⟩, ⟨tp, p, h3⟩, tp', p', h4⟩ := hw
  refine ⟨?_, ⟨m, ?_⟩, ⟨tp, p, ?_⟩, tp', p', ?_⟩
  ·unfold Lib.TabIs at h1 ⊢
   rw [x_yw fun b hb => h b (.inl hb)]; exact h1
  ·unfold World.cell? at h2 ⊢
   simp only [h g (.inr (.inl rfl))]; exact h2
  ·rw [x_yw fun b hb => h b (.inr (.inr (.inl hb)))]; exact h3
  ·rw [x_yw fun b hb => h b (.inr (.inr (.inr hb)))]; exact h4
theorem fullCtx_lt {P : Program} {g : Nat} {w : World} (h : (fullCtx P g).ok w) : ∀ b, (fullCtx P g).at_ b → b < w.heap.size := fun b hb => by
 obtain ⟨h1, ⟨m, h2⟩, ⟨tp, p, h3⟩, tp', p', h4⟩ := h
 rcases hb with hb | rfl | hb | hb
 ·exact var_lt h1 hb
 ·unfold World.cell? at h2
  split at h2
  ·rename_i hh; exact (Array.getElem?_eq_some_iff.1 hh).1
  ·cases h2
 ·exact var_lt h3 hb
 ·exact var_lt h4 hb
theorem x_ac3 {w : World} {k : Nat} {os : Array Obj} : Below w.heap.size w (Sort.grow (w.drewN k) os) :=
 ⟨rfl, rfl, rfl, by show w.heap.size ≤ (w.heap ++ os).size; simp, fun i hi => by show (w.heap ++ os)[i]? = _; rw [Array.getElem?_append_left hi]⟩
end Go.Kn
