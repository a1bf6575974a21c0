/- Plain facts of the functions that copy, compare and count arguments. -/
import Derived.Test.YtilemnhdgfhkiaaGreatDoorWtSh
import Derived.Test.YtilemnhdgfhkiaaGreatDoorKp
set_option linter.all false
set_option maxRecDepth 100000
namespace Go.Proofs.YtilemnhdgfhkiaaGreatDoor.Wt
open Go Go.Kn

theorem sz_Cmd (a : TCmd) (hw : wfE eCmd a) (q : Int) (h0 : 0 ≤ q) (h1 : q ≤ 1048576) : ∃ r, l_szCmd a q = some (r, ()) ∧ r ≤ q ∧ (0 ≤ r → (wt eCmd a : Int) + r ≤ q) := by
  have hwt : wt eCmd a = 0 + (0 + (0 + (0 + (0 + (0 + (a.2.2.2.2.2.2.1.size + (a.2.2.2.2.2.2.2.size))))))) := rfl
  unfold l_szCmd
  have s6 : a.2.2.2.2.2.2.1.size ≤ 9223372036854775807 := hw.2.2.2.2.2.2.1
  rw [w64 (n := q - ((a.2.2.2.2.2.2.1.size : Nat) : Int)) (by omega) (by omega)]
  by_cases n6 : q - ((a.2.2.2.2.2.2.1.size : Nat) : Int) < 0
  · exact ⟨-1, bif_t n6, by omega, fun h => by omega⟩
  rw [bif_f n6]
  have s7 : a.2.2.2.2.2.2.2.size ≤ 9223372036854775807 := hw.2.2.2.2.2.2.2
  rw [w64 (n := (q - ((a.2.2.2.2.2.2.1.size : Nat) : Int)) - ((a.2.2.2.2.2.2.2.size : Nat) : Int)) (by omega) (by omega)]
  by_cases n7 : (q - ((a.2.2.2.2.2.2.1.size : Nat) : Int)) - ((a.2.2.2.2.2.2.2.size : Nat) : Int) < 0
  · exact ⟨-1, bif_t n7, by omega, fun h => by omega⟩
  rw [bif_f n7]
  exact ⟨((q - ((a.2.2.2.2.2.2.1.size : Nat) : Int)) - ((a.2.2.2.2.2.2.2.size : Nat) : Int)), rfl, by omega, fun _ => by rw [hwt]; push_cast; omega⟩
theorem sz_Entry (a : TEntry) (hw : wfE eEntry a) (q : Int) (h0 : 0 ≤ q) (h1 : q ≤ 1048576) : ∃ r, l_szEntry a q = some (r, ()) ∧ r ≤ q ∧ (0 ≤ r → (wt eEntry a : Int) + r ≤ q) := by
  have hwt : wt eEntry a = 0 + (wt eCmd a.2) := rfl
  unfold l_szEntry
  obtain ⟨r1, e1, b1, c1⟩ := sz_Cmd a.2 hw.2 q (by omega) (by omega)
  rw [bind_ok e1]
  by_cases n1 : r1 < 0
  · exact ⟨-1, bif_t n1, by omega, fun h => by omega⟩
  have c1 := c1 (by omega)
  rw [bif_f n1]
  exact ⟨r1, rfl, by omega, fun _ => by rw [hwt]; push_cast; omega⟩
theorem sz_EntryS {K : Nat} (hK : 2097152 ≤ K) (a : List TEntry) (hw : wfE (.sl eEntry) a) (q : Int) (h0 : 0 ≤ q) (h1 : q ≤ 1048576) : ∃ r, l_szEntryS K a q = some (r, ()) ∧ r ≤ q ∧ (0 ≤ r → (wt (.sl eEntry) a : Int) + r ≤ q) := by
  unfold l_szEntryS l_szEntryS.b
  refine sz_start (x := eEntry) (L := fun q0 i => l_szEntryS.l0 K a q K q0 i) hw.1 h0 h1 fun hn q0 h2 h3 => ?_
  exact sz_loop (x := eEntry) (a := a) (z := zEntry) (f := l_szEntry) (fun v hv q h0 h1 => sz_Entry v (hw.2 v hv) q h0 h1) hn (L := l_szEntryS.l0 K a q) (fun _ _ _ => rfl) a.length 0 q0 K (by omega) (by omega) h2 h3
theorem sz_Log {K : Nat} (hK : 2097152 ≤ K) (a : TLog) (hw : wfE eLog a) (q : Int) (h0 : 0 ≤ q) (h1 : q ≤ 1048576) : ∃ r, l_szLog K a q = some (r, ()) ∧ r ≤ q ∧ (0 ≤ r → (wt eLog a : Int) + r ≤ q) := by
  have hwt : wt eLog a = 0 + (0 + (wt (.sl eEntry) a.2.2)) := rfl
  unfold l_szLog
  obtain ⟨r2, e2, b2, c2⟩ := sz_EntryS hK a.2.2 hw.2.2 q (by omega) (by omega)
  rw [bind_ok e2]
  by_cases n2 : r2 < 0
  · exact ⟨-1, bif_t n2, by omega, fun h => by omega⟩
  have c2 := c2 (by omega)
  rw [bif_f n2]
  exact ⟨r2, rfl, by omega, fun _ => by rw [hwt]; push_cast; omega⟩
theorem sz_Item (a : TItem) (hw : wfE eItem a) (q : Int) (h0 : 0 ≤ q) (h1 : q ≤ 1048576) : ∃ r, l_szItem a q = some (r, ()) ∧ r ≤ q ∧ (0 ≤ r → (wt eItem a : Int) + r ≤ q) := by
  have hwt : wt eItem a = 0 + (a.2.1.size + (a.2.2.1.size + (0 + (0)))) := rfl
  unfold l_szItem
  have s1 : a.2.1.size ≤ 9223372036854775807 := hw.2.1
  rw [w64 (n := q - ((a.2.1.size : Nat) : Int)) (by omega) (by omega)]
  by_cases n1 : q - ((a.2.1.size : Nat) : Int) < 0
  · exact ⟨-1, bif_t n1, by omega, fun h => by omega⟩
  rw [bif_f n1]
  have s2 : a.2.2.1.size ≤ 9223372036854775807 := hw.2.2.1
  rw [w64 (n := (q - ((a.2.1.size : Nat) : Int)) - ((a.2.2.1.size : Nat) : Int)) (by omega) (by omega)]
  by_cases n2 : (q - ((a.2.1.size : Nat) : Int)) - ((a.2.2.1.size : Nat) : Int) < 0
  · exact ⟨-1, bif_t n2, by omega, fun h => by omega⟩
  rw [bif_f n2]
  exact ⟨((q - ((a.2.1.size : Nat) : Int)) - ((a.2.2.1.size : Nat) : Int)), rfl, by omega, fun _ => by rw [hwt]; push_cast; omega⟩
theorem sz_ItemS {K : Nat} (hK : 2097152 ≤ K) (a : List TItem) (hw : wfE (.sl eItem) a) (q : Int) (h0 : 0 ≤ q) (h1 : q ≤ 1048576) : ∃ r, l_szItemS K a q = some (r, ()) ∧ r ≤ q ∧ (0 ≤ r → (wt (.sl eItem) a : Int) + r ≤ q) := by
  unfold l_szItemS l_szItemS.b
  refine sz_start (x := eItem) (L := fun q0 i => l_szItemS.l0 K a q K q0 i) hw.1 h0 h1 fun hn q0 h2 h3 => ?_
  exact sz_loop (x := eItem) (a := a) (z := zItem) (f := l_szItem) (fun v hv q h0 h1 => sz_Item v (hw.2 v hv) q h0 h1) hn (L := l_szItemS.l0 K a q) (fun _ _ _ => rfl) a.length 0 q0 K (by omega) (by omega) h2 h3
theorem sz_Row {K : Nat} (hK : 2097152 ≤ K) (a : TRow) (hw : wfE eRow a) (q : Int) (h0 : 0 ≤ q) (h1 : q ≤ 1048576) : ∃ r, l_szRow K a q = some (r, ()) ∧ r ≤ q ∧ (0 ≤ r → (wt eRow a : Int) + r ≤ q) := by
  have hwt : wt eRow a = 0 + (0 + (wt (.sl eItem) a.2.2)) := rfl
  unfold l_szRow
  obtain ⟨r2, e2, b2, c2⟩ := sz_ItemS hK a.2.2 hw.2.2 q (by omega) (by omega)
  rw [bind_ok e2]
  by_cases n2 : r2 < 0
  · exact ⟨-1, bif_t n2, by omega, fun h => by omega⟩
  have c2 := c2 (by omega)
  rw [bif_f n2]
  exact ⟨r2, rfl, by omega, fun _ => by rw [hwt]; push_cast; omega⟩
theorem sz_RowS {K : Nat} (hK : 2097152 ≤ K) (a : List TRow) (hw : wfE (.sl eRow) a) (q : Int) (h0 : 0 ≤ q) (h1 : q ≤ 1048576) : ∃ r, l_szRowS K a q = some (r, ()) ∧ r ≤ q ∧ (0 ≤ r → (wt (.sl eRow) a : Int) + r ≤ q) := by
  unfold l_szRowS l_szRowS.b
  refine sz_start (x := eRow) (L := fun q0 i => l_szRowS.l0 K a q K q0 i) hw.1 h0 h1 fun hn q0 h2 h3 => ?_
  exact sz_loop (x := eRow) (a := a) (z := zRow) (f := l_szRow K) (fun v hv q h0 h1 => sz_Row hK v (hw.2 v hv) q h0 h1) hn (L := l_szRowS.l0 K a q) (fun _ _ _ => rfl) a.length 0 q0 K (by omega) (by omega) h2 h3
theorem sz_MarkS (a : List TMark) (hw : wfE (.sl eMark) a) (q : Int) (h0 : 0 ≤ q) (h1 : q ≤ 1048576) : ∃ r, l_szMarkS a q = some (r, ()) ∧ r ≤ q ∧ (0 ≤ r → (wt (.sl eMark) a : Int) + r ≤ q) := by
  unfold l_szMarkS
  exact sz_flat (x := eMark) (fun v => rfl) hw.1 h0 h1
theorem sz_Maker (a : TMaker) (hw : wfE eMaker a) (q : Int) (h0 : 0 ≤ q) (h1 : q ≤ 1048576) : ∃ r, l_szMaker a q = some (r, ()) ∧ r ≤ q ∧ (0 ≤ r → (wt eMaker a : Int) + r ≤ q) := by
  have hwt : wt eMaker a = 0 + (0 + (0 + (0 + (wt (.sl eMark) a.2.2.2.2)))) := rfl
  unfold l_szMaker
  obtain ⟨r4, e4, b4, c4⟩ := sz_MarkS a.2.2.2.2 hw.2.2.2.2 q (by omega) (by omega)
  rw [bind_ok e4]
  by_cases n4 : r4 < 0
  · exact ⟨-1, bif_t n4, by omega, fun h => by omega⟩
  have c4 := c4 (by omega)
  rw [bif_f n4]
  exact ⟨r4, rfl, by omega, fun _ => by rw [hwt]; push_cast; omega⟩
theorem sz_MakerS {K : Nat} (hK : 2097152 ≤ K) (a : List TMaker) (hw : wfE (.sl eMaker) a) (q : Int) (h0 : 0 ≤ q) (h1 : q ≤ 1048576) : ∃ r, l_szMakerS K a q = some (r, ()) ∧ r ≤ q ∧ (0 ≤ r → (wt (.sl eMaker) a : Int) + r ≤ q) := by
  unfold l_szMakerS l_szMakerS.b
  refine sz_start (x := eMaker) (L := fun q0 i => l_szMakerS.l0 K a q K q0 i) hw.1 h0 h1 fun hn q0 h2 h3 => ?_
  exact sz_loop (x := eMaker) (a := a) (z := zMaker) (f := l_szMaker) (fun v hv q h0 h1 => sz_Maker v (hw.2 v hv) q h0 h1) hn (L := l_szMakerS.l0 K a q) (fun _ _ _ => rfl) a.length 0 q0 K (by omega) (by omega) h2 h3
theorem sz_IntS (a : List Int) (hw : wfE (.sl (.i .i64)) a) (q : Int) (h0 : 0 ≤ q) (h1 : q ≤ 1048576) : ∃ r, l_szIntS a q = some (r, ()) ∧ r ≤ q ∧ (0 ≤ r → (wt (.sl (.i .i64)) a : Int) + r ≤ q) := by
  unfold l_szIntS
  exact sz_flat (x := (.i .i64)) (fun v => rfl) hw.1 h0 h1
theorem sz_Group (a : TGroup) (hw : wfE eGroup a) (q : Int) (h0 : 0 ≤ q) (h1 : q ≤ 1048576) : ∃ r, l_szGroup a q = some (r, ()) ∧ r ≤ q ∧ (0 ≤ r → (wt eGroup a : Int) + r ≤ q) := by
  have hwt : wt eGroup a = 0 + (wt (.sl (.i .i64)) a.2.1 + (wt (.sl (.i .i64)) a.2.2.1 + (wt (.sl (.i .i64)) a.2.2.2))) := rfl
  unfold l_szGroup
  obtain ⟨r1, e1, b1, c1⟩ := sz_IntS a.2.1 hw.2.1 q (by omega) (by omega)
  rw [bind_ok e1]
  by_cases n1 : r1 < 0
  · exact ⟨-1, bif_t n1, by omega, fun h => by omega⟩
  have c1 := c1 (by omega)
  rw [bif_f n1]
  obtain ⟨r2, e2, b2, c2⟩ := sz_IntS a.2.2.1 hw.2.2.1 r1 (by omega) (by omega)
  rw [bind_ok e2]
  by_cases n2 : r2 < 0
  · exact ⟨-1, bif_t n2, by omega, fun h => by omega⟩
  have c2 := c2 (by omega)
  rw [bif_f n2]
  obtain ⟨r3, e3, b3, c3⟩ := sz_IntS a.2.2.2 hw.2.2.2 r2 (by omega) (by omega)
  rw [bind_ok e3]
  by_cases n3 : r3 < 0
  · exact ⟨-1, bif_t n3, by omega, fun h => by omega⟩
  have c3 := c3 (by omega)
  rw [bif_f n3]
  exact ⟨r3, rfl, by omega, fun _ => by rw [hwt]; push_cast; omega⟩
theorem sz_GroupS {K : Nat} (hK : 2097152 ≤ K) (a : List TGroup) (hw : wfE (.sl eGroup) a) (q : Int) (h0 : 0 ≤ q) (h1 : q ≤ 1048576) : ∃ r, l_szGroupS K a q = some (r, ()) ∧ r ≤ q ∧ (0 ≤ r → (wt (.sl eGroup) a : Int) + r ≤ q) := by
  unfold l_szGroupS l_szGroupS.b
  refine sz_start (x := eGroup) (L := fun q0 i => l_szGroupS.l0 K a q K q0 i) hw.1 h0 h1 fun hn q0 h2 h3 => ?_
  exact sz_loop (x := eGroup) (a := a) (z := zGroup) (f := l_szGroup) (fun v hv q h0 h1 => sz_Group v (hw.2 v hv) q h0 h1) hn (L := l_szGroupS.l0 K a q) (fun _ _ _ => rfl) a.length 0 q0 K (by omega) (by omega) h2 h3
theorem sz_Answer (a : TAnswer) (hw : wfE eAnswer a) (q : Int) (h0 : 0 ≤ q) (h1 : q ≤ 1048576) : ∃ r, l_szAnswer a q = some (r, ()) ∧ r ≤ q ∧ (0 ≤ r → (wt eAnswer a : Int) + r ≤ q) := by
  have hwt : wt eAnswer a = 0 + (0 + (a.2.2.1.size + (a.2.2.2.size))) := rfl
  unfold l_szAnswer
  have s2 : a.2.2.1.size ≤ 9223372036854775807 := hw.2.2.1
  rw [w64 (n := q - ((a.2.2.1.size : Nat) : Int)) (by omega) (by omega)]
  by_cases n2 : q - ((a.2.2.1.size : Nat) : Int) < 0
  · exact ⟨-1, bif_t n2, by omega, fun h => by omega⟩
  rw [bif_f n2]
  have s3 : a.2.2.2.size ≤ 9223372036854775807 := hw.2.2.2
  rw [w64 (n := (q - ((a.2.2.1.size : Nat) : Int)) - ((a.2.2.2.size : Nat) : Int)) (by omega) (by omega)]
  by_cases n3 : (q - ((a.2.2.1.size : Nat) : Int)) - ((a.2.2.2.size : Nat) : Int) < 0
  · exact ⟨-1, bif_t n3, by omega, fun h => by omega⟩
  rw [bif_f n3]
  exact ⟨((q - ((a.2.2.1.size : Nat) : Int)) - ((a.2.2.2.size : Nat) : Int)), rfl, by omega, fun _ => by rw [hwt]; push_cast; omega⟩
theorem sz_AnswerS {K : Nat} (hK : 2097152 ≤ K) (a : List TAnswer) (hw : wfE (.sl eAnswer) a) (q : Int) (h0 : 0 ≤ q) (h1 : q ≤ 1048576) : ∃ r, l_szAnswerS K a q = some (r, ()) ∧ r ≤ q ∧ (0 ≤ r → (wt (.sl eAnswer) a : Int) + r ≤ q) := by
  unfold l_szAnswerS l_szAnswerS.b
  refine sz_start (x := eAnswer) (L := fun q0 i => l_szAnswerS.l0 K a q K q0 i) hw.1 h0 h1 fun hn q0 h2 h3 => ?_
  exact sz_loop (x := eAnswer) (a := a) (z := zAnswer) (f := l_szAnswer) (fun v hv q h0 h1 => sz_Answer v (hw.2 v hv) q h0 h1) hn (L := l_szAnswerS.l0 K a q) (fun _ _ _ => rfl) a.length 0 q0 K (by omega) (by omega) h2 h3
theorem sz_Keep {K : Nat} (hK : 2097152 ≤ K) (a : TKeep) (hw : wfE eKeep a) (q : Int) (h0 : 0 ≤ q) (h1 : q ≤ 1048576) : ∃ r, l_szKeep K a q = some (r, ()) ∧ r ≤ q ∧ (0 ≤ r → (wt eKeep a : Int) + r ≤ q) := by
  have hwt : wt eKeep a = wt (.sl eRow) a.1 + (wt (.sl eMaker) a.2.1 + (wt (.sl eGroup) a.2.2.1 + (0 + (wt (.sl (.i .i64)) a.2.2.2.2.1 + (wt (.sl eAnswer) a.2.2.2.2.2))))) := rfl
  unfold l_szKeep
  obtain ⟨r0, e0, b0, c0⟩ := sz_RowS hK a.1 hw.1 q (by omega) (by omega)
  rw [bind_ok e0]
  by_cases n0 : r0 < 0
  · exact ⟨-1, bif_t n0, by omega, fun h => by omega⟩
  have c0 := c0 (by omega)
  rw [bif_f n0]
  obtain ⟨r1, e1, b1, c1⟩ := sz_MakerS hK a.2.1 hw.2.1 r0 (by omega) (by omega)
  rw [bind_ok e1]
  by_cases n1 : r1 < 0
  · exact ⟨-1, bif_t n1, by omega, fun h => by omega⟩
  have c1 := c1 (by omega)
  rw [bif_f n1]
  obtain ⟨r2, e2, b2, c2⟩ := sz_GroupS hK a.2.2.1 hw.2.2.1 r1 (by omega) (by omega)
  rw [bind_ok e2]
  by_cases n2 : r2 < 0
  · exact ⟨-1, bif_t n2, by omega, fun h => by omega⟩
  have c2 := c2 (by omega)
  rw [bif_f n2]
  obtain ⟨r4, e4, b4, c4⟩ := sz_IntS a.2.2.2.2.1 hw.2.2.2.2.1 r2 (by omega) (by omega)
  rw [bind_ok e4]
  by_cases n4 : r4 < 0
  · exact ⟨-1, bif_t n4, by omega, fun h => by omega⟩
  have c4 := c4 (by omega)
  rw [bif_f n4]
  obtain ⟨r5, e5, b5, c5⟩ := sz_AnswerS hK a.2.2.2.2.2 hw.2.2.2.2.2 r4 (by omega) (by omega)
  rw [bind_ok e5]
  by_cases n5 : r5 < 0
  · exact ⟨-1, bif_t n5, by omega, fun h => by omega⟩
  have c5 := c5 (by omega)
  rw [bif_f n5]
  exact ⟨r5, rfl, by omega, fun _ => by rw [hwt]; push_cast; omega⟩
theorem sz_Hard {K : Nat} (hK : 2097152 ≤ K) (a : THard) (hw : wfE eHard a) (q : Int) (h0 : 0 ≤ q) (h1 : q ≤ 1048576) : ∃ r, l_szHard K a q = some (r, ()) ∧ r ≤ q ∧ (0 ≤ r → (wt eHard a : Int) + r ≤ q) := by
  have hwt : wt eHard a = 0 + (0 + (wt eLog a.2.2.1 + (wt eKeep a.2.2.2))) := rfl
  unfold l_szHard
  obtain ⟨r2, e2, b2, c2⟩ := sz_Log hK a.2.2.1 hw.2.2.1 q (by omega) (by omega)
  rw [bind_ok e2]
  by_cases n2 : r2 < 0
  · exact ⟨-1, bif_t n2, by omega, fun h => by omega⟩
  have c2 := c2 (by omega)
  rw [bif_f n2]
  obtain ⟨r3, e3, b3, c3⟩ := sz_Keep hK a.2.2.2 hw.2.2.2 r2 (by omega) (by omega)
  rw [bind_ok e3]
  by_cases n3 : r3 < 0
  · exact ⟨-1, bif_t n3, by omega, fun h => by omega⟩
  have c3 := c3 (by omega)
  rw [bif_f n3]
  exact ⟨r3, rfl, by omega, fun _ => by rw [hwt]; push_cast; omega⟩
theorem sz_BoolS (a : List Bool) (hw : wfE (.sl .b) a) (q : Int) (h0 : 0 ≤ q) (h1 : q ≤ 1048576) : ∃ r, l_szBoolS a q = some (r, ()) ∧ r ≤ q ∧ (0 ≤ r → (wt (.sl .b) a : Int) + r ≤ q) := by
  unfold l_szBoolS
  exact sz_flat (x := .b) (fun v => rfl) hw.1 h0 h1
theorem sz_ByteS (a : List Int) (hw : wfE (.sl (.i .u8)) a) (q : Int) (h0 : 0 ≤ q) (h1 : q ≤ 1048576) : ∃ r, l_szByteS a q = some (r, ()) ∧ r ≤ q ∧ (0 ≤ r → (wt (.sl (.i .u8)) a : Int) + r ≤ q) := by
  unfold l_szByteS
  exact sz_flat (x := (.i .u8)) (fun v => rfl) hw.1 h0 h1
theorem sz_Disk (a : TDisk) (hw : wfE eDisk a) (q : Int) (h0 : 0 ≤ q) (h1 : q ≤ 1048576) : ∃ r, l_szDisk a q = some (r, ()) ∧ r ≤ q ∧ (0 ≤ r → (wt eDisk a : Int) + r ≤ q) := by
  have hwt : wt eDisk a = wt (.sl (.i .u8)) a.1 + (0) := rfl
  unfold l_szDisk
  obtain ⟨r0, e0, b0, c0⟩ := sz_ByteS a.1 hw.1 q (by omega) (by omega)
  rw [bind_ok e0]
  by_cases n0 : r0 < 0
  · exact ⟨-1, bif_t n0, by omega, fun h => by omega⟩
  have c0 := c0 (by omega)
  rw [bif_f n0]
  exact ⟨r0, rfl, by omega, fun _ => by rw [hwt]; push_cast; omega⟩
theorem sz_Rpc {K : Nat} (hK : 2097152 ≤ K) (a : TRpc) (hw : wfE eRpc a) (q : Int) (h0 : 0 ≤ q) (h1 : q ≤ 1048576) : ∃ r, l_szRpc K a q = some (r, ()) ∧ r ≤ q ∧ (0 ≤ r → (wt eRpc a : Int) + r ≤ q) := by
  have hwt : wt eRpc a = 0 + (0 + (0 + (0 + (0 + (0 + (0 + (wt (.sl eEntry) a.2.2.2.2.2.2.2.1 + (0 + (a.2.2.2.2.2.2.2.2.2.size))))))))) := rfl
  unfold l_szRpc
  obtain ⟨r7, e7, b7, c7⟩ := sz_EntryS hK a.2.2.2.2.2.2.2.1 hw.2.2.2.2.2.2.2.1 q (by omega) (by omega)
  rw [bind_ok e7]
  by_cases n7 : r7 < 0
  · exact ⟨-1, bif_t n7, by omega, fun h => by omega⟩
  have c7 := c7 (by omega)
  rw [bif_f n7]
  have s9 : a.2.2.2.2.2.2.2.2.2.size ≤ 9223372036854775807 := hw.2.2.2.2.2.2.2.2.2
  rw [w64 (n := r7 - ((a.2.2.2.2.2.2.2.2.2.size : Nat) : Int)) (by omega) (by omega)]
  by_cases n9 : r7 - ((a.2.2.2.2.2.2.2.2.2.size : Nat) : Int) < 0
  · exact ⟨-1, bif_t n9, by omega, fun h => by omega⟩
  rw [bif_f n9]
  exact ⟨(r7 - ((a.2.2.2.2.2.2.2.2.2.size : Nat) : Int)), rfl, by omega, fun _ => by rw [hwt]; push_cast; omega⟩
theorem sz_RpcS {K : Nat} (hK : 2097152 ≤ K) (a : List TRpc) (hw : wfE (.sl eRpc) a) (q : Int) (h0 : 0 ≤ q) (h1 : q ≤ 1048576) : ∃ r, l_szRpcS K a q = some (r, ()) ∧ r ≤ q ∧ (0 ≤ r → (wt (.sl eRpc) a : Int) + r ≤ q) := by
  unfold l_szRpcS l_szRpcS.b
  refine sz_start (x := eRpc) (L := fun q0 i => l_szRpcS.l0 K a q K q0 i) hw.1 h0 h1 fun hn q0 h2 h3 => ?_
  exact sz_loop (x := eRpc) (a := a) (z := zRpc) (f := l_szRpc K) (fun v hv q h0 h1 => sz_Rpc hK v (hw.2 v hv) q h0 h1) hn (L := l_szRpcS.l0 K a q) (fun _ _ _ => rfl) a.length 0 q0 K (by omega) (by omega) h2 h3
theorem sz_Peer {K : Nat} (hK : 2097152 ≤ K) (a : TPeer) (hw : wfE ePeer a) (q : Int) (h0 : 0 ≤ q) (h1 : q ≤ 1048576) : ∃ r, l_szPeer K a q = some (r, ()) ∧ r ≤ q ∧ (0 ≤ r → (wt ePeer a : Int) + r ≤ q) := by
  have hwt : wt ePeer a = 0 + (wt eHard a.2.1 + (0 + (wt (.sl .b) a.2.2.2.1 + (wt (.sl (.i .i64)) a.2.2.2.2.1 + (wt (.sl (.i .i64)) a.2.2.2.2.2.1 + (0 + (wt eKeep a.2.2.2.2.2.2.2.1 + (wt eDisk a.2.2.2.2.2.2.2.2.1 + (wt (.sl eRpc) a.2.2.2.2.2.2.2.2.2))))))))) := rfl
  unfold l_szPeer
  obtain ⟨r1, e1, b1, c1⟩ := sz_Hard hK a.2.1 hw.2.1 q (by omega) (by omega)
  rw [bind_ok e1]
  by_cases n1 : r1 < 0
  · exact ⟨-1, bif_t n1, by omega, fun h => by omega⟩
  have c1 := c1 (by omega)
  rw [bif_f n1]
  obtain ⟨r3, e3, b3, c3⟩ := sz_BoolS a.2.2.2.1 hw.2.2.2.1 r1 (by omega) (by omega)
  rw [bind_ok e3]
  by_cases n3 : r3 < 0
  · exact ⟨-1, bif_t n3, by omega, fun h => by omega⟩
  have c3 := c3 (by omega)
  rw [bif_f n3]
  obtain ⟨r4, e4, b4, c4⟩ := sz_IntS a.2.2.2.2.1 hw.2.2.2.2.1 r3 (by omega) (by omega)
  rw [bind_ok e4]
  by_cases n4 : r4 < 0
  · exact ⟨-1, bif_t n4, by omega, fun h => by omega⟩
  have c4 := c4 (by omega)
  rw [bif_f n4]
  obtain ⟨r5, e5, b5, c5⟩ := sz_IntS a.2.2.2.2.2.1 hw.2.2.2.2.2.1 r4 (by omega) (by omega)
  rw [bind_ok e5]
  by_cases n5 : r5 < 0
  · exact ⟨-1, bif_t n5, by omega, fun h => by omega⟩
  have c5 := c5 (by omega)
  rw [bif_f n5]
  obtain ⟨r7, e7, b7, c7⟩ := sz_Keep hK a.2.2.2.2.2.2.2.1 hw.2.2.2.2.2.2.2.1 r5 (by omega) (by omega)
  rw [bind_ok e7]
  by_cases n7 : r7 < 0
  · exact ⟨-1, bif_t n7, by omega, fun h => by omega⟩
  have c7 := c7 (by omega)
  rw [bif_f n7]
  obtain ⟨r8, e8, b8, c8⟩ := sz_Disk a.2.2.2.2.2.2.2.2.1 hw.2.2.2.2.2.2.2.2.1 r7 (by omega) (by omega)
  rw [bind_ok e8]
  by_cases n8 : r8 < 0
  · exact ⟨-1, bif_t n8, by omega, fun h => by omega⟩
  have c8 := c8 (by omega)
  rw [bif_f n8]
  obtain ⟨r9, e9, b9, c9⟩ := sz_RpcS hK a.2.2.2.2.2.2.2.2.2 hw.2.2.2.2.2.2.2.2.2 r8 (by omega) (by omega)
  rw [bind_ok e9]
  by_cases n9 : r9 < 0
  · exact ⟨-1, bif_t n9, by omega, fun h => by omega⟩
  have c9 := c9 (by omega)
  rw [bif_f n9]
  exact ⟨r9, rfl, by omega, fun _ => by rw [hwt]; push_cast; omega⟩
theorem sz_PeerS {K : Nat} (hK : 2097152 ≤ K) (a : List TPeer) (hw : wfE (.sl ePeer) a) (q : Int) (h0 : 0 ≤ q) (h1 : q ≤ 1048576) : ∃ r, l_szPeerS K a q = some (r, ()) ∧ r ≤ q ∧ (0 ≤ r → (wt (.sl ePeer) a : Int) + r ≤ q) := by
  unfold l_szPeerS l_szPeerS.b
  refine sz_start (x := ePeer) (L := fun q0 i => l_szPeerS.l0 K a q K q0 i) hw.1 h0 h1 fun hn q0 h2 h3 => ?_
  exact sz_loop (x := ePeer) (a := a) (z := zPeer) (f := l_szPeer K) (fun v hv q h0 h1 => sz_Peer hK v (hw.2 v hv) q h0 h1) hn (L := l_szPeerS.l0 K a q) (fun _ _ _ => rfl) a.length 0 q0 K (by omega) (by omega) h2 h3
theorem sz_CmdS {K : Nat} (hK : 2097152 ≤ K) (a : List TCmd) (hw : wfE (.sl eCmd) a) (q : Int) (h0 : 0 ≤ q) (h1 : q ≤ 1048576) : ∃ r, l_szCmdS K a q = some (r, ()) ∧ r ≤ q ∧ (0 ≤ r → (wt (.sl eCmd) a : Int) + r ≤ q) := by
  unfold l_szCmdS l_szCmdS.b
  refine sz_start (x := eCmd) (L := fun q0 i => l_szCmdS.l0 K a q K q0 i) hw.1 h0 h1 fun hn q0 h2 h3 => ?_
  exact sz_loop (x := eCmd) (a := a) (z := zCmd) (f := l_szCmd) (fun v hv q h0 h1 => sz_Cmd v (hw.2 v hv) q h0 h1) hn (L := l_szCmdS.l0 K a q) (fun _ _ _ => rfl) a.length 0 q0 K (by omega) (by omega) h2 h3
theorem sz_Heard (a : THeard) (hw : wfE eHeard a) (q : Int) (h0 : 0 ≤ q) (h1 : q ≤ 1048576) : ∃ r, l_szHeard a q = some (r, ()) ∧ r ≤ q ∧ (0 ≤ r → (wt eHeard a : Int) + r ≤ q) := by
  have hwt : wt eHeard a = 0 + (0 + (wt eAnswer a.2.2.1 + (0 + (0)))) := rfl
  unfold l_szHeard
  obtain ⟨r2, e2, b2, c2⟩ := sz_Answer a.2.2.1 hw.2.2.1 q (by omega) (by omega)
  rw [bind_ok e2]
  by_cases n2 : r2 < 0
  · exact ⟨-1, bif_t n2, by omega, fun h => by omega⟩
  have c2 := c2 (by omega)
  rw [bif_f n2]
  exact ⟨r2, rfl, by omega, fun _ => by rw [hwt]; push_cast; omega⟩
theorem sz_HeardS {K : Nat} (hK : 2097152 ≤ K) (a : List THeard) (hw : wfE (.sl eHeard) a) (q : Int) (h0 : 0 ≤ q) (h1 : q ≤ 1048576) : ∃ r, l_szHeardS K a q = some (r, ()) ∧ r ≤ q ∧ (0 ≤ r → (wt (.sl eHeard) a : Int) + r ≤ q) := by
  unfold l_szHeardS l_szHeardS.b
  refine sz_start (x := eHeard) (L := fun q0 i => l_szHeardS.l0 K a q K q0 i) hw.1 h0 h1 fun hn q0 h2 h3 => ?_
  exact sz_loop (x := eHeard) (a := a) (z := zHeard) (f := l_szHeard) (fun v hv q h0 h1 => sz_Heard v (hw.2 v hv) q h0 h1) hn (L := l_szHeardS.l0 K a q) (fun _ _ _ => rfl) a.length 0 q0 K (by omega) (by omega) h2 h3
theorem sz_World {K : Nat} (hK : 2097152 ≤ K) (a : TWorld) (hw : wfE eWorld a) (q : Int) (h0 : 0 ≤ q) (h1 : q ≤ 1048576) : ∃ r, l_szWorld K a q = some (r, ()) ∧ r ≤ q ∧ (0 ≤ r → (wt eWorld a : Int) + r ≤ q) := by
  have hwt : wt eWorld a = 0 + (0 + (wt (.sl ePeer) a.2.2.1 + (wt (.sl eRpc) a.2.2.2.1 + (wt (.sl eCmd) a.2.2.2.2.1 + (wt (.sl (.i .i64)) a.2.2.2.2.2.1 + (wt (.sl eHeard) a.2.2.2.2.2.2.1 + (wt (.sl eCmd) a.2.2.2.2.2.2.2))))))) := rfl
  unfold l_szWorld
  obtain ⟨r2, e2, b2, c2⟩ := sz_PeerS hK a.2.2.1 hw.2.2.1 q (by omega) (by omega)
  rw [bind_ok e2]
  by_cases n2 : r2 < 0
  · exact ⟨-1, bif_t n2, by omega, fun h => by omega⟩
  have c2 := c2 (by omega)
  rw [bif_f n2]
  obtain ⟨r3, e3, b3, c3⟩ := sz_RpcS hK a.2.2.2.1 hw.2.2.2.1 r2 (by omega) (by omega)
  rw [bind_ok e3]
  by_cases n3 : r3 < 0
  · exact ⟨-1, bif_t n3, by omega, fun h => by omega⟩
  have c3 := c3 (by omega)
  rw [bif_f n3]
  obtain ⟨r4, e4, b4, c4⟩ := sz_CmdS hK a.2.2.2.2.1 hw.2.2.2.2.1 r3 (by omega) (by omega)
  rw [bind_ok e4]
  by_cases n4 : r4 < 0
  · exact ⟨-1, bif_t n4, by omega, fun h => by omega⟩
  have c4 := c4 (by omega)
  rw [bif_f n4]
  obtain ⟨r5, e5, b5, c5⟩ := sz_IntS a.2.2.2.2.2.1 hw.2.2.2.2.2.1 r4 (by omega) (by omega)
  rw [bind_ok e5]
  by_cases n5 : r5 < 0
  · exact ⟨-1, bif_t n5, by omega, fun h => by omega⟩
  have c5 := c5 (by omega)
  rw [bif_f n5]
  obtain ⟨r6, e6, b6, c6⟩ := sz_HeardS hK a.2.2.2.2.2.2.1 hw.2.2.2.2.2.2.1 r5 (by omega) (by omega)
  rw [bind_ok e6]
  by_cases n6 : r6 < 0
  · exact ⟨-1, bif_t n6, by omega, fun h => by omega⟩
  have c6 := c6 (by omega)
  rw [bif_f n6]
  obtain ⟨r7, e7, b7, c7⟩ := sz_CmdS hK a.2.2.2.2.2.2.2 hw.2.2.2.2.2.2.2 r6 (by omega) (by omega)
  rw [bind_ok e7]
  by_cases n7 : r7 < 0
  · exact ⟨-1, bif_t n7, by omega, fun h => by omega⟩
  have c7 := c7 (by omega)
  rw [bif_f n7]
  exact ⟨r7, rfl, by omega, fun _ => by rw [hwt]; push_cast; omega⟩
theorem to_Setup (a : TSetup) (h : small eSetup a) : l_toSetup a = some (a, ()) := by
  unfold l_toSetup
  rfl
theorem to_Cmd (a : TCmd) (h : small eCmd a) : l_toCmd a = some (a, ()) := by
  unfold l_toCmd
  rfl
theorem to_Entry (a : TEntry) (h : small eEntry a) : l_toEntry a = some (a, ()) := by
  unfold l_toEntry
  rw [bind_ok (to_Cmd a.2 h.2)]
theorem to_EntryS {K : Nat} (hK : 2097152 ≤ K) (a : List TEntry) (h : small (.sl eEntry) a) : l_toEntryS K a = some (a, ()) := by
  unfold l_toEntryS l_toEntryS.b
  exact to_start (L := l_toEntryS.l0 K a K) (by decide) h.1 (to_loop (f := l_toEntry) (z := zEntry) (fun x hx => to_Entry x (h.2 x hx)) h.1 (L := l_toEntryS.l0 K a) (fun _ _ _ => rfl) a.length 0 _ K (by omega) (by have := h.1; omega) (by simp) (by simp))
theorem to_Log {K : Nat} (hK : 2097152 ≤ K) (a : TLog) (h : small eLog a) : l_toLog K a = some (a, ()) := by
  unfold l_toLog
  rw [bind_ok (to_EntryS hK a.2.2 h.2.2)]
theorem to_Item (a : TItem) (h : small eItem a) : l_toItem a = some (a, ()) := by
  unfold l_toItem
  rfl
theorem to_ItemS {K : Nat} (hK : 2097152 ≤ K) (a : List TItem) (h : small (.sl eItem) a) : l_toItemS K a = some (a, ()) := by
  unfold l_toItemS l_toItemS.b
  exact to_start (L := l_toItemS.l0 K a K) (by decide) h.1 (to_loop (f := l_toItem) (z := zItem) (fun x hx => to_Item x (h.2 x hx)) h.1 (L := l_toItemS.l0 K a) (fun _ _ _ => rfl) a.length 0 _ K (by omega) (by have := h.1; omega) (by simp) (by simp))
theorem to_Row {K : Nat} (hK : 2097152 ≤ K) (a : TRow) (h : small eRow a) : l_toRow K a = some (a, ()) := by
  unfold l_toRow
  rw [bind_ok (to_ItemS hK a.2.2 h.2.2)]
theorem to_RowS {K : Nat} (hK : 2097152 ≤ K) (a : List TRow) (h : small (.sl eRow) a) : l_toRowS K a = some (a, ()) := by
  unfold l_toRowS l_toRowS.b
  exact to_start (L := l_toRowS.l0 K a K) (by decide) h.1 (to_loop (f := l_toRow K) (z := zRow) (fun x hx => to_Row hK x (h.2 x hx)) h.1 (L := l_toRowS.l0 K a) (fun _ _ _ => rfl) a.length 0 _ K (by omega) (by have := h.1; omega) (by simp) (by simp))
theorem to_Mark (a : TMark) (h : small eMark a) : l_toMark a = some (a, ()) := by
  unfold l_toMark
  rfl
theorem to_MarkS {K : Nat} (hK : 2097152 ≤ K) (a : List TMark) (h : small (.sl eMark) a) : l_toMarkS K a = some (a, ()) := by
  unfold l_toMarkS l_toMarkS.b
  exact to_start (L := l_toMarkS.l0 K a K) (by decide) h.1 (to_loop (f := l_toMark) (z := zMark) (fun x hx => to_Mark x (h.2 x hx)) h.1 (L := l_toMarkS.l0 K a) (fun _ _ _ => rfl) a.length 0 _ K (by omega) (by have := h.1; omega) (by simp) (by simp))
theorem to_Maker {K : Nat} (hK : 2097152 ≤ K) (a : TMaker) (h : small eMaker a) : l_toMaker K a = some (a, ()) := by
  unfold l_toMaker
  rw [bind_ok (to_MarkS hK a.2.2.2.2 h.2.2.2.2)]
theorem to_MakerS {K : Nat} (hK : 2097152 ≤ K) (a : List TMaker) (h : small (.sl eMaker) a) : l_toMakerS K a = some (a, ()) := by
  unfold l_toMakerS l_toMakerS.b
  exact to_start (L := l_toMakerS.l0 K a K) (by decide) h.1 (to_loop (f := l_toMaker K) (z := zMaker) (fun x hx => to_Maker hK x (h.2 x hx)) h.1 (L := l_toMakerS.l0 K a) (fun _ _ _ => rfl) a.length 0 _ K (by omega) (by have := h.1; omega) (by simp) (by simp))
theorem to_IntS {K : Nat} (hK : 2097152 ≤ K) (a : List Int) (h : small (.sl (.i .i64)) a) : l_toIntS K a = some (a, ()) := by
  unfold l_toIntS l_toIntS.b
  exact to_start (L := l_toIntS.l0 K a K) (by decide) h.1 (to_loop' (z := 0) h.1 (L := l_toIntS.l0 K a) (fun _ _ _ => rfl) a.length 0 _ K (by omega) (by have := h.1; omega) (by simp) (by simp))
theorem to_Group {K : Nat} (hK : 2097152 ≤ K) (a : TGroup) (h : small eGroup a) : l_toGroup K a = some (a, ()) := by
  unfold l_toGroup
  rw [bind_ok (to_IntS hK a.2.1 h.2.1)]
  rw [bind_ok (to_IntS hK a.2.2.1 h.2.2.1)]
  rw [bind_ok (to_IntS hK a.2.2.2 h.2.2.2)]
theorem to_GroupS {K : Nat} (hK : 2097152 ≤ K) (a : List TGroup) (h : small (.sl eGroup) a) : l_toGroupS K a = some (a, ()) := by
  unfold l_toGroupS l_toGroupS.b
  exact to_start (L := l_toGroupS.l0 K a K) (by decide) h.1 (to_loop (f := l_toGroup K) (z := zGroup) (fun x hx => to_Group hK x (h.2 x hx)) h.1 (L := l_toGroupS.l0 K a) (fun _ _ _ => rfl) a.length 0 _ K (by omega) (by have := h.1; omega) (by simp) (by simp))
theorem to_Answer (a : TAnswer) (h : small eAnswer a) : l_toAnswer a = some (a, ()) := by
  unfold l_toAnswer
  rfl
theorem to_AnswerS {K : Nat} (hK : 2097152 ≤ K) (a : List TAnswer) (h : small (.sl eAnswer) a) : l_toAnswerS K a = some (a, ()) := by
  unfold l_toAnswerS l_toAnswerS.b
  exact to_start (L := l_toAnswerS.l0 K a K) (by decide) h.1 (to_loop (f := l_toAnswer) (z := zAnswer) (fun x hx => to_Answer x (h.2 x hx)) h.1 (L := l_toAnswerS.l0 K a) (fun _ _ _ => rfl) a.length 0 _ K (by omega) (by have := h.1; omega) (by simp) (by simp))
theorem to_Keep {K : Nat} (hK : 2097152 ≤ K) (a : TKeep) (h : small eKeep a) : l_toKeep K a = some (a, ()) := by
  unfold l_toKeep
  rw [bind_ok (to_RowS hK a.1 h.1)]
  rw [bind_ok (to_MakerS hK a.2.1 h.2.1)]
  rw [bind_ok (to_GroupS hK a.2.2.1 h.2.2.1)]
  rw [bind_ok (to_IntS hK a.2.2.2.2.1 h.2.2.2.2.1)]
  rw [bind_ok (to_AnswerS hK a.2.2.2.2.2 h.2.2.2.2.2)]
theorem to_Hard {K : Nat} (hK : 2097152 ≤ K) (a : THard) (h : small eHard a) : l_toHard K a = some (a, ()) := by
  unfold l_toHard
  rw [bind_ok (to_Log hK a.2.2.1 h.2.2.1)]
  rw [bind_ok (to_Keep hK a.2.2.2 h.2.2.2)]
theorem to_BoolS {K : Nat} (hK : 2097152 ≤ K) (a : List Bool) (h : small (.sl .b) a) : l_toBoolS K a = some (a, ()) := by
  unfold l_toBoolS l_toBoolS.b
  exact to_start (L := l_toBoolS.l0 K a K) (by decide) h.1 (to_loop' (z := false) h.1 (L := l_toBoolS.l0 K a) (fun _ _ _ => rfl) a.length 0 _ K (by omega) (by have := h.1; omega) (by simp) (by simp))
theorem to_ByteS {K : Nat} (hK : 2097152 ≤ K) (a : List Int) (h : small (.sl (.i .u8)) a) : l_toByteS K a = some (a, ()) := by
  unfold l_toByteS l_toByteS.b
  exact to_start (L := l_toByteS.l0 K a K) (by decide) h.1 (to_loop' (z := 0) h.1 (L := l_toByteS.l0 K a) (fun _ _ _ => rfl) a.length 0 _ K (by omega) (by have := h.1; omega) (by simp) (by simp))
theorem to_Disk {K : Nat} (hK : 2097152 ≤ K) (a : TDisk) (h : small eDisk a) : l_toDisk K a = some (a, ()) := by
  unfold l_toDisk
  rw [bind_ok (to_ByteS hK a.1 h.1)]
theorem to_Rpc {K : Nat} (hK : 2097152 ≤ K) (a : TRpc) (h : small eRpc a) : l_toRpc K a = some (a, ()) := by
  unfold l_toRpc
  rw [bind_ok (to_EntryS hK a.2.2.2.2.2.2.2.1 h.2.2.2.2.2.2.2.1)]
theorem to_RpcS {K : Nat} (hK : 2097152 ≤ K) (a : List TRpc) (h : small (.sl eRpc) a) : l_toRpcS K a = some (a, ()) := by
  unfold l_toRpcS l_toRpcS.b
  exact to_start (L := l_toRpcS.l0 K a K) (by decide) h.1 (to_loop (f := l_toRpc K) (z := zRpc) (fun x hx => to_Rpc hK x (h.2 x hx)) h.1 (L := l_toRpcS.l0 K a) (fun _ _ _ => rfl) a.length 0 _ K (by omega) (by have := h.1; omega) (by simp) (by simp))
theorem to_Peer {K : Nat} (hK : 2097152 ≤ K) (a : TPeer) (h : small ePeer a) : l_toPeer K a = some (a, ()) := by
  unfold l_toPeer
  rw [bind_ok (to_Hard hK a.2.1 h.2.1)]
  rw [bind_ok (to_BoolS hK a.2.2.2.1 h.2.2.2.1)]
  rw [bind_ok (to_IntS hK a.2.2.2.2.1 h.2.2.2.2.1)]
  rw [bind_ok (to_IntS hK a.2.2.2.2.2.1 h.2.2.2.2.2.1)]
  rw [bind_ok (to_Keep hK a.2.2.2.2.2.2.2.1 h.2.2.2.2.2.2.2.1)]
  rw [bind_ok (to_Disk hK a.2.2.2.2.2.2.2.2.1 h.2.2.2.2.2.2.2.2.1)]
  rw [bind_ok (to_RpcS hK a.2.2.2.2.2.2.2.2.2 h.2.2.2.2.2.2.2.2.2)]
theorem to_PeerS {K : Nat} (hK : 2097152 ≤ K) (a : List TPeer) (h : small (.sl ePeer) a) : l_toPeerS K a = some (a, ()) := by
  unfold l_toPeerS l_toPeerS.b
  exact to_start (L := l_toPeerS.l0 K a K) (by decide) h.1 (to_loop (f := l_toPeer K) (z := zPeer) (fun x hx => to_Peer hK x (h.2 x hx)) h.1 (L := l_toPeerS.l0 K a) (fun _ _ _ => rfl) a.length 0 _ K (by omega) (by have := h.1; omega) (by simp) (by simp))
theorem to_CmdS {K : Nat} (hK : 2097152 ≤ K) (a : List TCmd) (h : small (.sl eCmd) a) : l_toCmdS K a = some (a, ()) := by
  unfold l_toCmdS l_toCmdS.b
  exact to_start (L := l_toCmdS.l0 K a K) (by decide) h.1 (to_loop (f := l_toCmd) (z := zCmd) (fun x hx => to_Cmd x (h.2 x hx)) h.1 (L := l_toCmdS.l0 K a) (fun _ _ _ => rfl) a.length 0 _ K (by omega) (by have := h.1; omega) (by simp) (by simp))
theorem to_Heard (a : THeard) (h : small eHeard a) : l_toHeard a = some (a, ()) := by
  unfold l_toHeard
  rw [bind_ok (to_Answer a.2.2.1 h.2.2.1)]
theorem to_HeardS {K : Nat} (hK : 2097152 ≤ K) (a : List THeard) (h : small (.sl eHeard) a) : l_toHeardS K a = some (a, ()) := by
  unfold l_toHeardS l_toHeardS.b
  exact to_start (L := l_toHeardS.l0 K a K) (by decide) h.1 (to_loop (f := l_toHeard) (z := zHeard) (fun x hx => to_Heard x (h.2 x hx)) h.1 (L := l_toHeardS.l0 K a) (fun _ _ _ => rfl) a.length 0 _ K (by omega) (by have := h.1; omega) (by simp) (by simp))
theorem to_World {K : Nat} (hK : 2097152 ≤ K) (a : TWorld) (h : small eWorld a) : l_toWorld K a = some (a, ()) := by
  unfold l_toWorld
  rw [bind_ok (to_Setup a.1 h.1)]
  rw [bind_ok (to_PeerS hK a.2.2.1 h.2.2.1)]
  rw [bind_ok (to_RpcS hK a.2.2.2.1 h.2.2.2.1)]
  rw [bind_ok (to_CmdS hK a.2.2.2.2.1 h.2.2.2.2.1)]
  rw [bind_ok (to_IntS hK a.2.2.2.2.2.1 h.2.2.2.2.2.1)]
  rw [bind_ok (to_HeardS hK a.2.2.2.2.2.2.1 h.2.2.2.2.2.2.1)]
  rw [bind_ok (to_CmdS hK a.2.2.2.2.2.2.2 h.2.2.2.2.2.2.2)]
theorem eq_Setup (a : TSetup) (h : small eSetup a) : l_eqSetup a a = some (true, ()) := by
  unfold l_eqSetup
  rw [bif_nf rfl]
  rw [bif_nf rfl]
  rw [bif_nf rfl]
  rw [bif_nf rfl]
theorem eq_Cmd (a : TCmd) (h : small eCmd a) : l_eqCmd a a = some (true, ()) := by
  unfold l_eqCmd
  rw [bif_nf rfl]
  rw [bif_nf rfl]
  rw [bif_nf rfl]
  rw [bif_nf rfl]
  rw [bif_nf rfl]
  rw [bif_nf rfl]
  rw [bif_nf rfl]
  rw [bif_nf rfl]
theorem eq_Entry (a : TEntry) (h : small eEntry a) : l_eqEntry a a = some (true, ()) := by
  unfold l_eqEntry
  rw [bif_nf rfl]
  rw [bind_ok (eq_Cmd a.2 h.2)]
  rw [bif_ntrue]
theorem eq_EntryS {K : Nat} (hK : 2097152 ≤ K) (a : List TEntry) (h : small (.sl eEntry) a) : l_eqEntryS K a a = some (true, ()) := by
  unfold l_eqEntryS l_eqEntryS.b
  rw [bif_nf rfl]
  exact (eq_loop (f := l_eqEntry) (z := zEntry) (fun x hx => eq_Entry x (h.2 x hx)) h.1 (L := l_eqEntryS.l0 K a a) (fun _ _ => rfl) a.length 0 K (by omega) (by have := h.1; omega))
theorem eq_Log {K : Nat} (hK : 2097152 ≤ K) (a : TLog) (h : small eLog a) : l_eqLog K a a = some (true, ()) := by
  unfold l_eqLog
  rw [bif_nf rfl]
  rw [bif_nf rfl]
  rw [bind_ok (eq_EntryS hK a.2.2 h.2.2)]
  rw [bif_ntrue]
theorem eq_Item (a : TItem) (h : small eItem a) : l_eqItem a a = some (true, ()) := by
  unfold l_eqItem
  rw [bif_nf rfl]
  rw [bif_nf rfl]
  rw [bif_nf rfl]
  rw [bif_nf rfl]
  rw [bif_nf rfl]
theorem eq_ItemS {K : Nat} (hK : 2097152 ≤ K) (a : List TItem) (h : small (.sl eItem) a) : l_eqItemS K a a = some (true, ()) := by
  unfold l_eqItemS l_eqItemS.b
  rw [bif_nf rfl]
  exact (eq_loop (f := l_eqItem) (z := zItem) (fun x hx => eq_Item x (h.2 x hx)) h.1 (L := l_eqItemS.l0 K a a) (fun _ _ => rfl) a.length 0 K (by omega) (by have := h.1; omega))
theorem eq_Row {K : Nat} (hK : 2097152 ≤ K) (a : TRow) (h : small eRow a) : l_eqRow K a a = some (true, ()) := by
  unfold l_eqRow
  rw [bif_nf rfl]
  rw [bif_nf rfl]
  rw [bind_ok (eq_ItemS hK a.2.2 h.2.2)]
  rw [bif_ntrue]
theorem eq_RowS {K : Nat} (hK : 2097152 ≤ K) (a : List TRow) (h : small (.sl eRow) a) : l_eqRowS K a a = some (true, ()) := by
  unfold l_eqRowS l_eqRowS.b
  rw [bif_nf rfl]
  exact (eq_loop (f := l_eqRow K) (z := zRow) (fun x hx => eq_Row hK x (h.2 x hx)) h.1 (L := l_eqRowS.l0 K a a) (fun _ _ => rfl) a.length 0 K (by omega) (by have := h.1; omega))
theorem eq_Mark (a : TMark) (h : small eMark a) : l_eqMark a a = some (true, ()) := by
  unfold l_eqMark
  rw [bif_nf rfl]
  rw [bif_nf rfl]
theorem eq_MarkS {K : Nat} (hK : 2097152 ≤ K) (a : List TMark) (h : small (.sl eMark) a) : l_eqMarkS K a a = some (true, ()) := by
  unfold l_eqMarkS l_eqMarkS.b
  rw [bif_nf rfl]
  exact (eq_loop (f := l_eqMark) (z := zMark) (fun x hx => eq_Mark x (h.2 x hx)) h.1 (L := l_eqMarkS.l0 K a a) (fun _ _ => rfl) a.length 0 K (by omega) (by have := h.1; omega))
theorem eq_Maker {K : Nat} (hK : 2097152 ≤ K) (a : TMaker) (h : small eMaker a) : l_eqMaker K a a = some (true, ()) := by
  unfold l_eqMaker
  rw [bif_nf rfl]
  rw [bif_nf rfl]
  rw [bif_nf rfl]
  rw [bif_nf rfl]
  rw [bind_ok (eq_MarkS hK a.2.2.2.2 h.2.2.2.2)]
  rw [bif_ntrue]
theorem eq_MakerS {K : Nat} (hK : 2097152 ≤ K) (a : List TMaker) (h : small (.sl eMaker) a) : l_eqMakerS K a a = some (true, ()) := by
  unfold l_eqMakerS l_eqMakerS.b
  rw [bif_nf rfl]
  exact (eq_loop (f := l_eqMaker K) (z := zMaker) (fun x hx => eq_Maker hK x (h.2 x hx)) h.1 (L := l_eqMakerS.l0 K a a) (fun _ _ => rfl) a.length 0 K (by omega) (by have := h.1; omega))
theorem eq_IntS {K : Nat} (hK : 2097152 ≤ K) (a : List Int) (h : small (.sl (.i .i64)) a) : l_eqIntS K a a = some (true, ()) := by
  unfold l_eqIntS l_eqIntS.b
  rw [bif_nf rfl]
  exact (eq_loop' (f := (fun x y => decide (x = y))) (z := 0) (fun x => by simp) h.1 (L := l_eqIntS.l0 K a a) (fun _ _ => rfl) a.length 0 K (by omega) (by have := h.1; omega))
theorem eq_Group {K : Nat} (hK : 2097152 ≤ K) (a : TGroup) (h : small eGroup a) : l_eqGroup K a a = some (true, ()) := by
  unfold l_eqGroup
  rw [bif_nf rfl]
  rw [bind_ok (eq_IntS hK a.2.1 h.2.1)]
  rw [bif_ntrue]
  rw [bind_ok (eq_IntS hK a.2.2.1 h.2.2.1)]
  rw [bif_ntrue]
  rw [bind_ok (eq_IntS hK a.2.2.2 h.2.2.2)]
  rw [bif_ntrue]
theorem eq_GroupS {K : Nat} (hK : 2097152 ≤ K) (a : List TGroup) (h : small (.sl eGroup) a) : l_eqGroupS K a a = some (true, ()) := by
  unfold l_eqGroupS l_eqGroupS.b
  rw [bif_nf rfl]
  exact (eq_loop (f := l_eqGroup K) (z := zGroup) (fun x hx => eq_Group hK x (h.2 x hx)) h.1 (L := l_eqGroupS.l0 K a a) (fun _ _ => rfl) a.length 0 K (by omega) (by have := h.1; omega))
theorem eq_Answer (a : TAnswer) (h : small eAnswer a) : l_eqAnswer a a = some (true, ()) := by
  unfold l_eqAnswer
  rw [bif_nf rfl]
  rw [bif_nf rfl]
  rw [bif_nf rfl]
  rw [bif_nf rfl]
theorem eq_AnswerS {K : Nat} (hK : 2097152 ≤ K) (a : List TAnswer) (h : small (.sl eAnswer) a) : l_eqAnswerS K a a = some (true, ()) := by
  unfold l_eqAnswerS l_eqAnswerS.b
  rw [bif_nf rfl]
  exact (eq_loop (f := l_eqAnswer) (z := zAnswer) (fun x hx => eq_Answer x (h.2 x hx)) h.1 (L := l_eqAnswerS.l0 K a a) (fun _ _ => rfl) a.length 0 K (by omega) (by have := h.1; omega))
theorem eq_Keep {K : Nat} (hK : 2097152 ≤ K) (a : TKeep) (h : small eKeep a) : l_eqKeep K a a = some (true, ()) := by
  unfold l_eqKeep
  rw [bind_ok (eq_RowS hK a.1 h.1)]
  rw [bif_ntrue]
  rw [bind_ok (eq_MakerS hK a.2.1 h.2.1)]
  rw [bif_ntrue]
  rw [bind_ok (eq_GroupS hK a.2.2.1 h.2.2.1)]
  rw [bif_ntrue]
  rw [bif_nf rfl]
  rw [bind_ok (eq_IntS hK a.2.2.2.2.1 h.2.2.2.2.1)]
  rw [bif_ntrue]
  rw [bind_ok (eq_AnswerS hK a.2.2.2.2.2 h.2.2.2.2.2)]
  rw [bif_ntrue]
theorem eq_Hard {K : Nat} (hK : 2097152 ≤ K) (a : THard) (h : small eHard a) : l_eqHard K a a = some (true, ()) := by
  unfold l_eqHard
  rw [bif_nf rfl]
  rw [bif_nf rfl]
  rw [bind_ok (eq_Log hK a.2.2.1 h.2.2.1)]
  rw [bif_ntrue]
  rw [bind_ok (eq_Keep hK a.2.2.2 h.2.2.2)]
  rw [bif_ntrue]
theorem eq_BoolS {K : Nat} (hK : 2097152 ≤ K) (a : List Bool) (h : small (.sl .b) a) : l_eqBoolS K a a = some (true, ()) := by
  unfold l_eqBoolS l_eqBoolS.b
  rw [bif_nf rfl]
  exact (eq_loop' (f := (fun x y => x == y)) (z := false) (fun x => by simp) h.1 (L := l_eqBoolS.l0 K a a) (fun _ _ => rfl) a.length 0 K (by omega) (by have := h.1; omega))
theorem eq_ByteS {K : Nat} (hK : 2097152 ≤ K) (a : List Int) (h : small (.sl (.i .u8)) a) : l_eqByteS K a a = some (true, ()) := by
  unfold l_eqByteS l_eqByteS.b
  rw [bif_nf rfl]
  exact (eq_loop' (f := (fun x y => decide (x = y))) (z := 0) (fun x => by simp) h.1 (L := l_eqByteS.l0 K a a) (fun _ _ => rfl) a.length 0 K (by omega) (by have := h.1; omega))
theorem eq_Disk {K : Nat} (hK : 2097152 ≤ K) (a : TDisk) (h : small eDisk a) : l_eqDisk K a a = some (true, ()) := by
  unfold l_eqDisk
  rw [bind_ok (eq_ByteS hK a.1 h.1)]
  rw [bif_ntrue]
  rw [bif_nf rfl]
theorem eq_Rpc {K : Nat} (hK : 2097152 ≤ K) (a : TRpc) (h : small eRpc a) : l_eqRpc K a a = some (true, ()) := by
  unfold l_eqRpc
  rw [bif_nf rfl]
  rw [bif_nf rfl]
  rw [bif_nf rfl]
  rw [bif_nf rfl]
  rw [bif_nf rfl]
  rw [bif_nf rfl]
  rw [bif_nf rfl]
  rw [bind_ok (eq_EntryS hK a.2.2.2.2.2.2.2.1 h.2.2.2.2.2.2.2.1)]
  rw [bif_ntrue]
  rw [bif_nbeq]
  rw [bif_nf rfl]
theorem eq_RpcS {K : Nat} (hK : 2097152 ≤ K) (a : List TRpc) (h : small (.sl eRpc) a) : l_eqRpcS K a a = some (true, ()) := by
  unfold l_eqRpcS l_eqRpcS.b
  rw [bif_nf rfl]
  exact (eq_loop (f := l_eqRpc K) (z := zRpc) (fun x hx => eq_Rpc hK x (h.2 x hx)) h.1 (L := l_eqRpcS.l0 K a a) (fun _ _ => rfl) a.length 0 K (by omega) (by have := h.1; omega))
theorem eq_Peer {K : Nat} (hK : 2097152 ≤ K) (a : TPeer) (h : small ePeer a) : l_eqPeer K a a = some (true, ()) := by
  unfold l_eqPeer
  rw [bif_nf rfl]
  rw [bind_ok (eq_Hard hK a.2.1 h.2.1)]
  rw [bif_ntrue]
  rw [bif_nf rfl]
  rw [bind_ok (eq_BoolS hK a.2.2.2.1 h.2.2.2.1)]
  rw [bif_ntrue]
  rw [bind_ok (eq_IntS hK a.2.2.2.2.1 h.2.2.2.2.1)]
  rw [bif_ntrue]
  rw [bind_ok (eq_IntS hK a.2.2.2.2.2.1 h.2.2.2.2.2.1)]
  rw [bif_ntrue]
  rw [bif_nf rfl]
  rw [bind_ok (eq_Keep hK a.2.2.2.2.2.2.2.1 h.2.2.2.2.2.2.2.1)]
  rw [bif_ntrue]
  rw [bind_ok (eq_Disk hK a.2.2.2.2.2.2.2.2.1 h.2.2.2.2.2.2.2.2.1)]
  rw [bif_ntrue]
  rw [bind_ok (eq_RpcS hK a.2.2.2.2.2.2.2.2.2 h.2.2.2.2.2.2.2.2.2)]
  rw [bif_ntrue]
theorem eq_PeerS {K : Nat} (hK : 2097152 ≤ K) (a : List TPeer) (h : small (.sl ePeer) a) : l_eqPeerS K a a = some (true, ()) := by
  unfold l_eqPeerS l_eqPeerS.b
  rw [bif_nf rfl]
  exact (eq_loop (f := l_eqPeer K) (z := zPeer) (fun x hx => eq_Peer hK x (h.2 x hx)) h.1 (L := l_eqPeerS.l0 K a a) (fun _ _ => rfl) a.length 0 K (by omega) (by have := h.1; omega))
theorem eq_CmdS {K : Nat} (hK : 2097152 ≤ K) (a : List TCmd) (h : small (.sl eCmd) a) : l_eqCmdS K a a = some (true, ()) := by
  unfold l_eqCmdS l_eqCmdS.b
  rw [bif_nf rfl]
  exact (eq_loop (f := l_eqCmd) (z := zCmd) (fun x hx => eq_Cmd x (h.2 x hx)) h.1 (L := l_eqCmdS.l0 K a a) (fun _ _ => rfl) a.length 0 K (by omega) (by have := h.1; omega))
theorem eq_Heard (a : THeard) (h : small eHeard a) : l_eqHeard a a = some (true, ()) := by
  unfold l_eqHeard
  rw [bif_nf rfl]
  rw [bif_nf rfl]
  rw [bind_ok (eq_Answer a.2.2.1 h.2.2.1)]
  rw [bif_ntrue]
  rw [bif_nf rfl]
  rw [bif_nf rfl]
theorem eq_HeardS {K : Nat} (hK : 2097152 ≤ K) (a : List THeard) (h : small (.sl eHeard) a) : l_eqHeardS K a a = some (true, ()) := by
  unfold l_eqHeardS l_eqHeardS.b
  rw [bif_nf rfl]
  exact (eq_loop (f := l_eqHeard) (z := zHeard) (fun x hx => eq_Heard x (h.2 x hx)) h.1 (L := l_eqHeardS.l0 K a a) (fun _ _ => rfl) a.length 0 K (by omega) (by have := h.1; omega))
theorem eq_World {K : Nat} (hK : 2097152 ≤ K) (a : TWorld) (h : small eWorld a) : l_eqWorld K a a = some (true, ()) := by
  unfold l_eqWorld
  rw [bind_ok (eq_Setup a.1 h.1)]
  rw [bif_ntrue]
  rw [bif_nf rfl]
  rw [bind_ok (eq_PeerS hK a.2.2.1 h.2.2.1)]
  rw [bif_ntrue]
  rw [bind_ok (eq_RpcS hK a.2.2.2.1 h.2.2.2.1)]
  rw [bif_ntrue]
  rw [bind_ok (eq_CmdS hK a.2.2.2.2.1 h.2.2.2.2.1)]
  rw [bif_ntrue]
  rw [bind_ok (eq_IntS hK a.2.2.2.2.2.1 h.2.2.2.2.2.1)]
  rw [bif_ntrue]
  rw [bind_ok (eq_HeardS hK a.2.2.2.2.2.2.1 h.2.2.2.2.2.2.1)]
  rw [bif_ntrue]
  rw [bind_ok (eq_CmdS hK a.2.2.2.2.2.2.2 h.2.2.2.2.2.2.2)]
  rw [bif_ntrue]

end Go.Proofs.YtilemnhdgfhkiaaGreatDoor.Wt
