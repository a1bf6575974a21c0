/- Proved: for every input the law FnCutStays returns true, and each argument reads afterwards as it read before.
   Conditions: those of the row itself (none); nothing is assumed beside it. -/
import Derived.Test.YtjfnlbdnfglmfaaGreatCuOk
import Derived.Test.YtjfnlbdnfglmfaaGreatCuPl
import Derived.Test.YtjfnlbdnfglmfaaGreatRows
import Derived.Stop.Joined
import Derived.LaidMore
import Derived.LaidOnce
import Derived.Stop.LaidErr
import Derived.Test.YtjfnlbdnfglmfaaGreatKc
import Derived.Lay
set_option linter.all false
set_option maxRecDepth 100000
namespace Go.Proofs.YtjfnlbdnfglmfaaGreat.Cu
open Go Go.Kn Go.RowKit Go.ChangeShapes Go.WideShapes Go.ChangeAt
theorem own:ownKnob Tryz.prog.godebug=none:=by kernel_rfl
theorem lifted (os:Os) (started:os.Started) (H:Type) (enc:TypeId×Value→H) :
 ReturnsInHanded {} Tryz.checked os 3 .any (Rows.fnCutStaysSpec.pre6 enc Tryz.prog Tryz.f3 [] false)
  (Rows.fnCutStaysSpec.post enc Tryz.prog Tryz.f3 false true false false):=
 x_07 (C:=Tryz.checked) own started (by kernel_rfl) Tryz.func3
 (by
  obtain ⟨w,tape,i,h1,h2,h3,h4,⟨⟨h5,_⟩,h6⟩,h7⟩:=ChangeSpec.witness_shaped (s:=Rows.fnCutStaysSpec) (conds:=[]) (apart:=false) (enc:=enc) (C:=Tryz.checked) (os:=os) (f:=3) (fn:=Tryz.f3) (X:=fun _ _=>True) false (World.laidAll Tryz.prog os []) #[.slice none 0 0] 8 (World.laidAll_os _ _ _) (World.shaped_of_ZipB (by kernel_rfl) (by kernel_rfl)) (by kernel_rfl) (by kernel_rfl) (by kernel_rfl) trivial
  exact ⟨w,tape,i,h1,h2,h3,h4,⟨h5,h6⟩,h7⟩)
 (fun _ _=>⟨trivial,fun _ h=>h.elim⟩) rfl (rt:=4) (by kernel_rfl) Tryz.underlying4 (by kernel_rfl) (es:=[(false,(.sl (.i .u8)))]) (by kernel_rfl)
 (fun ds hd=>by
  obtain ⟨d0,rfl⟩:=List.length_eq_one_iff.1 hd
  rfl)
 (o3 (2097152:Nat)) (fun v hv=>lawCu (by decide) v.1 hv.1)
theorem band_ {a b:Bool} (h:a=true) (k:b=true):(a && b)=true:=by rw [h,k];rfl
set_option maxHeartbeats 4000000 in
theorem closed:joinedFacts Tryz.checked.prog 3 Tryz.f3 Rows.fnCutStaysSpec Rows.fnCutStaysRow=true:=by
 unfold joinedFacts
 repeat' with_reducible refine band_ ?_ ?_
 all_goals as_aux_lemma=>kernel_rfl
theorem f_holds:Rows.FnCutStaysSaid:=
 OpenClaim.holds_of_wide 3 Tryz.f3 rfl rfl rfl rfl rfl rfl rfl ⟨rfl,rfl,rfl,rfl,rfl⟩ rfl rfl rfl rfl rfl (by kernel_rfl) Tryz.func3 closed
 (of_decide_eq_true (by kernel_rfl)) (by unfold Func.isWrapper;rw [if_neg (of_decide_eq_false (by kernel_rfl))];exact ⟨rfl,rfl⟩)
 (fun os started H enc _=>lifted os started H enc)
#print axioms f_holds
end Go.Proofs.YtjfnlbdnfglmfaaGreat.Cu
