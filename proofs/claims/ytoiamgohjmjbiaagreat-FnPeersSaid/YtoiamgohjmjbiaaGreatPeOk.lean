/- The functions compute what is told of them. -/
import Derived.Test.YtoiamgohjmjbiaaGreatPeOk18
set_option linter.all false
set_option maxRecDepth 100000
namespace Go.Proofs.YtoiamgohjmjbiaaGreat.Pe
open Go Go.Kn
noncomputable def B15:Bd PP:=⟨⟨[vo (.i .i64) 0],[ro (.i .i64) 0],[],u1 x_wh,false⟩,tt,hn [1,4],0,Tryz.f15,[.tmp 2]⟩
theorem o15:FOk PP 15 B15.F:=bok mixed Tryz.func15
noncomputable def B3 (K:Nat):Bd PP:=⟨lawF [(false,(.sl (.i .u8)))] fun v=>x_k7 K v.1,fz [11,14]<|cn o4<|cn (o5 K)<|cn (o6 K)<|cn (o7 K)<|cn (o8 K)<|cn (o9 K)<|cn (o10 K)<|cn (o11 K)<|cn (o12 K)<|cn (o13 K)<|cn (o14 K)<|cn o15<|cn o16 tt,hn [1,131073,4,57,249,745,7913,32489,65256,1208925819614629174739176,4,4],K,Tryz.f3,[.tmp 2]⟩
theorem o3 (K:Nat):FOk PP 3 (B3 K).F:=bok mixed Tryz.func3
end Go.Proofs.YtoiamgohjmjbiaaGreat.Pe
