/- The closed facts of ParsePrecedence's row, one by one: the kernel reckons each. -/
import Derived.Test.YtdmchkjlgppagaaGreatDoorFB
import Derived.JoinedOf
import Derived.SevenTiedAt
namespace Go.Proofs.YtdmchkjlgppagaaGreatDoor
set_option maxRecDepth 100000
theorem Fz : Tryz.prog.funcNamed "foregone/foregonelaw03.ParsePrecedence" = some 3 := by kernel_rfl
theorem MK:Tryz.f3.isInstance Tryz.prog Rows.parsePrecedenceRow.origin Rows.parsePrecedenceRow.targs:=of_decide_eq_true (by kernel_rfl)
theorem MN:Tryz.f3.isWrapper Tryz.prog Rows.parsePrecedenceRow.wrapper Rows.parsePrecedenceRow.mainSum:=by unfold Func.isWrapper;first | (rw[if_pos (by decide +kernel)];kernel_rfl) | (rw[if_neg (by decide +kernel)];exact⟨rfl,rfl⟩)
theorem Lp:Rows.parsePrecedenceRow.wfByText (OpenSpec.ofChange Rows.parsePrecedenceSpec)=true:=by kernel_rfl
theorem ML : Tryz.prog.mainIs = some (true, "f60f8bc6447b6fd7b86aaed5c394ab12ac582edb5393f2441269803d538808ba".toList) := by kernel_rfl
theorem FS:true=Tryz.prog.looks []:=by kernel_rfl
theorem Rm:([9,9].all fun u=>!Tryz.prog.wantsStandIn u)=true:=by kernel_rfl
theorem MJ:false=Rows.parsePrecedenceRow.goesBy Tryz.prog:=by kernel_rfl
end Go.Proofs.YtdmchkjlgppagaaGreatDoor
