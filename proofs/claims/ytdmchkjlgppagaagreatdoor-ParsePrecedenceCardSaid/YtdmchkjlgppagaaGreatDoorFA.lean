/- The closed facts of ParsePrecedence's row, one by one: the kernel reckons each. -/
import Derived.Test.YtdmchkjlgppagaaGreatDoorRows
import Derived.JoinedOf
namespace Go.Proofs.YtdmchkjlgppagaaGreatDoor
set_option maxRecDepth 100000
theorem YD:(Rows.parsePrecedenceRow).wf (OpenSpec.ofChange Rows.parsePrecedenceSpec)=true:=by kernel_rfl
theorem Rl:laidOutB Tryz.prog=true:=by kernel_rfl
theorem Hs:mapsRowed Tryz.prog=true:=by kernel_rfl
theorem Zr:Tryz.f3.params.all (Tryz.prog.readableRec ·)=true:=by kernel_rfl
theorem Lm:namedTie Tryz.prog Rows.parsePrecedenceRow.named Rows.parsePrecedenceSpec.vars=true:=by kernel_rfl
theorem FV:((Rows.parsePrecedenceRow.stops==[])&&(Tryz.prog.stops==[])&&(Rows.parsePrecedenceRow.knobs==[])&&(Tryz.prog.stopKnobs==[]))=true:=by kernel_rfl
theorem Rk:(Rows.parsePrecedenceRow.inPlace==Tryz.prog.inPlace 3)=true:=by kernel_rfl
theorem Eg:(Rows.parsePrecedenceRow.unfollowed==Tryz.prog.unfollowed 3)=true:=by kernel_rfl
theorem Ln:(Rows.parsePrecedenceRow.recurses==Tryz.prog.recurses 3)=true:=by kernel_rfl
theorem FU:(Rows.parsePrecedenceRow.named==Tryz.prog.varsNamed 3)=true:=by kernel_rfl
end Go.Proofs.YtdmchkjlgppagaaGreatDoor
