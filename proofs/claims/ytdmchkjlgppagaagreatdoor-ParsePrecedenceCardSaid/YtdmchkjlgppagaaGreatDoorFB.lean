/- The closed facts of ParsePrecedence's row, one by one: the kernel reckons each. -/
import Derived.Test.YtdmchkjlgppagaaGreatDoorFA
import Derived.JoinedOf
namespace Go.Proofs.YtdmchkjlgppagaaGreatDoor
set_option maxRecDepth 100000
theorem Ef:Tryz.prog.stopsHeard=true:=by kernel_rfl
theorem Ll:Tryz.prog.mayEnter=true:=by kernel_rfl
theorem Zq:(Rows.parsePrecedenceRow.lifted==Tryz.prog.liftsFinal)=true:=by kernel_rfl
theorem MM:(Tryz.prog.make==some Rows.parsePrecedenceRow.make)=true:=by kernel_rfl
theorem Ht:(Rows.parsePrecedenceRow.plainKeys==Tryz.prog.plainKeys)=true:=by kernel_rfl
theorem FT:(Rows.parsePrecedenceRow.loops==(Tryz.f3.params.toList++Rows.parsePrecedenceSpec.plain.varTypes Tryz.prog).any (Tryz.prog.loopsFrom ·))=true:=by kernel_rfl
theorem FR:(Rows.parsePrecedenceRow.kinds==(if Rows.parsePrecedenceRow.domain.isEmpty then [] else Tryz.f3.params.toList.map fun t=>match Tryz.prog.underlying t with | some (.int k)=>some k | _=>none))=true:=by kernel_rfl
theorem RP:joinedFacts Tryz.prog 3 Tryz.f3 Rows.parsePrecedenceSpec Rows.parsePrecedenceRow=true:=by
 have hs:=FV;simp only[Bool.and_eq_true]at hs;unfold joinedFacts;simp only[Bool.and_eq_true];exact⟨⟨⟨⟨⟨⟨⟨⟨⟨⟨⟨⟨⟨⟨⟨⟨⟨⟨⟨⟨⟨⟨⟨⟨⟨⟨⟨⟨⟨⟨⟨YD,Rl⟩,Hs⟩,Zr⟩,Lm⟩,hs.1.1.1⟩,hs.1.1.2⟩,hs.1.2⟩,hs.2⟩,Rk⟩,Eg⟩,Ln⟩,FU⟩,by kernel_rfl⟩,by kernel_rfl⟩,by kernel_rfl⟩,FT⟩,by kernel_rfl⟩,by kernel_rfl⟩,by kernel_rfl⟩,by kernel_rfl⟩,by kernel_rfl⟩,Ht⟩,by kernel_rfl⟩,Ef⟩,Ll⟩,Zq⟩,MM⟩,FR⟩,by kernel_rfl⟩,by kernel_rfl⟩,by kernel_rfl⟩
end Go.Proofs.YtdmchkjlgppagaaGreatDoor
