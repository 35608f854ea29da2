/- The closed facts of ParsePrecedence's row, one by one: the kernel reckons each. -/
import Derived.Test.YtdmchkjlgppagaaGreatDoorFC
import Derived.Test.YtdmchkjlgppagaaGreatDoorTie
import Derived.Test.YtdmchkjlgppagaaGreatDoorCards
import Derived.JoinedOf
import Derived.ProofKit
import Derived.OpenShut
import Derived.LaidMore
import Derived.Lay
import Derived.SevenTiedAt
import Derived.Stop.Joined
namespace Go.Proofs.YtdmchkjlgppagaaGreatDoor
open Go.ChangeShapes Go.WideShapes Go.ChangeAt Go.RowKit Go.ChangeMaps
set_option maxRecDepth 100000
theorem NK (h:∀ os:Os,os.Started→∀(H:Type) (enc:TypeId×Value→H),ReturnsInHanded {} Tryz.checked os 3 .any (fun w args=>(Rows.parsePrecedenceSpec.pre enc Tryz.prog Tryz.f3 Rows.parsePrecedenceRow.domain false w args∧laidMetH Tryz.prog Rows.parsePrecedenceRow.laid w)∧sizedMet enc Tryz.prog Tryz.f3 (OpenSpec.ofChange Rows.parsePrecedenceSpec) false w args) (Rows.parsePrecedenceSpec.post enc Tryz.prog Tryz.f3 false true false false)):Rows.ParsePrecedenceSaid:=
 OpenClaim.holds_of_wide 3 Tryz.f3 rfl rfl rfl rfl rfl rfl rfl ⟨rfl,rfl,rfl,rfl,rfl⟩ rfl rfl rfl rfl rfl Fz Tryz.func3 RP MK MN (fun os started H enc _=>h os started H enc)
theorem KC (holds:Rows.ParsePrecedenceSaid):Rows.ParsePrecedenceCardSaid:=
 Claim7.holds_tied_plain_at .later [] [.data, .listed, .data, .pinned] true (true, "f60f8bc6447b6fd7b86aaed5c394ab12ac582edb5393f2441269803d538808ba") true holds (fun _ h => by cases h) Lp (fun _ h => by cases h) parsePrecedence_row_tie rfl ⟨rfl, rfl⟩ ML rfl
  (fun f fn hf hfn=>by
   obtain rfl:f=3:=(Option.some.inj (Fz.symm.trans hf)).symm;obtain rfl:fn=Tryz.f3:=(Option.some.inj (Tryz.func3.symm.trans hfn)).symm;exact⟨FS,fun j t ht=>by
    rw[Tryz.params3]at ht;have hm:t ∈ [9,9]:=(by simpa using Array.mem_of_getElem? ht);exact(show Tryz.prog.wantsStandIn t=false by simpa using List.all_eq_true.1 Rm t hm)⟩)
  MJ
end Go.Proofs.YtdmchkjlgppagaaGreatDoor
