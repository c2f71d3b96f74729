/- OpVersions: op.In and op.Arity answer as the document's, for every op and version. No condition. -/
import Derived.Test.YtbefcdidlfkmnaaC3
import Derived.Test.YtbefcdidlfkmnaaPuOp
namespace Go.Proofs.Ytbefcdidlfkmnaa.Pure
open Go.RowKit Go.Proofs.Ytbefcdidlfkmnaa.Print Go.Proofs.YtbefcdidlfkmnaaW.PrintWords Go.Proofs.YtbefcdidlfkmnaaW.PrintLast
theorem OpVersions : fluxionlaw11_OpVersions.Pure := by
  intro o v _ _
  refine ⟨2, ?_⟩
  unfold fluxionlaw11_OpVersions.f op_Arity.f op_In.f fluxionlaw11_known.f
  simp only [Option.bind_some]
  rw [arity_eq 1 o, in_eq 0 o v]
  simp only [Option.bind_some]
  cases inR v (rowOf o) <;> simp
end Go.Proofs.Ytbefcdidlfkmnaa.Pure
