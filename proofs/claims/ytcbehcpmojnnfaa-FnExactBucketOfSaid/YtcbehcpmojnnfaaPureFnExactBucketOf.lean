/- The program's BucketOf and the reference's BucketOf answer the same for each number. No condition. -/
import Derived.Test.YtcbehcpmojnnfaaPFnExactBucketOfx1
namespace Go.Proofs.Ytcbehcpmojnnfaa.Pure
open Go.RowKit Go.Proofs.Ytcbehcpmojnnfaa.PFnExactBucketOf Go.Proofs.YtcbehcpmojnnfaaW.PrintWords Go.Proofs.YtcbehcpmojnnfaaW.PrintLast

theorem FnExactBucketOf : laws_FnExactBucketOf.Pure := by
  intro a _
  unfold laws_FnExactBucketOf.f impl_BucketOf.f spec_BucketOf.f impl_from.f spec_l1In.f
  by_cases h0 : a ≥ 0
  · by_cases h1 : a ≤ 1099511627776 <;> simp [h0, h1]
  · simp [h0]

end Go.Proofs.Ytcbehcpmojnnfaa.Pure
