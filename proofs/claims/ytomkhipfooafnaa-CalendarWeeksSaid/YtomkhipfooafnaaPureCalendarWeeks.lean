/- CalendarWeeks, the plain law: the weeks of every day are the reference's own.
   Conditions: none. -/
import Derived.Test.YtomkhipfooafnaaP17
import Derived.Test.YtomkhipfooafnaaCalWeeks
namespace Go.Proofs.Ytomkhipfooafnaa.Pure
open Go.RowKit Go.Proofs.Ytomkhipfooafnaa.P Go.Proofs.YtomkhipfooafnaaW.PrintWords Go.Proofs.YtomkhipfooafnaaW.PrintLast Go.Proofs.Ytomkhipfooafnaa.Cal
theorem CalendarWeeks : colanderlaw11_CalendarWeeks.Pure := by
  intro a0 _
  refine ⟨500, ?_⟩
  unfold colanderlaw11_CalendarWeeks.f
  rw [weeks_eq 500 (by omega), rweeks_eq 500 (by omega)]
  simp [colanderlaw11_heads.f]
end Go.Proofs.Ytomkhipfooafnaa.Pure
