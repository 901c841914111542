/- WeatherOfSpec's plain statement: Of answers as the reference does. -/
import Derived.Test.YthfhjcbgccnijaaSayWeatherOfSpec
import Derived.Test.YthfhjcbgccnijaaWoP
namespace Go.Proofs.Ythfhjcbgccnijaa.Pure
open Go.RowKit Go.Proofs.YthfhjcbgccnijaaW.PrintWords Go.Proofs.YthfhjcbgccnijaaW.PrintLast Go.Proofs.YthfhjcbgccnijaaW.PrintMore Go.Proofs.Ythfhjcbgccnijaa.Q
theorem of_total (l : List S41) (g d t : Int) : ∃ v, weather_Of.f l g d t = some v := by
  unfold weather_Of.f
  split
  · split <;> exact ⟨_, rfl⟩
  · exact ⟨_, rfl⟩
theorem WeatherOfSpec : fastilaw27_WeatherOfSpec.Pure := by
  intro l g d t _ _ _ _
  refine ⟨l.length + 51, ?_⟩
  unfold fastilaw27_WeatherOfSpec.f
  rw [show fastilaw27_sane.f = some true from rfl, Option.bind_some, if_pos rfl]
  by_cases h : (l.length : Int) > 5000
  · rw [if_pos h]
  · rw [if_neg h, of_ref l g d t _ (by omega)]
    obtain ⟨v, hv⟩ := of_total l g d t
    rw [hv, Option.bind_some, Option.bind_some]
    simp
end Go.Proofs.Ythfhjcbgccnijaa.Pure
