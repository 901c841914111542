/- WeatherSpec's plain statement: Add and Check answer as the reference does. -/
import Derived.Test.YthfhjcbgccnijaaSayWeatherSpec
import Derived.Test.YthfhjcbgccnijaaWsP
import Derived.Test.YthfhjcbgccnijaaQ7
namespace Go.Proofs.Ythfhjcbgccnijaa.Q
open Go.RowKit Go.Proofs.YthfhjcbgccnijaaW.PrintWords Go.Proofs.YthfhjcbgccnijaaW.PrintLast Go.Proofs.YthfhjcbgccnijaaW.PrintMore
set_option linter.unusedVariables false
set_option linter.unusedSimpArgs false

theorem same_loop (l : List S41) (hn : l.length ≤ 10000) : ∀ (m i : Nat), i + m = l.length → ∀ k, m < k → fastiref27_Same.l0 k l l (i : Int) = some true
  | 0, i, h, k + 1, _ => by
    rw [fastiref27_Same.l0, if_neg (by omega)]
  | m + 1, i, h, k + 1, hk => by
    have hw : wrap64 ((i : Int) + 1) = ((i + 1 : Nat) : Int) := by rw [wr_in (by omega)]; omega
    rw [fastiref27_Same.l0, if_pos (by omega), if_pos (by omega), if_pos (by omega), if_neg (by simp), hw]
    exact same_loop l hn m (i + 1) (by omega) k (by omega)
theorem same_refl (l : List S41) (hn : l.length ≤ 10000) (k : Nat) (hk : l.length < k) : fastiref27_Same.f k l l = some true := by
  unfold fastiref27_Same.f
  rw [if_pos rfl]
  exact same_loop l hn l.length 0 (by omega) k hk
theorem addV_length (l : List S41) (r : S41) : (addV l r).1.length ≤ l.length + 1 := by
  unfold addV
  split
  · split
    · split
      · simp
      · split
        · simp
        · rw [insAt_length _ _ _ (posV_le l r.f0)]
          omega
    · simp
  · simp

theorem fastilaw27_WeatherSpec.pure : fastilaw27_WeatherSpec.Pure := by
  intro l r _ _
  refine ⟨l.length + 5, ?_⟩
  unfold fastilaw27_WeatherSpec.f
  rw [show fastilaw27_sane.f = some true from rfl, Option.bind_some, if_pos rfl]
  by_cases h : (l.length : Int) > 5000
  · rw [if_pos h]
  · rw [if_neg h, show weather_Add.f l r.f0 r.f1 r.f2 r.f3 r.f4 r.f5.f0 r.f5.f1 r.f6.f0 r.f6.f1 = some (addV l r) from rfl, Option.bind_some, ref_add l r _ (by omega), Option.bind_some, wchk l _ (by omega), Option.bind_some, ref_chk l _ (by omega), Option.bind_some, if_pos rfl,
      same_refl (addV l r).1 (by have := addV_length l r; omega) _ (by have := addV_length l r; omega), Option.bind_some, if_pos rfl]
    simp
end Go.Proofs.Ythfhjcbgccnijaa.Q
namespace Go.Proofs.Ythfhjcbgccnijaa.Pure
theorem WeatherSpec : Go.Proofs.Ythfhjcbgccnijaa.Q.fastilaw27_WeatherSpec.Pure := Go.Proofs.Ythfhjcbgccnijaa.Q.fastilaw27_WeatherSpec.pure
end Go.Proofs.Ythfhjcbgccnijaa.Pure
