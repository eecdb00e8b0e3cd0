/-
  The law of MeetOf, on plain functions.
-/
import Derived.Test.YthcnmahjhahafabP14
import Derived.Test.YthcnmahjhahafabLExactMeetOf
namespace Go.Proofs.Ythcnmahjhahafab.Ax
open Go Classical

theorem F_FnExactMeetOf {p : SPoset} (h : read p) (x y : Int) : F_laws_FnExactMeetOf p x y = some true := by
  unfold F_laws_FnExactMeetOf
  refine law_frame h fun h3 h4 hs => ?_
  obtain ⟨r, e1, e2⟩ := both_MeetOf hs x y
  have b2 : F_laws_eqPoset p p = some true := by rw [F_eqPoset hs]; simp
  simp only [F_toPoset hs, e1, e2, Option.bind_some, b2, if_true, beq_self_eq_true, ne_eq, not_true, if_false]

end Go.Proofs.Ythcnmahjhahafab.Ax
