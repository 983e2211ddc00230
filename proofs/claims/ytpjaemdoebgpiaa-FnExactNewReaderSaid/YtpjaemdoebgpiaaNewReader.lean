/- NewReader -/
import Derived.Test.YtpjaemdoebgpiaaReader
namespace Go.Proofs.Ytpjaemdoebgpiaa
open Go.ChangeShapes Go.WideShapes Go.ChangeAt Go.RowKit

theorem i_NewReader {w : World} :
    Calls Try.prog 14 #[] w fun e w' => ∃ v, e = .returned v ∧ Chg [] w w' ∧ IsReader w.heap.size [] false [[]] v w' := by
  go_enter Try.func14, Try.ntmps14
  go_wp2
  go_returns
  exact ⟨_, rfl, ((Chg.refl _ _).alloc _).alloc _, some ⟨w.heap.size + 1, 0, none⟩, 1, 1, [w.heap.size + 1], rfl, by simpa using Own.new (w.alloc _) 9 1 1 #[.string ⟨#[]⟩] rfl (by omega), by simp⟩

theorem s_NewReader {w : World} :
    Calls Try.prog 13 #[] w fun e w' => ∃ v, e = .returned v ∧ Chg [] w w' ∧ IsReader w.heap.size [] false [[]] v w' := by
  go_enter Try.func13, Try.ntmps13
  go_wp2
  go_returns
  exact ⟨_, rfl, ((Chg.refl _ _).alloc _).alloc _, some ⟨w.heap.size + 1, 0, none⟩, 1, 1, [w.heap.size + 1], rfl, by simpa using Own.new (w.alloc _) 9 1 1 #[.string ⟨#[]⟩] rfl (by omega), by simp⟩
end Go.Proofs.Ytpjaemdoebgpiaa
