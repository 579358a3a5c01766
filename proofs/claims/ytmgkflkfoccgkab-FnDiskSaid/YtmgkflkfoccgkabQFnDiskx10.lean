-- Written by this session's own program (wip/x/xprint.py, over the kit's printer); Lean checks it.
import Derived.Test.YtmgkflkfoccgkabQFnDiskx0
namespace Go.Proofs.Ytmgkflkfoccgkab.QFnDisk
open Go.RowKit Go.Proofs.YtmgkflkfoccgkabW.PrintWords Go.Proofs.YtmgkflkfoccgkabW.PrintLast Go.Proofs.YtmgkflkfoccgkabW.PrintMore
attribute [local go_sem] max2_int min2_int max_two min_two max_three min_three max_four min_four   -- for this text's walks alone
set_option linter.unusedVariables false
set_option linter.unusedSimpArgs false

/-! ### strings_Repeat: function 45, by the kit's own contract -/
open Go.Shelf in
shelf_lay Lays.n105 Nm 105 at Try as Try.laysRepeat
theorem Try.extraRepeat:Builder.Extra Try.prog Try.laysRepeat_ren where
 sizeBuilder:=by kernel_rfl
 liesBuilder:=by kernel_rfl
 t5:=Try.laysRepeat.t5
 a5:=Try.laysRepeat.a5
 z5:=Try.laysRepeat.z5
 v5:=Try.laysRepeat.v5
 infoByte:=by kernel_rfl
 cellsByte:=by kernel_rfl
 sizeByte:=by kernel_rfl
 neB5:=by decide
theorem Try.fRepeat:Try.laysRepeat_ren.f 105 = 45:=by kernel_rfl
def strings_Repeat.f (l0:ByteArray) (a1:Int):Option (ByteArray):=if 0 ≤ a1 ∧ a1 ≤ 9223372036854775807 ∧ l0.size * a1.toNat ≤ 140737488355328 then some ⟨(Lib.repeatL l0.data.toList a1.toNat).toArray⟩ else none
theorem strings_Repeat.calls (l0:ByteArray) (a1:Int) (r:ByteArray) (w:World) (h:strings_Repeat.f l0 a1 = some r) :
  Calls Try.prog 45 #[.string l0,.int .i64 a1] w fun e w'=>e = .returned (.string r) ∧ Below w.heap.size w w':=by
 unfold strings_Repeat.f at h
 split at h
 ·rename_i g
  obtain ⟨c,rfl⟩:∃ c:Nat,a1 = (c:Int):=⟨a1.toNat,by omega⟩
  have h':=Any.strings_Repeat Try.laysRepeat Try.extraRepeat l0 c w (by omega) (by simpa using g.2.2)
  rw [Try.fRepeat] at h'
  obtain rfl:=Option.some.inj h
  exact h'
 ·simp at h

end Go.Proofs.Ytmgkflkfoccgkab.QFnDisk
