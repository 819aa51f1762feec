/- unicode/utf8.DecodeRuneInString: its contract in the printed form, beside the tables that it reads. -/
import Derived.Test.YtnfbbnmdlcmifaaDoorM0
import Derived.Test.YtnfbbnmdlcmifaaDoorShelf
import Derived.Shelf.Unicode.DecodeAny
namespace Go.Proofs.YtnfbbnmdlcmifaaDoor.M
open Go.RowKit Go.Proofs.YtnfbbnmdlcmifaaDoorW.PrintWords Go.Proofs.YtnfbbnmdlcmifaaDoorW.PrintLast Go.Proofs.YtnfbbnmdlcmifaaDoorW.PrintMore
set_option linter.unusedVariables false
set_option linter.unusedSimpArgs false

/-- The two tables of unicode/utf8 hold what the library's text lays. -/
def Tabs (w : World) : Prop := Lib.Utf8Tabs (Shelf.lays_ren.g 3) (Shelf.lays_ren.g 4) w
theorem tabs_b {w w' : World} (h : Tabs w) (hb : Below w.heap.size w w') : Tabs w' := Go.Proofs.Utf8Tabs_below h hb
def utf8_DecodeRuneInString.f (a0 : ByteArray) : Option (Int × Int) := some (((Lib.decodeGo a0).1 : Int), ((Lib.decodeGo a0).2 : Int))
theorem utf8_DecodeRuneInString.calls (a0 : ByteArray) (r1 r2 : Int) (w : World) (hT_ : Tabs w) (h : utf8_DecodeRuneInString.f a0 = some (r1, r2)) :
    Calls Tryd.prog 23 #[.string a0] w fun e w' => e = .returned (.tuple #[.int .i32 r1, .int .i64 r2]) ∧ Below w.heap.size w w' := by
  simp only [utf8_DecodeRuneInString.f, Option.some.injEq, Prod.mk.injEq] at h
  obtain ⟨rfl, rfl⟩ := h
  exact Any.utf8_DecodeRuneInString Shelf.lays a0 w hT_
#print axioms utf8_DecodeRuneInString.calls
end Go.Proofs.YtnfbbnmdlcmifaaDoor.M
