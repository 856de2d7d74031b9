/- Small words beside the print's: a store leaves each cell a cell. Conditions: none. -/
import Derived.Test.YtopddfiiglookaaWMore
namespace Go.Proofs.YtopddfiiglookaaW.PrintMore2
open Go
theorem isSome_setCell (w : World) (a b : Addr) (v : Value) : ((w.setCell b v).cell? a).isSome = (w.cell? a).isSome := by
  unfold World.cell? World.setCell
  simp only [Array.getElem?_modify]
  by_cases e : b.block = a.block
  · rw [if_pos e]
    cases h : w.heap[a.block]? with
    | none => rfl
    | some o =>
      cases o with
      | cells c t f =>
        simp only [Option.map_some]
        by_cases hs : a.spot.isSome = true
        · simp [hs]
        · by_cases hb : b.spot.isSome = true
          · simp [hs, hb]
          · simp only [hs, hb]
            simp [Array.getElem?_setIfInBounds]
            split
            · split <;> simp_all
            · rfl
      | _ => rfl
  · rw [if_neg e]
end Go.Proofs.YtopddfiiglookaaW.PrintMore2
