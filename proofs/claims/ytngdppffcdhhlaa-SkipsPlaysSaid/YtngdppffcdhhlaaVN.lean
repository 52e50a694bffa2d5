/- Pointers that are not nil are compared with nil. No condition. -/
import Derived.Test.YtngdppffcdhhlaaVW
namespace Go.PBYtngdppffcdhhlaa
open Go Go.RowKit
set_option linter.unusedVariables false
section
variable {P : Program} {n : Nat} {S : List Nat} {w0 : World} {env : Env} {L : List Res}
variable {d : Tmp} {ty : TypeId} {pos : String} {af : Array Edge} {g : Option (Nat × Bool)}
theorem run_eqPN {T e : TypeId} {ad : Addr} (hT : P.underlying T = some (.pointer e)) (w : World) : (Op.equal T (.pointer (some ad)) (.pointer none)).run P w = .ok false w := by
  show (Op.equalIn (9999 + 1) T (.pointer (some ad)) (.pointer none)).run P w = _
  unfold Op.equalIn
  simp [run_underlying hT]
theorem q_eqPN {T T' e : TypeId} {x y : Operand} {ad : Addr} (hT : P.underlying T = some (.pointer e)) (hx : evalE env x = some (.pointer (some ad))) (hy : evalE env y = some (.pointer none)) :
    QT P n S w0 { dst := some d, op := .binOp .eql T x y T', type := ty, pos, after := af, guard := g } env L (.val (.bool false)) :=
  q_bin hx hy fun w => by
    have h2 : eqGuard .eql T x y (.pointer (some ad)) (.pointer none) = pure () := rfl
    have h3 : binOp .eql T (.pointer (some ad)) (.pointer none) = (do pure (.bool (← Op.equal T (.pointer (some ad)) (.pointer none)))) := rfl
    rw [h2, h3]
    simp [run_eqPN hT]
theorem q_nePN {T T' e : TypeId} {x y : Operand} {ad : Addr} (hT : P.underlying T = some (.pointer e)) (hx : evalE env x = some (.pointer (some ad))) (hy : evalE env y = some (.pointer none)) :
    QT P n S w0 { dst := some d, op := .binOp .neq T x y T', type := ty, pos, after := af, guard := g } env L (.val (.bool true)) :=
  q_bin hx hy fun w => by
    have h2 : eqGuard .neq T x y (.pointer (some ad)) (.pointer none) = pure () := rfl
    have h3 : binOp .neq T (.pointer (some ad)) (.pointer none) = (do pure (.bool (!(← Op.equal T (.pointer (some ad)) (.pointer none))))) := rfl
    rw [h2, h3]
    simp [run_eqPN hT]
end
end Go.PBYtngdppffcdhhlaa
