/- Slices whose elements' slices can be copied at once. Plain lemmas; no condition. -/
import Derived.Test.YtjpaopcagomoiaaMDe
import Derived.Test.YtjpaopcagomoiaaMSm
set_option linter.unusedVariables false
set_option linter.unusedSimpArgs false
namespace Go.E
open Go
def Sms {α : Type} (h : Hp) (ro : α → List Nat) (ps : List (α × Lf)) : Prop := ∀ i (hi : i < ps.length), Sm h ps[i].2 (ro ps[i].1)
theorem Sms.kept {α : Type} {h g : Hp} {ro : α → List Nat} {ps : List (α × Lf)} (s : Sms h ro ps) (k : Kept h g) : Sms g ro ps := fun i hi => (s i hi).kept k
theorem Sms.new {α : Type} {h g : Hp} {l : Lf} {ty sz : Nat} {ce : α × Lf → List Lf} {ro : α → List Nat} {ps : List (α × Lf)} (hD : NewD h g l ty sz ce ro 53 ps) : Sms g ro ps := fun i hi => Sm.new (hD.inn _ (List.getElem_mem hi))
end Go.E
