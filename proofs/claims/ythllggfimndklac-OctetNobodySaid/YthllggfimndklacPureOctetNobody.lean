/- Nil, or a reader that New did not make, reads nothing. No condition: the walk itself shows it. -/
import Derived.Test.YthllggfimndklacQOctetNobodyx1
namespace Go.Proofs.Ythllggfimndklac.Pure
open Go.Proofs.Ythllggfimndklac.QOctetNobody

theorem OctetNobody : warrenerlaw02_OctetNobody.Pure := fun _ _ => rfl

end Go.Proofs.Ythllggfimndklac.Pure
