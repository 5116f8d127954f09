/- Any number that has room in so many octets is read, with its sign, as it was put, whatever follows. No condition: the walk itself shows it. -/
import Derived.Test.YthllggfimndklacQOctetBackx2
namespace Go.Proofs.Ythllggfimndklac.Pure
open Go.Proofs.Ythllggfimndklac.QOctetBack

theorem OctetBack : warrenerlaw02_OctetBack.Pure := fun _ _ _ _ _ _ => rfl

end Go.Proofs.Ythllggfimndklac.Pure
