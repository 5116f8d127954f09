/- Any number, of any width, behind any octets, is as the page says; the octets stay. No condition: the walk itself shows it. -/
import Derived.Test.YthllggfimndklacQOctetPutsx2
namespace Go.Proofs.Ythllggfimndklac.Pure
open Go.Proofs.Ythllggfimndklac.QOctetPuts

theorem OctetPuts : warrenerlaw02_OctetPuts.Pure := fun _ _ _ _ _ _ => rfl

end Go.Proofs.Ythllggfimndklac.Pure
