/- Any two words are equal by their numbers, alike by all they have, and pointers by their cells. No condition. -/
import Derived.Test.YthllggfimndklabQTagLikesx4
namespace Go.Proofs.Ythllggfimndklab.Pure
open Go.Proofs.Ythllggfimndklab.QTagLikes
theorem TagLikes : warrenerlaw15_TagLikes.Pure := fun _ _ _ _ => rfl
end Go.Proofs.Ythllggfimndklab.Pure
