/-
  Closed facts for this law.
-/
import Derived.Test.YtaapnlnileblaaaGreatDoorPSfStoreOffersa
namespace Go.Proofs.YtaapnlnileblaaaGreatDoor.L
open Go Go.Proofs.YtaapnlnileblaaaGreatDoor Go.Proofs.YtaapnlnileblaaaGreatDoor.G Go.Proofs.YtaapnlnileblaaaGreatDoor.W
set_option maxRecDepth 100000
theorem storeOffers_f3:(Rows.storeOffersRow.recurses==Tryz.prog.recurses 4)=true:=by kernel_rfl
theorem storeOffers_f4:(Rows.storeOffersRow.named==Tryz.prog.varsNamed 4)=true:=by kernel_rfl
end Go.Proofs.YtaapnlnileblaaaGreatDoor.L
