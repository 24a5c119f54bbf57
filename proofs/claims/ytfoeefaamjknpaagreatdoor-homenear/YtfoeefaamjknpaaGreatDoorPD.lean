/-
  The outdoor energy of a home, the reference's. No condition but the theorems' own. Homes and zones of the program's own; what is wrong with zones; the zone of an energy: both sides. No condition but the theorems' own. The zone of an energy, and whether a home is eligible: both sides. No condition but the theorems' own. HomeZones returns true. No condition but the theorems' own.
-/
import Derived.Test.YtfoeefaamjknpaaGreatDoorPC
import Derived.Test.YtfoeefaamjknpaaGreatDoorAvD
import Derived.Test.YtfoeefaamjknpaaGreatDoorPB
namespace Go.Proofs.YtfoeefaamjknpaaGreatDoor
open Go Go.Av Go.RowKit
end Go.Proofs.YtfoeefaamjknpaaGreatDoor
namespace Go.Proofs.YtfoeefaamjknpaaGreatDoor
open Go Go.Av Go.RowKit
end Go.Proofs.YtfoeefaamjknpaaGreatDoor
namespace Go.Proofs.YtfoeefaamjknpaaGreatDoor
open Go Go.Av Go.RowKit
end Go.Proofs.YtfoeefaamjknpaaGreatDoor
namespace Go.Proofs.YtfoeefaamjknpaaGreatDoor
open Go Go.Av Go.RowKit
structure K5 (l : List Zn) (h : Hm) : Prop where
  kl : l.length ≤ 7
  kn : ∀ x, x ∈ l → x.nm.length ≤ 1000
  ko : h.nm.length ≤ 40
  kw : h.ws.length ≤ 9
end Go.Proofs.YtfoeefaamjknpaaGreatDoor
