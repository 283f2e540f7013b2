/- PutNum, PutText of the program and of the reference tell the same. No condition. -/
import Derived.Test.YtonmohpdmhfjnaaGreatDoorPBase
import Derived.Test.YtonmohpdmhfjnaaGreatDoorPMImplIn
import Derived.Test.YtonmohpdmhfjnaaGreatDoorPMSpecIn
import Derived.Test.YtonmohpdmhfjnaaGreatDoorTMe1
import Derived.Test.YtonmohpdmhfjnaaGreatDoorTMe2
import Derived.Test.YtonmohpdmhfjnaaGreatDoorTMe3
namespace Go.Proofs.YtonmohpdmhfjnaaGreatDoor.E.TM
open Go.Proofs.YtonmohpdmhfjnaaGreatDoor.E
set_option linter.unusedVariables false
def putNum : Nat → Int → List Int
  | 0, n => [n % 256]
  | d + 1, n => if n > 127 then (n % 128 + 128) :: putNum d (n / 128) else [n % 256]
def putNumOf (n : Int) : List Int := if 0 ≤ n ∧ n ≤ 4611686018427387903 then putNum 8 n else []
def putText (s : List Int) : List Int := putNumOf s.length ++ s
end Go.Proofs.YtonmohpdmhfjnaaGreatDoor.E.TM
