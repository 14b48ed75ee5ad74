/-
  The layings of the sorts stand in the Shelf text.
-/
import Derived.Test.YtignbinlipkmfaaGreatDoorShelf
