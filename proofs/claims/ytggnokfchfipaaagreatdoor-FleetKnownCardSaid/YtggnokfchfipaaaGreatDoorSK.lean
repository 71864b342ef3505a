/- slices.Sorted at the keys of a map from int: the library's contract laid at this translation (written plain by lay-plain.mjs). No conditions. -/
import Derived.Test.YtggnokfchfipaaaGreatDoorEv6
import Derived.Shelf.Lay
import Derived.Shelf.LaySoft
import Derived.Shelf.SlIterI.Nil
import Derived.Shelf.SortM.Plain
import Derived.Shelf.SortM.SortNone
import Derived.Ground.GgzProg
import Derived.Ground.SlgmProg
import Derived.Test.YtggnokfchfipaaaGreatDoorProg
namespace Go.Proofs.YtggnokfchfipaaaGreatDoor.Q
open Go.RowKit Go.Maps Go.Sort Go.Shelf
shelf_lay_g SlLaysZI.n7 Ggz 7 at Tryz 220 as Tryz.keysI
shelf_lay_g SlLaysZI.n6 Ggz 6 at Tryz 219 as Tryz.sortedI
shelf_lay_g SlLaysM.n5 Slgm 5 at Tryz 339 as Tryz.sortI
theorem sortsIn (m : Nat) : AnyZI.SortsIn Tryz.prog Tryz.sortedI_ren Fence.wide m :=
  ⟨fun blk off cap ss W hH hblk hsz => callsIn_wide.2 (AnyM.slices_Sort_int Tryz.sortI blk off cap ss W hH hblk hsz),
   fun p cap W => callsIn_wide.2 (AnyM.slices_Sort_int_none Tryz.sortI p cap W)⟩
theorem sorts219 : Ev.SrRow Tryz.prog 219 (340, true) :=
  Ev.srRow_int (Ev.sorts_int (ρk := Tryz.keysI_ren) (ρs := Tryz.sortedI_ren) { Tryz.keysI with } Tryz.sortedI (sortsIn 4)
    (enters_of Tryz.func339 (by kernel_rfl) rfl) (enters_of Tryz.func340 (by kernel_rfl) rfl))
end Go.Proofs.YtggnokfchfipaaaGreatDoor.Q
