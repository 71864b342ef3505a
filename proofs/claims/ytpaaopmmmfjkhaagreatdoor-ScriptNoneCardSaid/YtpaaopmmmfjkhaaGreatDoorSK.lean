/- slices.Sorted at the keys of maps from texts and from ints: the library's contracts laid at this translation (written plain by lay-plain.mjs). No conditions. -/
import Derived.Test.YtpaaopmmmfjkhaaGreatDoorEx6
import Derived.Shelf.Lay
import Derived.Shelf.LaySoft
import Derived.Shelf.SlIter.Nil
import Derived.Shelf.SlIterI.Nil
import Derived.Shelf.SortM.Plain
import Derived.Shelf.SortM.SortNone
import Derived.Ground.GgzProg
import Derived.Ground.SlgmProg
import Derived.Test.YtpaaopmmmfjkhaaGreatDoorProg
namespace Go.Proofs.YtpaaopmmmfjkhaaGreatDoor.Q
open Go.RowKit Go.Maps Go.Sort Go.Shelf
shelf_lay_g SlLaysZI.n7 Ggz 7 at Tryz 368 as Tryz.keysI
shelf_lay_g SlLaysZI.n6 Ggz 6 at Tryz 367 as Tryz.sortedI
shelf_lay_g SlLaysM.n5 Slgm 5 at Tryz 475 as Tryz.sortI
shelf_lay_g SlLaysZ.n7 Ggz 7 at Tryz 496 as Tryz.keysS
shelf_lay_g SlLaysZ.n6 Ggz 6 at Tryz 495 as Tryz.sortedS
shelf_lay_g SlLaysM.n6 Slgm 6 at Tryz 586 as Tryz.sortS
theorem sortsIn (m : Nat) : AnyZI.SortsIn Tryz.prog Tryz.sortedI_ren Fence.wide m :=
  ⟨fun blk off cap ss W hH hblk hsz => callsIn_wide.2 (AnyM.slices_Sort_int Tryz.sortI blk off cap ss W hH hblk hsz),
   fun p cap W => callsIn_wide.2 (AnyM.slices_Sort_int_none Tryz.sortI p cap W)⟩
theorem sortsInS (m : Nat) : AnyZ.SortsIn Tryz.prog Tryz.sortedS_ren Fence.wide m :=
  ⟨fun blk off cap ss W hH hblk hsz => callsIn_wide.2 (AnyM.slices_Sort_string Tryz.sortS blk off cap ss W hH hblk hsz),
   fun p cap W => callsIn_wide.2 (AnyM.slices_Sort_string_none Tryz.sortS p cap W)⟩
theorem sorts367 : Ev.SrRow Tryz.prog 367 (476, true) :=
  Ev.srRow_int (Ev.sorts_int (ρk := Tryz.keysI_ren) (ρs := Tryz.sortedI_ren) { Tryz.keysI with } Tryz.sortedI (sortsIn 4)
    (enters_of Tryz.func475 (by kernel_rfl) rfl) (enters_of Tryz.func476 (by kernel_rfl) rfl))
theorem sorts495 : Ev.SrRow Tryz.prog 495 (587, false) :=
  Ev.srRow_str (Ev.sorts_str (ρk := Tryz.keysS_ren) (ρs := Tryz.sortedS_ren) { Tryz.keysS with } Tryz.sortedS (sortsInS 4)
    (enters_of Tryz.func586 (by kernel_rfl) rfl) (enters_of Tryz.func587 (by kernel_rfl) rfl))
end Go.Proofs.YtpaaopmmmfjkhaaGreatDoor.Q
