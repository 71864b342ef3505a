/- FleetNone: closed facts of the row that are too great for the kernel in one piece, out of tables that are looked at part by part. No conditions. -/
import Derived.Test.YtlokchnadeldgaaGreatDoorRows
import Derived.JoinedOf
import Derived.KernelRfl
set_option linter.unusedVariables false
set_option maxRecDepth 100000
namespace Go.Proofs.YtlokchnadeldgaaGreatDoor.Facts
open Go
noncomputable abbrev P : Program := Tryz.pinned.checked.prog
theorem ch {a k : Nat} {p : Nat → Bool} (h : (List.range' a k).all p = true) {g : Nat} (h1 : a ≤ g) (h2 : g < a + k) : p g = true := List.all_eq_true.1 h g (List.mem_range'_1.2 ⟨h1, h2⟩)
def eqN : List Nat → List Nat → Bool
  | [], [] => true
  | a :: l, b :: m => Nat.beq a b && eqN l m
  | _, _ => false
theorem eqN_eq : ∀ {l m : List Nat}, eqN l m = true → l = m
  | [], [], _ => rfl
  | a :: l, b :: m, h => by
    change (Nat.beq a b && eqN l m) = true at h
    simp only [Bool.and_eq_true] at h
    rw [Nat.eq_of_beq_eq_true h.1, eqN_eq h.2]
  | [], _ :: _, h => by cases h
  | _ :: _, [], h => by cases h
def hasN (x : Nat) : List Nat → Bool
  | [] => false
  | y :: l => match Nat.beq x y with
    | true => true
    | false => hasN x l
theorem hasN_contains (x : Nat) : ∀ l : List Nat, l.contains x = hasN x l
  | [] => rfl
  | y :: l => by
    show _ = (match Nat.beq x y with | true => true | false => hasN x l)
    rw [List.contains_cons, hasN_contains x l]
    cases hb : Nat.beq x y with
    | true => simp [Nat.eq_of_beq_eq_true hb]
    | false => simp [Nat.ne_of_beq_eq_false hb]
def at_ (T : List (List Nat)) (g : Nat) : List Nat := (T[g]?).getD []
def viaT (T : List (List Nat)) : Nat → List Nat → List Nat → List Nat
  | 0, _, seen => seen.reverse
  | n + 1, todo, seen => match todo with
    | [] => seen.reverse
    | f :: todo => match hasN f seen with
      | true => viaT T n todo seen
      | false => viaT T n (at_ T f ++ todo) (f :: seen)
theorem via_eq {Q : Program} {T : List (List Nat)} (h : ∀ g, (Q.funcs[g]?).elim [] Q.leadsTo = at_ T g) : ∀ n todo seen, Q.closureVia n todo seen = viaT T n todo seen
  | 0, _, _ => by simp [Program.closureVia, viaT]
  | n + 1, [], seen => by simp [Program.closureVia, viaT]
  | n + 1, f :: todo, seen => by
    rw [Program.closureVia]
    show _ = (match hasN f seen with | true => viaT T n todo seen | false => viaT T n (at_ T f ++ todo) (f :: seen))
    rw [hasN_contains, via_eq h n, via_eq h n, h]
    cases hasN f seen <;> simp
theorem sum_eq {Q : Program} {T : List (List Nat)} (h : ∀ g, (Q.funcs[g]?).elim [] Q.leadsTo = at_ T g) (hs : Q.funcs.size = T.length) : (Q.funcs.toList.map fun g => (Q.leadsTo g).length + 1) = T.map fun l => l.length + 1 := by
  apply List.ext_getElem?
  intro g
  rw [List.getElem?_map, List.getElem?_map, Array.getElem?_toList]
  have hg := h g
  unfold at_ at hg
  by_cases hlt : g < Q.funcs.size
  · rw [Array.getElem?_eq_getElem hlt] at hg ⊢
    rw [List.getElem?_eq_getElem (by omega)] at hg ⊢
    simp only [Option.elim_some, Option.getD_some] at hg
    simp only [Option.map_some, hg]
  · rw [Array.getElem?_eq_none (by omega), List.getElem?_eq_none (by omega)]; rfl
def leads : List (List Nat) := [[], [], [1], [5, 6, 7, 8, 9, 10, 11, 8, 12, 6, 13, 14, 15, 6, 16, 17, 18, 19], [20, 21, 22, 23, 24, 26, 25, 27, 28, 21], [29, 30, 15, 10], [31, 32], [33, 34, 35, 36], [37, 38, 40, 39, 41, 42], [33, 43, 44, 42, 45, 46, 47], [33, 42, 42, 48], [50, 53, 49], [54], [55, 57, 56], [58, 59, 60, 61, 62], [16], [63], [5, 8, 11, 8, 8, 6, 12, 6], [33, 40, 64, 41, 42], [33, 42], [65], [66, 23, 24, 68, 67, 28, 69, 22, 70, 22, 26, 27], [71, 72, 73], [71, 74], [71, 72], [75, 76, 77, 78], [24, 6], [71, 72, 79], [71, 80], [], [62], [], [81, 82, 83, 44], [31, 63, 84], [85, 86, 87, 87, 88, 89, 90], [91, 92, 93, 80, 94], [95, 96, 97, 98, 99, 100], [33], [101, 102, 79, 103, 104, 105, 113, 112, 114, 112, 111], [102, 115, 116, 117], [], [118], [44, 119, 120, 121], [122, 123], [81, 124, 82, 125], [126], [129, 130, 42, 131], [122, 132, 133, 133], [134, 135], [136, 138, 137], [51, 52], [139, 140], [141], [143], [144, 144, 145, 145, 9, 9], [], [146], [], [], [58, 148, 147], [149], [151, 150], [152], [154, 153], [156, 157, 158, 159, 160, 161, 80, 162], [], [163, 70, 22, 70, 22], [], [26], [], [], [], [], [164, 165, 166, 167, 167, 167, 167, 167, 168, 168, 168, 168, 168, 168, 169, 170, 170, 170, 171, 172, 173], [], [174], [175, 176], [176], [], [136, 51], [], [124, 124, 124, 124, 156, 102, 177, 179, 178, 180], [181, 182, 183, 184, 80, 185, 80, 185, 186], [187, 188, 189, 190, 191], [192], [91], [91], [], [193, 194, 118, 195], [196, 96, 97, 97, 97, 97, 98, 99], [91, 93, 80], [], [197], [], [151, 198], [199], [], [201, 200], [200, 201], [202], [203], [204], [205, 206, 208, 207], [209], [210, 211, 212, 213], [106], [107, 108, 109, 110], [51], [136], [215, 214, 216], [217], [218], [], [219], [220], [157], [102, 157, 158, 159, 221, 80, 162, 222, 223], [109], [162, 224, 225, 96, 97, 97, 226, 98, 98, 99], [191, 96, 97, 189, 99], [227, 228, 231, 230, 229], [227, 228, 232, 229], [], [80, 185], [], [233, 234, 235, 236, 237, 238, 239, 240], [128, 127], [241, 242], [243], [], [244], [244], [245], [246], [61], [], [], [], [51], [248, 247], [80], [142], [207, 158, 159, 249, 139, 250, 251, 140, 252, 253, 254], [], [33, 45, 255], [7, 256], [], [258, 257, 260, 259], [], [], [], [], [], [261, 262], [155], [263, 264, 265, 266, 32, 267, 268, 42, 48], [269, 270, 206], [], [271, 272], [273], [275, 274], [277, 276], [278, 279, 280, 281, 282], [283, 284, 285], [286, 283, 285, 287, 287], [288, 289], [290, 289], [11, 291, 204, 292, 293], [8, 294, 9, 144, 295, 18], [7, 133], [296, 24, 256], [263], [14], [285, 287], [175, 176], [297], [], [298, 299, 157, 157, 300], [301], [], [55], [], [], [], [], [], [185], [202], [302], [303, 118, 304, 305, 306, 224, 307, 308, 225, 309, 310, 308, 225, 309, 310, 310, 310, 310, 310, 310], [311], [110, 110, 124, 162, 158, 159, 55, 157, 55, 124, 124, 124], [], [313, 312, 186], [314, 315, 301], [317, 80], [], [], [], [], [], [318], [], [320, 319], [321, 53, 49], [158, 159, 55], [212], [158, 159, 206, 249], [216], [], [], [323, 322], [325, 325, 324, 326], [], [], [], [80, 185], [328, 328, 329, 330], [], [], [], [102, 158, 331, 332], [55, 157, 332], [102, 205, 216, 206, 216, 333, 102], [159, 96, 97, 97, 98, 99], [55, 334, 334, 334, 335], [98], [192, 336, 153], [], [], [337, 338, 80, 339], [340, 203, 340], [337, 341, 342, 60], [162, 343, 222, 344], [162, 343], [344], [186, 180, 345], [193, 346, 345], [347, 348], [124], [349], [350], [323, 351], [], [], [352], [], [], [], [353, 139], [251, 355, 354], [140], [], [206, 206], [357, 358], [91, 93], [33, 359, 360, 361, 360, 362, 363, 364, 365], [366, 367], [368], [369], [], [370], [371, 372, 261, 61], [58, 261, 62], [81], [373, 336, 153], [192], [], [38, 373, 374, 375, 376, 377], [378], [162, 300, 379, 178], [381], [382, 383, 384], [], [], [], [162, 332, 222], [387, 386], [157], [158], [159], [55], [388], [30, 29], [], [16], [389, 390, 391], [24, 392, 6, 393, 19, 6, 395, 394, 10], [389, 390, 74], [287], [389, 390, 390, 396, 393, 74], [397, 53, 49], [398, 53, 49], [400, 402, 49], [37, 403, 404, 405, 407, 408, 377, 376, 377], [33, 42], [], [], [], [], [409], [], [], [410, 411], [187, 188, 188, 414, 412, 412, 190, 307, 309, 162], [415, 416], [418, 419], [187, 188, 188, 412, 190, 159], [421, 422], [424, 317, 424, 424, 55], [425, 426], [302], [], [], [156, 180, 429, 428, 427, 430], [316], [431], [432], [], [434, 433, 435], [], [51, 52], [436, 437, 438, 439, 440, 441, 442, 443, 322, 322], [444, 318], [], [445], [327], [446, 446], [447, 447], [448], [], [158, 356, 356], [449, 450], [451, 452], [], [453], [228, 454, 454, 455, 340, 231, 456, 406, 232], [58, 261], [457, 458], [341], [], [92, 61, 459, 133], [], [460], [223], [347, 461], [180, 157, 222, 462], [463, 464], [], [177, 184, 298, 299, 465, 466], [], [467, 468, 469, 470, 471, 472, 473, 474, 475, 351, 351], [], [476], [247], [356], [158, 158, 477, 478], [], [479], [100, 480, 187, 188, 188, 412, 190, 95], [91], [91, 481, 61, 61, 92, 459, 80], [482, 483], [484, 485, 486], [91], [187, 188, 188, 487, 190, 196], [488], [323, 489], [], [], [], [490], [491], [337, 458, 80], [187, 414, 412, 412, 188, 190, 307, 309, 492], [493, 102, 492, 79, 51, 110, 494, 108, 494, 494], [42], [495, 232], [], [380], [162, 162, 13], [496], [500, 499, 501, 503, 502, 505, 504], [506], [385], [507], [509, 510, 508], [331], [512, 511], [390, 396], [], [513], [], [514], [312], [], [515], [51, 52], [399], [207, 158, 139, 251, 516, 354], [401], [207, 158, 158, 139, 139, 356, 249, 251, 356, 158, 517, 253], [356], [518], [492, 224, 225, 96, 226, 98, 98, 97, 99], [406], [337, 338, 458, 80, 339], [232], [493, 492, 80, 519], [328, 328, 330], [98], [412, 413], [302, 188, 202], [], [412], [226], [414, 417], [], [98], [412, 420], [], [98], [412, 423], [], [], [97], [188, 417], [520, 521], [522], [523, 386], [328, 328, 330], [], [], [], [524], [], [], [525, 525], [526, 527], [528, 528, 528, 529], [], [], [], [], [], [530, 531, 498], [], [], [], [55, 55, 185, 185, 532], [], [], [533], [], [373], [534, 535], [534, 535, 535], [58, 261, 536, 147], [342, 149], [537], [156, 162, 538, 178, 269, 206, 539, 539, 540, 539, 509], [541, 542], [185], [], [328], [543], [544, 545, 546, 547, 548], [473], [549, 549], [526, 527], [550, 550, 550, 551], [], [473, 473, 473], [447, 447], [473, 473], [473, 473, 473, 473], [158, 552], [553], [554], [555, 555, 555], [], [62, 61], [], [556], [557, 304, 558], [482], [482, 42], [559, 560], [], [561, 562, 563, 564, 565, 566, 567, 568, 569, 489, 489], [570, 571, 572, 573, 574], [575, 570, 576, 577, 572], [158, 159, 55], [38], [], [373, 339], [497, 498], [578], [579], [], [], [], [580], [580], [497, 385], [581, 385], [582], [583, 584, 583, 585, 586], [301], [80, 185], [], [55], [], [], [], [587], [356], [323, 588], [38, 589], [590, 53, 49], [591], [323, 592], [], [13], [], [], [323], [], [529], [593, 593, 593], [594, 497], [594, 595, 498], [596, 596, 597, 598, 598], [599, 599, 599], [600], [], [458], [], [], [601], [602], [], [603], [], [604], [605, 300], [323, 606], [328, 328, 328, 328, 330], [], [473, 473], [551], [607, 607, 607], [608], [554], [], [], [], [556, 196, 483, 483], [122, 41, 132, 609, 162, 123, 133, 133, 610], [], [188, 188, 412], [567], [611, 611], [526, 527], [612, 612, 612, 613], [], [567, 567, 567], [446, 446], [567, 567], [567, 567, 567, 567], [], [], [], [], [614, 571, 615, 616, 571, 617, 618, 617, 616, 576, 572, 573], [], [], [619, 571, 620, 620], [], [621, 586, 621, 585, 586, 622], [], [623, 497], [], [621], [], [], [], [390], [624, 625, 626, 627, 628, 629, 630, 631, 588, 588], [632, 633], [158, 159, 52, 250, 51, 399], [], [634, 635, 636, 637, 638, 639, 640, 641, 592, 592], [], [], [], [], [], [], [], [535, 203, 535], [], [270, 270, 643, 642, 645], [646, 646, 646], [], [162, 162, 380, 380, 110, 647, 647], [648, 649, 650, 651, 652, 653, 654, 655, 606, 606], [473], [], [122, 92, 92], [92, 459], [567, 567], [613], [656, 656, 656], [], [], [], [], [], [], [], [657], [658], [], [], [659, 659], [526, 527], [660, 660, 660, 661], [], [], [], [], [102, 178, 662, 663, 664, 665, 109, 332, 216], [108], [], [666, 666], [526, 527], [667, 667, 667, 668], [], [], [], [], [], [644], [669, 178, 181, 670, 508, 671, 672, 673], [80, 185], [], [356], [], [674, 674], [526, 527], [675, 675, 675, 676], [], [], [], [], [567], [], [], [], [661], [677, 677, 677], [162], [678], [681, 682, 683, 684, 685], [270, 276], [], [668], [686, 686, 686], [380], [380], [], [328, 328, 330], [687, 688], [], [676], [689, 689, 689], [], [104, 679, 680], [690], [300, 300], [691], [692, 178], [665, 109, 110, 694], [696, 695], [353, 109], [], [], [697], [], [634, 634, 698, 698], [699], [693], [605, 700], [701], [214], [356], [702, 702, 702], [703, 698, 698], [270, 645, 704, 705, 707, 110], [708, 709, 409, 710], [449, 711], [], [712, 712, 712], [323, 713], [706, 706], [217], [], [], [323, 714], [], [], [], [715, 716, 717, 718, 719, 720, 721, 722, 713, 713], [723, 724, 725, 726, 727, 728, 729, 730, 714, 714], [], [731, 731], [526, 527], [732, 732, 732, 733], [], [], [], [], [], [734, 734], [526, 527], [735, 735, 735, 736], [], [], [], [], [], [733], [737, 737, 737], [], [736], [738, 738, 738], [], [], [], [], [], [], [], [], [], [], [], [], [], [], [], [], [], [], [], [], [], [], [], [335], [], [], [80], [], [], [], [], [], [], [], [], []]
def globs : List (List Nat) := [[], [], [], [], [], [], [], [], [], [], [], [], [], [], [], [], [], [], [], [], [], [], [], [], [], [], [], [], [], [], [], [], [], [], [], [], [], [], [], [], [], [], [], [], [], [], [], [], [], [], [], [], [], [], [], [], [], [], [], [], [], [], [], [], [], [], [], [], [], [], [], [], [], [], [], [], [], [], [], [], [], [], [], [], [], [], [], [], [], [], [], [], [], [], [], [], [], [], [], [], [], [], [], [], [], [], [], [], [], [], [], [], [], [], [], [], [], [], [], [], [], [], [], [], [], [], [], [], [], [], [], [], [], [], [], [], [], [], [], [], [], [], [], [], [], [], [], [], [], [], [], [], [], [], [], [], [], [], [], [], [], [], [], [], [], [], [], [], [], [], [], [], [], [], [], [], [], [], [], [], [], [], [], [], [], [], [], [], [], [], [], [], [], [], [], [], [], [], [], [], [], [], [], [], [], [], [], [], [], [], [], [], [], [], [], [], [], [], [], [], [], [], [], [], [], [], [], [], [], [], [], [], [], [], [], [], [], [], [], [], [], [], [], [], [], [], [], [], [], [], [], [], [], [], [], [], [], [], [], [], [], [], [], [], [], [], [], [], [], [], [], [], [], [], [], [], [], [], [], [], [], [], [], [], [], [], [], [], [], [], [], [], [], [], [], [], [], [], [], [], [], [], [], [], [], [], [], [], [], [], [], [], [], [], [], [], [], [], [], [], [], [], [], [], [], [], [], [], [], [], [], [], [], [], [], [], [], [], [], [], [], [], [], [], [], [], [], [], [], [], [], [], [], [], [], [], [], [], [], [], [], [], [], [], [], [], [], [], [], [], [], [], [], [], [], [], [], [], [], [], [], [], [], [], [], [], [], [], [], [], [], [], [], [], [], [], [], [], [], [], [], [], [], [], [], [], [], [], [], [], [], [], [], [], [], [], [], [], [], [], [], [], [], [], [], [], [], [], [], [], [], [], [], [], [], [], [], [], [], [], [], [], [], [], [], [], [], [], [], [], [], [], [], [], [], [], [], [], [], [], [], [], [], [], [], [], [], [], [], [], [], [], [], [], [], [], [], [], [], [], [], [], [], [], [], [], [], [], [], [], [], [], [], [], [], [], [], [], [], [], [], [], [], [], [], [], [], [], [], [], [], [], [], [], [], [], [], [], [], [], [], [], [], [], [], [], [], [], [], [], [], [], [], [], [], [], [], [], [], [], [], [], [], [], [], [], [], [], [], [], [], [], [], [], [], [], [], [], [], [], [], [], [], [], [], [], [], [], [], [], [], [], [], [], [], [], [], [], [1, 2], [0, 0, 0], [], [], [], [], [], [], [], [], [], [], [], [], [], [], [], [], [], [], [], [], [], [], [], [], [], [], [], [], [], [], [], [], [], [], [], [], [], [], [], [], [], [], [], [], [], [], [], [], [], [], [], [], [], [], [], [], [], [], [], [], [], [], [], [], [], [], [], [], [], [], [], [], [], [], [], [], [], [], [], [], [], [], [], [], [], [], [], [], [], [], [], [], [], [], [], [], [], [], [], [], [], [], [], [], [], [], [], [], [], [], [], [], [], [], [], [], [], [], [], [], [], [], [], [], [], [], [], [], [], [], [], [], [], [], [], [], [], [], [], [], [], [], [], [], [], [], [], [], [], [], [], [], [], [], [], [], [], [], [], [], [], [], [], [], [], [], [], [], [], [], [], [], [], [], [], [], [], [], [], [], [], [], [], [], [], [], [], [], [], [], [], [], [2]]
def clo : List Nat := [4, 20, 65, 21, 66, 163, 283, 30, 62, 152, 29, 284, 285, 16, 63, 154, 155, 263, 58, 261, 370, 264, 81, 124, 156, 269, 378, 270, 162, 278, 157, 279, 158, 271, 381, 496, 497, 578, 498, 579, 621, 657, 586, 585, 622, 658, 272, 382, 500, 499, 501, 503, 580, 502, 505, 581, 623, 385, 507, 583, 584, 504, 383, 506, 582, 384, 280, 159, 273, 281, 55, 282, 388, 512, 511, 300, 409, 328, 447, 330, 379, 380, 13, 57, 56, 146, 178, 301, 206, 212, 325, 445, 530, 594, 531, 595, 324, 326, 327, 446, 102, 205, 208, 216, 80, 185, 207, 249, 353, 476, 552, 608, 139, 248, 247, 177, 298, 299, 179, 180, 265, 373, 337, 458, 342, 149, 336, 228, 454, 455, 534, 600, 535, 203, 320, 319, 434, 524, 433, 435, 340, 231, 456, 406, 338, 457, 536, 147, 258, 368, 257, 366, 488, 367, 323, 444, 318, 489, 561, 567, 562, 611, 563, 526, 527, 564, 612, 613, 656, 565, 566, 568, 569, 260, 259, 369, 339, 341, 92, 197, 61, 151, 150, 459, 537, 133, 246, 232, 60, 153, 262, 371, 490, 570, 571, 572, 573, 574, 614, 615, 616, 617, 618, 576, 372, 491, 575, 577, 619, 620, 266, 192, 32, 82, 181, 182, 183, 184, 186, 83, 187, 202, 188, 302, 189, 303, 410, 98, 200, 201, 411, 412, 413, 118, 224, 96, 97, 99, 225, 334, 335, 453, 226, 304, 414, 190, 311, 307, 309, 424, 317, 432, 305, 415, 416, 417, 306, 418, 419, 420, 308, 421, 422, 423, 310, 425, 426, 191, 110, 217, 329, 448, 44, 125, 233, 343, 460, 538, 539, 601, 540, 602, 643, 644, 669, 670, 508, 671, 672, 673, 687, 688, 697, 702, 642, 645, 509, 222, 332, 449, 532, 596, 597, 598, 450, 344, 223, 333, 451, 452, 533, 599, 234, 235, 236, 345, 347, 463, 464, 461, 541, 542, 603, 646, 237, 193, 313, 312, 346, 462, 238, 348, 239, 240, 349, 465, 543, 466, 544, 604, 545, 605, 647, 356, 477, 553, 554, 478, 546, 606, 648, 649, 674, 650, 651, 675, 676, 689, 652, 653, 654, 655, 547, 548, 267, 268, 38, 101, 204, 321, 51, 140, 52, 141, 142, 250, 251, 355, 354, 252, 253, 254, 357, 358, 479, 555, 53, 143, 49, 136, 138, 137, 79, 103, 209, 104, 210, 211, 322, 436, 437, 525, 438, 439, 528, 529, 593, 440, 441, 442, 443, 213, 105, 106, 107, 108, 109, 215, 214, 113, 219, 112, 114, 220, 111, 218, 374, 492, 375, 493, 494, 376, 42, 119, 120, 227, 230, 229, 121, 377, 495, 48, 134, 135, 70, 22, 71, 72, 73, 164, 286, 389, 390, 396, 515, 587, 391, 513, 287, 24, 392, 6, 31, 393, 514, 19, 33, 84, 395, 394, 10, 165, 288, 74, 289, 166, 290, 167, 11, 50, 291, 397, 292, 398, 399, 516, 293, 400, 401, 517, 588, 624, 625, 659, 626, 627, 660, 661, 677, 628, 629, 630, 631, 402, 168, 8, 37, 40, 39, 115, 116, 221, 331, 117, 41, 294, 403, 518, 589, 632, 662, 663, 678, 679, 690, 634, 698, 703, 712, 680, 664, 681, 691, 699, 704, 713, 715, 716, 731, 717, 718, 732, 733, 737, 719, 720, 721, 722, 705, 706, 707, 682, 692, 693, 700, 708, 709, 714, 723, 724, 734, 725, 726, 735, 736, 738, 727, 728, 729, 730, 710, 683, 665, 276, 694, 701, 711, 684, 696, 695, 685, 633, 404, 405, 407, 408, 519, 590, 9, 43, 122, 123, 45, 126, 128, 243, 127, 241, 350, 242, 351, 467, 473, 468, 549, 469, 470, 550, 551, 607, 471, 472, 474, 475, 46, 129, 130, 244, 131, 47, 132, 245, 352, 144, 255, 91, 93, 295, 18, 64, 160, 275, 274, 161, 277, 387, 386, 510, 169, 7, 34, 85, 86, 87, 88, 194, 314, 429, 523, 428, 522, 427, 520, 591, 521, 592, 635, 666, 636, 637, 667, 668, 686, 638, 639, 640, 641, 430, 315, 316, 431, 195, 89, 196, 90, 35, 94, 198, 36, 95, 199, 100, 170, 296, 256, 359, 480, 360, 361, 481, 362, 482, 483, 556, 363, 484, 557, 558, 609, 610, 485, 486, 364, 365, 487, 559, 560, 171, 172, 14, 59, 148, 173, 23, 68, 26, 67, 28, 69, 27, 25, 75, 174, 175, 297, 176, 76, 77, 78]
noncomputable def okL (g : Nat) : Bool := eqN ((P.funcs[g]?).elim [] P.leadsTo) (at_ leads g)
noncomputable def okG (g : Nat) : Bool := eqN (((P.funcs[g]?).bind (·.body)).elim [] Code.globalsNamed) (at_ globs g)
noncomputable def okR (t : Nat) : Bool := rowFine P t
theorem sizeF : P.funcs.size = 773 := by kernel_rfl
theorem sizeT : P.types.size = 803 := by kernel_rfl
theorem cl0 : (List.range' 0 40).all okL = true := by kernel_rfl
theorem cg0 : (List.range' 0 40).all okG = true := by kernel_rfl
theorem cl1 : (List.range' 40 40).all okL = true := by kernel_rfl
theorem cg1 : (List.range' 40 40).all okG = true := by kernel_rfl
theorem cl2 : (List.range' 80 40).all okL = true := by kernel_rfl
theorem cg2 : (List.range' 80 40).all okG = true := by kernel_rfl
theorem cl3 : (List.range' 120 40).all okL = true := by kernel_rfl
theorem cg3 : (List.range' 120 40).all okG = true := by kernel_rfl
theorem cl4 : (List.range' 160 40).all okL = true := by kernel_rfl
theorem cg4 : (List.range' 160 40).all okG = true := by kernel_rfl
theorem cl5 : (List.range' 200 40).all okL = true := by kernel_rfl
theorem cg5 : (List.range' 200 40).all okG = true := by kernel_rfl
theorem cl6 : (List.range' 240 40).all okL = true := by kernel_rfl
theorem cg6 : (List.range' 240 40).all okG = true := by kernel_rfl
theorem cl7 : (List.range' 280 40).all okL = true := by kernel_rfl
theorem cg7 : (List.range' 280 40).all okG = true := by kernel_rfl
theorem cl8 : (List.range' 320 40).all okL = true := by kernel_rfl
theorem cg8 : (List.range' 320 40).all okG = true := by kernel_rfl
theorem cl9 : (List.range' 360 40).all okL = true := by kernel_rfl
theorem cg9 : (List.range' 360 40).all okG = true := by kernel_rfl
theorem cl10 : (List.range' 400 40).all okL = true := by kernel_rfl
theorem cg10 : (List.range' 400 40).all okG = true := by kernel_rfl
theorem cl11 : (List.range' 440 40).all okL = true := by kernel_rfl
theorem cg11 : (List.range' 440 40).all okG = true := by kernel_rfl
theorem cl12 : (List.range' 480 40).all okL = true := by kernel_rfl
theorem cg12 : (List.range' 480 40).all okG = true := by kernel_rfl
theorem cl13 : (List.range' 520 40).all okL = true := by kernel_rfl
theorem cg13 : (List.range' 520 40).all okG = true := by kernel_rfl
theorem cl14 : (List.range' 560 40).all okL = true := by kernel_rfl
theorem cg14 : (List.range' 560 40).all okG = true := by kernel_rfl
theorem cl15 : (List.range' 600 40).all okL = true := by kernel_rfl
theorem cg15 : (List.range' 600 40).all okG = true := by kernel_rfl
theorem cl16 : (List.range' 640 40).all okL = true := by kernel_rfl
theorem cg16 : (List.range' 640 40).all okG = true := by kernel_rfl
theorem cl17 : (List.range' 680 40).all okL = true := by kernel_rfl
theorem cg17 : (List.range' 680 40).all okG = true := by kernel_rfl
theorem cl18 : (List.range' 720 40).all okL = true := by kernel_rfl
theorem cg18 : (List.range' 720 40).all okG = true := by kernel_rfl
theorem cl19 : (List.range' 760 13).all okL = true := by kernel_rfl
theorem cg19 : (List.range' 760 13).all okG = true := by kernel_rfl
theorem cr0 : (List.range' 0 40).all okR = true := by kernel_rfl
theorem cr1 : (List.range' 40 40).all okR = true := by kernel_rfl
theorem cr2 : (List.range' 80 40).all okR = true := by kernel_rfl
theorem cr3 : (List.range' 120 40).all okR = true := by kernel_rfl
theorem cr4 : (List.range' 160 40).all okR = true := by kernel_rfl
theorem cr5 : (List.range' 200 40).all okR = true := by kernel_rfl
theorem cr6 : (List.range' 240 40).all okR = true := by kernel_rfl
theorem cr7 : (List.range' 280 40).all okR = true := by kernel_rfl
theorem cr8 : (List.range' 320 40).all okR = true := by kernel_rfl
theorem cr9 : (List.range' 360 40).all okR = true := by kernel_rfl
theorem cr10 : (List.range' 400 40).all okR = true := by kernel_rfl
theorem cr11 : (List.range' 440 40).all okR = true := by kernel_rfl
theorem cr12 : (List.range' 480 40).all okR = true := by kernel_rfl
theorem cr13 : (List.range' 520 40).all okR = true := by kernel_rfl
theorem cr14 : (List.range' 560 40).all okR = true := by kernel_rfl
theorem cr15 : (List.range' 600 40).all okR = true := by kernel_rfl
theorem cr16 : (List.range' 640 40).all okR = true := by kernel_rfl
theorem cr17 : (List.range' 680 40).all okR = true := by kernel_rfl
theorem cr18 : (List.range' 720 40).all okR = true := by kernel_rfl
theorem cr19 : (List.range' 760 40).all okR = true := by kernel_rfl
theorem cr20 : (List.range' 800 3).all okR = true := by kernel_rfl
theorem ptL : ∀ g, g < 773 → okL g = true := by
  intro g hg
  rcases Nat.lt_or_ge g 40 with h0 | h0
  · exact ch cl0 (Nat.zero_le _) h0
  rcases Nat.lt_or_ge g 80 with h1 | h1
  · exact ch cl1 h0 h1
  rcases Nat.lt_or_ge g 120 with h2 | h2
  · exact ch cl2 h1 h2
  rcases Nat.lt_or_ge g 160 with h3 | h3
  · exact ch cl3 h2 h3
  rcases Nat.lt_or_ge g 200 with h4 | h4
  · exact ch cl4 h3 h4
  rcases Nat.lt_or_ge g 240 with h5 | h5
  · exact ch cl5 h4 h5
  rcases Nat.lt_or_ge g 280 with h6 | h6
  · exact ch cl6 h5 h6
  rcases Nat.lt_or_ge g 320 with h7 | h7
  · exact ch cl7 h6 h7
  rcases Nat.lt_or_ge g 360 with h8 | h8
  · exact ch cl8 h7 h8
  rcases Nat.lt_or_ge g 400 with h9 | h9
  · exact ch cl9 h8 h9
  rcases Nat.lt_or_ge g 440 with h10 | h10
  · exact ch cl10 h9 h10
  rcases Nat.lt_or_ge g 480 with h11 | h11
  · exact ch cl11 h10 h11
  rcases Nat.lt_or_ge g 520 with h12 | h12
  · exact ch cl12 h11 h12
  rcases Nat.lt_or_ge g 560 with h13 | h13
  · exact ch cl13 h12 h13
  rcases Nat.lt_or_ge g 600 with h14 | h14
  · exact ch cl14 h13 h14
  rcases Nat.lt_or_ge g 640 with h15 | h15
  · exact ch cl15 h14 h15
  rcases Nat.lt_or_ge g 680 with h16 | h16
  · exact ch cl16 h15 h16
  rcases Nat.lt_or_ge g 720 with h17 | h17
  · exact ch cl17 h16 h17
  rcases Nat.lt_or_ge g 760 with h18 | h18
  · exact ch cl18 h17 h18
  rcases Nat.lt_or_ge g 773 with h19 | h19
  · exact ch cl19 h18 h19
  · omega
theorem ptG : ∀ g, g < 773 → okG g = true := by
  intro g hg
  rcases Nat.lt_or_ge g 40 with h0 | h0
  · exact ch cg0 (Nat.zero_le _) h0
  rcases Nat.lt_or_ge g 80 with h1 | h1
  · exact ch cg1 h0 h1
  rcases Nat.lt_or_ge g 120 with h2 | h2
  · exact ch cg2 h1 h2
  rcases Nat.lt_or_ge g 160 with h3 | h3
  · exact ch cg3 h2 h3
  rcases Nat.lt_or_ge g 200 with h4 | h4
  · exact ch cg4 h3 h4
  rcases Nat.lt_or_ge g 240 with h5 | h5
  · exact ch cg5 h4 h5
  rcases Nat.lt_or_ge g 280 with h6 | h6
  · exact ch cg6 h5 h6
  rcases Nat.lt_or_ge g 320 with h7 | h7
  · exact ch cg7 h6 h7
  rcases Nat.lt_or_ge g 360 with h8 | h8
  · exact ch cg8 h7 h8
  rcases Nat.lt_or_ge g 400 with h9 | h9
  · exact ch cg9 h8 h9
  rcases Nat.lt_or_ge g 440 with h10 | h10
  · exact ch cg10 h9 h10
  rcases Nat.lt_or_ge g 480 with h11 | h11
  · exact ch cg11 h10 h11
  rcases Nat.lt_or_ge g 520 with h12 | h12
  · exact ch cg12 h11 h12
  rcases Nat.lt_or_ge g 560 with h13 | h13
  · exact ch cg13 h12 h13
  rcases Nat.lt_or_ge g 600 with h14 | h14
  · exact ch cg14 h13 h14
  rcases Nat.lt_or_ge g 640 with h15 | h15
  · exact ch cg15 h14 h15
  rcases Nat.lt_or_ge g 680 with h16 | h16
  · exact ch cg16 h15 h16
  rcases Nat.lt_or_ge g 720 with h17 | h17
  · exact ch cg17 h16 h17
  rcases Nat.lt_or_ge g 760 with h18 | h18
  · exact ch cg18 h17 h18
  rcases Nat.lt_or_ge g 773 with h19 | h19
  · exact ch cg19 h18 h19
  · omega
theorem ptR : ∀ g, g < 803 → okR g = true := by
  intro g hg
  rcases Nat.lt_or_ge g 40 with h0 | h0
  · exact ch cr0 (Nat.zero_le _) h0
  rcases Nat.lt_or_ge g 80 with h1 | h1
  · exact ch cr1 h0 h1
  rcases Nat.lt_or_ge g 120 with h2 | h2
  · exact ch cr2 h1 h2
  rcases Nat.lt_or_ge g 160 with h3 | h3
  · exact ch cr3 h2 h3
  rcases Nat.lt_or_ge g 200 with h4 | h4
  · exact ch cr4 h3 h4
  rcases Nat.lt_or_ge g 240 with h5 | h5
  · exact ch cr5 h4 h5
  rcases Nat.lt_or_ge g 280 with h6 | h6
  · exact ch cr6 h5 h6
  rcases Nat.lt_or_ge g 320 with h7 | h7
  · exact ch cr7 h6 h7
  rcases Nat.lt_or_ge g 360 with h8 | h8
  · exact ch cr8 h7 h8
  rcases Nat.lt_or_ge g 400 with h9 | h9
  · exact ch cr9 h8 h9
  rcases Nat.lt_or_ge g 440 with h10 | h10
  · exact ch cr10 h9 h10
  rcases Nat.lt_or_ge g 480 with h11 | h11
  · exact ch cr11 h10 h11
  rcases Nat.lt_or_ge g 520 with h12 | h12
  · exact ch cr12 h11 h12
  rcases Nat.lt_or_ge g 560 with h13 | h13
  · exact ch cr13 h12 h13
  rcases Nat.lt_or_ge g 600 with h14 | h14
  · exact ch cr14 h13 h14
  rcases Nat.lt_or_ge g 640 with h15 | h15
  · exact ch cr15 h14 h15
  rcases Nat.lt_or_ge g 680 with h16 | h16
  · exact ch cr16 h15 h16
  rcases Nat.lt_or_ge g 720 with h17 | h17
  · exact ch cr17 h16 h17
  rcases Nat.lt_or_ge g 760 with h18 | h18
  · exact ch cr18 h17 h18
  rcases Nat.lt_or_ge g 800 with h19 | h19
  · exact ch cr19 h18 h19
  rcases Nat.lt_or_ge g 803 with h20 | h20
  · exact ch cr20 h19 h20
  · omega
theorem leads_eq (g : Nat) : (P.funcs[g]?).elim [] P.leadsTo = at_ leads g := by
  rcases Nat.lt_or_ge g 773 with h | h
  · exact eqN_eq (ptL g h)
  · rw [Array.getElem?_eq_none (by rw [sizeF]; exact h)]
    unfold at_
    rw [List.getElem?_eq_none (by rw [show leads.length = 773 by kernel_rfl]; exact h)]; rfl
theorem globs_eq (g : Nat) : ((P.funcs[g]?).bind (·.body)).elim [] Code.globalsNamed = at_ globs g := by
  rcases Nat.lt_or_ge g 773 with h | h
  · exact eqN_eq (ptG g h)
  · rw [Array.getElem?_eq_none (by rw [sizeF]; exact h)]
    unfold at_
    rw [List.getElem?_eq_none (by rw [show globs.length = 773 by kernel_rfl]; exact h)]; rfl
theorem closure_eq : P.closure 4 = clo := by
  unfold Program.closure
  rw [sum_eq leads_eq (by rw [sizeF]; kernel_rfl), via_eq leads_eq]
  exact eqN_eq (by kernel_rfl)
theorem laidOut : laidOutB P = true := by
  have h1 : (List.range P.types.size).all (rowFine P) = true := by
    rw [sizeT]
    exact List.all_eq_true.2 fun t ht => ptR t (List.mem_range.1 ht)
  have h2 : (P.globals.all (fun g => decide (g.type < P.types.size))) = true := by kernel_rfl
  have h3 : (P.funcs.all (fun f => f.params.all fun t => decide (t < P.types.size))) = true := by kernel_rfl
  unfold laidOutB
  rw [h1, h2, h3]; rfl
theorem inPlace : (Rows.fleetNoneRow.inPlace == P.inPlace 4) = true := by
  unfold Program.inPlace
  rw [closure_eq]
  kernel_rfl
theorem unfollowed_true : P.unfollowed 4 = true := by
  unfold Program.unfollowed
  rw [closure_eq]
  exact List.any_eq_true.2 ⟨156, List.contains_iff_mem.1 (by rw [hasN_contains]; kernel_rfl), by kernel_rfl⟩
theorem unfollowed : (Rows.fleetNoneRow.unfollowed == P.unfollowed 4) = true := by
  rw [unfollowed_true]; rfl
theorem recurses : (Rows.fleetNoneRow.recurses == P.recurses 4) = true := by
  unfold Program.recurses
  rw [unfollowed_true, Bool.true_or]; rfl
theorem named_eq : P.varsNamed 4 = (((clo.flatMap (at_ globs)).eraseDups).filterMap (fun g => (P.globals[g]?).map (·.name)) ++ clo.filterMap fun g => (P.funcs[g]?).bind fun fn => if fn.body.isNone then entryReads.lookup fn.name else none).eraseDups := by
  unfold Program.varsNamed
  have e : (fun g => ((P.funcs[g]?).bind (·.body)).elim [] Code.globalsNamed) = at_ globs := funext globs_eq
  rw [closure_eq, e]
theorem named : (Rows.fleetNoneRow.named == P.varsNamed 4) = true := by
  rw [named_eq]
  kernel_rfl
end Go.Proofs.YtlokchnadeldgaaGreatDoor.Facts
