/- ScriptNone: closed facts of the row that are too great for the kernel in one piece, out of tables that are looked at part by part. No conditions. -/
import Derived.Test.YtpaaopmmmfjkhaaGreatDoorRows
import Derived.JoinedOf
import Derived.KernelRfl
set_option linter.unusedVariables false
set_option maxRecDepth 100000
namespace Go.Proofs.YtpaaopmmmfjkhaaGreatDoor.Facts
open Go
noncomputable abbrev P : Program := Tryz.pinned.checked.prog
theorem ch {a k : Nat} {p : Nat → Bool} (h : (List.range' a k).all p = true) {g : Nat} (h1 : a ≤ g) (h2 : g < a + k) : p g = true := List.all_eq_true.1 h g (List.mem_range'_1.2 ⟨h1, h2⟩)
def eqN : List Nat → List Nat → Bool
  | [], [] => true
  | a :: l, b :: m => Nat.beq a b && eqN l m
  | _, _ => false
theorem eqN_eq : ∀ {l m : List Nat}, eqN l m = true → l = m
  | [], [], _ => rfl
  | a :: l, b :: m, h => by
    change (Nat.beq a b && eqN l m) = true at h
    simp only [Bool.and_eq_true] at h
    rw [Nat.eq_of_beq_eq_true h.1, eqN_eq h.2]
  | [], _ :: _, h => by cases h
  | _ :: _, [], h => by cases h
def hasN (x : Nat) : List Nat → Bool
  | [] => false
  | y :: l => match Nat.beq x y with
    | true => true
    | false => hasN x l
theorem hasN_contains (x : Nat) : ∀ l : List Nat, l.contains x = hasN x l
  | [] => rfl
  | y :: l => by
    show _ = (match Nat.beq x y with | true => true | false => hasN x l)
    rw [List.contains_cons, hasN_contains x l]
    cases hb : Nat.beq x y with
    | true => simp [Nat.eq_of_beq_eq_true hb]
    | false => simp [Nat.ne_of_beq_eq_false hb]
def at_ (T : List (List Nat)) (g : Nat) : List Nat := (T[g]?).getD []
def viaT (T : List (List Nat)) : Nat → List Nat → List Nat → List Nat
  | 0, _, seen => seen.reverse
  | n + 1, todo, seen => match todo with
    | [] => seen.reverse
    | f :: todo => match hasN f seen with
      | true => viaT T n todo seen
      | false => viaT T n (at_ T f ++ todo) (f :: seen)
theorem via_eq {Q : Program} {T : List (List Nat)} (h : ∀ g, (Q.funcs[g]?).elim [] Q.leadsTo = at_ T g) : ∀ n todo seen, Q.closureVia n todo seen = viaT T n todo seen
  | 0, _, _ => by simp [Program.closureVia, viaT]
  | n + 1, [], seen => by simp [Program.closureVia, viaT]
  | n + 1, f :: todo, seen => by
    rw [Program.closureVia]
    show _ = (match hasN f seen with | true => viaT T n todo seen | false => viaT T n (at_ T f ++ todo) (f :: seen))
    rw [hasN_contains, via_eq h n, via_eq h n, h]
    cases hasN f seen <;> simp
theorem sum_eq {Q : Program} {T : List (List Nat)} (h : ∀ g, (Q.funcs[g]?).elim [] Q.leadsTo = at_ T g) (hs : Q.funcs.size = T.length) : (Q.funcs.toList.map fun g => (Q.leadsTo g).length + 1) = T.map fun l => l.length + 1 := by
  apply List.ext_getElem?
  intro g
  rw [List.getElem?_map, List.getElem?_map, Array.getElem?_toList]
  have hg := h g
  unfold at_ at hg
  by_cases hlt : g < Q.funcs.size
  · rw [Array.getElem?_eq_getElem hlt] at hg ⊢
    rw [List.getElem?_eq_getElem (by omega)] at hg ⊢
    simp only [Option.elim_some, Option.getD_some] at hg
    simp only [Option.map_some, hg]
  · rw [Array.getElem?_eq_none (by omega), List.getElem?_eq_none (by omega)]; rfl
def leads : List (List Nat) := [[], [], [1], [5, 6, 7, 8, 9, 10, 6], [11, 11, 12, 12, 13, 13, 14, 14, 6, 8, 10, 9], [15], [16, 10, 9, 17, 10, 18, 13], [19], [20, 21, 22, 23, 24, 25], [26, 27, 18], [20, 28, 29, 27, 26, 30, 29, 27, 31, 32, 26, 33, 34, 37, 36], [38, 39, 14, 40, 41], [42, 43, 44, 40, 45], [], [46, 47, 47, 47, 47, 47, 48], [], [49, 50, 50, 51, 7], [8], [52, 53, 54], [52, 53, 55], [26], [56, 29, 57, 57, 57], [58, 57], [58, 27, 57, 28, 57], [58, 26, 57], [57], [52, 59], [29, 60], [52, 61], [52, 53], [62, 63, 64, 48], [], [65, 66, 67], [27, 68, 69, 18, 70, 71], [35], [72, 73], [74], [75, 76, 77, 78, 79], [], [81, 80], [82, 82, 82, 83, 83, 82, 82, 84, 82, 85, 82], [86], [86], [87], [87], [44], [47], [], [88], [89, 90, 91], [], [], [], [], [92, 93], [94, 95, 96, 97, 97, 97, 97, 97, 98, 98, 98, 98, 98, 98, 99, 100, 100, 100, 101, 102, 103], [26, 30], [19], [56, 105, 104], [], [106, 107], [], [108, 64], [], [109], [], [110], [], [111, 112], [111, 113, 114, 116, 117, 118, 119, 120, 121], [], [66], [], [], [], [122], [123, 124], [126, 125], [128, 128, 128, 128, 127], [], [], [129], [131, 130, 39], [132, 133, 134], [136, 137, 138], [], [], [], [], [140, 141], [], [142], [], [143, 144], [145, 89, 91, 146, 146], [147, 148], [149, 148], [150, 151, 152, 153, 154], [155, 156, 157, 158, 159, 160], [161, 162], [163, 29, 164], [165], [166], [91, 146], [88], [29], [], [167, 168, 169, 170], [], [171], [128, 128, 172, 127], [173, 174, 112, 175], [121], [176], [115], [177, 178, 179, 180, 181], [182], [186, 187, 188, 189, 190], [191, 192], [194, 193, 121], [195, 196], [61, 197], [], [115, 115, 198, 198, 66, 199, 199], [200], [201, 202, 203, 204, 205, 206, 207, 208, 125, 125], [209, 129], [], [210, 210], [], [], [43], [], [137], [135], [139], [], [80, 81], [139], [87, 43, 86], [211], [], [212], [214, 213], [61], [62, 108, 215], [29, 216, 60, 217, 218, 60, 220, 219, 221], [62, 108, 59], [146], [62, 108, 108, 64, 217, 59], [223, 225, 222], [226, 225, 222], [227, 225, 222], [228, 225, 222], [230, 232, 222], [234, 235, 237, 236, 238, 239], [234, 240, 241, 242, 244, 246, 247, 248, 247], [249, 250, 170, 239, 251, 252, 253], [249, 251, 254], [249, 239], [249, 237, 255, 238, 239], [249, 256, 257, 258], [259], [], [249, 260, 261, 262, 261, 263, 264, 265, 266], [267, 268, 211], [267, 269, 270, 271, 211], [272, 272, 272, 272, 273, 111, 274, 275, 113, 276], [277, 278, 279, 280, 61, 197, 61, 197, 281], [42, 43, 282, 45, 283], [167, 272, 168, 284], [108], [285], [286, 287, 288], [289], [286, 287, 174, 290], [], [291], [286], [287], [288], [292], [183, 184, 185], [293, 294, 289, 295], [296], [124, 124], [297], [298, 113], [118, 119, 66, 300], [302, 301], [303, 119], [115, 124, 304, 113], [115, 120, 305], [], [], [288, 288, 197, 197, 306], [], [], [115, 115, 307], [233], [128, 128, 127], [], [308, 308], [309, 310], [311, 311, 311, 312], [], [], [], [], [], [], [313], [315, 314], [], [], [317], [], [318], [249, 239], [319], [], [249, 239, 239, 320], [92, 322, 321], [93, 224], [323], [325], [93, 224], [93, 224], [229], [175, 286, 143, 327, 328, 326], [231], [175, 286, 286, 143, 143, 233, 290, 327, 233, 286, 329, 330], [233], [286, 286, 331, 332], [249], [333, 111, 54, 334, 183, 335, 341, 340, 342, 340, 339], [111, 343, 344, 345], [], [346], [170, 347, 348, 349], [350], [351, 352, 353, 38, 133, 137, 137, 39, 41], [243], [354, 355, 356, 61, 357], [245], [354, 358, 359, 270], [360, 351, 61, 361], [362, 245], [239], [106, 212, 363], [364, 365], [366], [369, 370, 239, 371], [364, 372, 162, 162], [373, 374], [273, 291, 286, 287, 375, 376, 61, 115], [377, 378, 379, 379, 380, 381, 382], [373, 383, 374, 61, 384], [385, 38, 39, 137, 41, 386], [], [386, 387, 42, 43, 43, 139, 45, 385], [373], [373, 388, 271, 271, 383, 389, 61], [390, 391], [392, 393, 394], [373], [42, 43, 43, 395, 45, 396], [], [397], [267, 399, 398], [400], [402, 401], [], [403, 191, 174], [72, 73, 291, 291, 124], [], [288], [], [], [], [], [197], [404, 346, 405, 406, 407, 352, 408, 409, 353, 410, 411, 409, 353, 410, 411, 411, 411, 411, 411, 411], [66, 66, 272, 115, 286, 287, 288, 291, 288, 272, 272, 272], [412, 413, 414, 415, 416, 417, 418, 419], [], [420, 421], [422], [], [424, 424, 423, 425], [303, 143], [], [428, 427], [], [126, 429], [], [430, 430, 431, 431], [432], [299], [123, 433], [434], [193], [233], [435], [198], [288, 291, 120], [436, 436, 437, 438, 438], [288, 440, 439], [], [126], [], [312], [441, 441, 441], [], [268, 442], [316], [165, 443, 444, 445, 107, 446, 447, 239, 320], [], [], [], [448, 449], [], [93], [324], [175, 286, 287, 290, 143, 450, 327, 144, 451, 330, 452], [], [213], [144], [233], [126, 453], [174, 174], [454], [455], [152], [456], [336], [337, 338, 119, 66], [93], [92], [457], [], [458], [459], [291], [111, 291, 286, 287, 460, 61, 115, 305, 461], [119], [115, 352, 353, 38, 39, 39, 133, 137, 137, 41], [283, 38, 39, 282, 41], [462, 463, 466, 465, 464], [462, 463, 245, 464], [235, 467], [286, 287, 288], [287, 38, 39, 39, 137, 41], [288, 468, 468, 468, 469], [267, 268], [470, 356], [359, 400], [358], [383, 271, 389, 162], [], [235], [471, 225, 222], [472, 357], [473], [], [61, 197], [368, 367], [474, 475], [476], [], [477], [477], [478], [], [], [480, 479], [481, 192], [373], [373], [], [482, 483, 346, 484], [396, 38, 39, 39, 39, 39, 137, 41], [373, 374, 61], [485], [402, 486], [487], [488], [], [211, 271], [489], [], [490], [491, 405, 492], [390], [390, 239], [493, 494], [], [], [496, 495, 498, 497], [], [], [], [], [499], [500, 501], [42, 43, 43, 135, 139, 139, 45, 408, 410, 115], [503, 504], [506, 507], [42, 43, 43, 139, 45, 287], [509, 510], [512, 513, 512, 512, 288], [514, 515], [115, 516, 305, 517], [115, 516], [517], [281, 276, 518], [482, 519, 518], [520, 521], [272], [522], [523], [524, 525, 526], [], [], [528], [426], [529, 529], [288], [], [530, 531, 532, 533, 534, 535, 536, 537, 429, 429], [], [538, 431, 431], [191, 539, 540, 541, 543, 66], [544, 545, 200, 546], [195, 547], [286, 548], [], [], [], [549], [], [], [550, 551, 268, 271], [167], [472, 552, 314], [473], [], [235, 472, 553, 554, 248, 247], [271], [], [327, 555, 326], [], [556, 557], [558, 559, 560, 561, 562, 563, 564, 565, 453, 453], [455], [], [], [], [], [], [111, 286, 566, 120], [111, 173, 121, 174, 121, 567, 111], [473, 552, 314], [], [], [354, 355, 61, 357], [568, 488, 568], [69, 569], [], [570], [267, 268, 571, 398], [286, 287, 224, 450, 93, 229], [354, 356, 61], [], [572], [126, 573], [], [], [574], [], [], [576, 575], [577, 319, 281], [578, 579, 176], [513, 61], [], [], [], [582, 581], [], [], [490, 396, 391, 391], [364, 238, 372, 583, 115, 365, 162, 162, 584], [], [43, 43, 139], [585, 586], [587], [588], [], [], [137], [139, 502], [], [133], [135, 505], [], [137], [139, 508], [], [137], [139, 511], [], [], [589], [39], [43, 505], [590], [461], [520, 591], [276, 291, 305, 592], [593, 594], [], [274, 280, 72, 73, 595, 37], [596], [600, 599, 601, 603, 602, 605, 604], [606], [527], [607], [608, 609, 598], [], [], [610, 610], [309, 310], [611, 611, 611, 612], [], [], [], [], [613, 613, 613], [61, 197], [126, 614], [542, 542], [110], [], [], [126, 615], [], [], [616], [], [617], [618], [463, 619, 619, 620, 568, 466, 621, 243, 245], [42, 135, 139, 139, 43, 45, 408, 410, 351], [360, 111, 351, 54, 93, 66, 622, 338, 622, 622], [233], [], [623], [], [624, 624], [309, 310], [625, 625, 625, 626], [], [], [], [], [286, 233, 233], [627, 628], [], [338], [], [356], [], [629, 630, 631, 632, 633, 634, 635, 636, 637, 573, 573], [], [639, 640, 638], [566], [], [273, 276, 643, 642, 641, 644], [580], [645], [647, 646, 648], [], [364, 383, 383], [383, 389], [649], [126, 650], [], [], [], [273, 115, 651, 113, 403, 174, 652, 652, 653, 652, 639], [654, 655], [197], [], [128], [656], [597, 598], [657], [658], [], [], [], [659], [659], [597, 527], [660, 527], [661], [662, 663, 662, 664, 665], [666, 597], [666, 667, 598], [], [612], [668, 668, 668], [], [669, 670, 671, 672, 673, 674, 675, 676, 614, 614], [677, 678, 679, 680, 681, 682, 683, 684, 615, 615], [], [685, 686, 687, 688, 689], [690, 685, 691, 692, 687], [472], [693, 694], [693, 694, 694], [], [695, 695, 695], [], [626], [696, 696, 696], [], [697], [635], [698, 698], [309, 310], [699, 699, 699, 700], [], [635, 635, 635], [210, 210], [635, 635], [635, 635, 635, 635], [176], [61, 197], [], [701, 702], [703], [704, 575], [128, 128, 127], [], [], [705], [], [], [706, 707, 708, 709, 710, 711, 712, 713, 714, 650, 650], [], [715], [716], [], [717], [], [], [718, 665, 718, 664, 665, 719], [], [720, 597], [], [718], [], [], [], [], [], [], [], [721, 721], [309, 310], [722, 722, 722, 723], [], [], [], [], [], [724, 724], [309, 310], [725, 725, 725, 726], [], [], [], [], [], [], [], [], [727, 686, 728, 729, 686, 730, 731, 730, 729, 691, 687, 688], [], [], [732, 686, 733, 733], [734], [], [], [], [735, 735, 735], [635, 635], [700], [736, 736, 736], [737], [126, 738], [], [307], [], [712], [739, 739], [309, 310], [740, 740, 740, 741], [], [712, 712, 712], [529, 529], [712, 712], [712, 712, 712, 712], [], [191, 191, 743, 742, 539], [745, 745, 745], [746], [747], [], [], [723], [748, 748, 748], [], [726], [749, 749, 749], [], [], [], [], [], [], [], [694, 488, 694], [], [635], [], [430, 750, 751, 752, 753, 754, 755, 756, 738, 738], [712, 712], [741], [757, 757, 757], [], [744], [758, 113, 277, 759, 638, 760, 761, 762], [], [], [], [], [], [763, 763], [309, 310], [764, 764, 764, 765], [], [], [], [], [712], [198], [198], [], [128, 128, 127], [766, 767], [], [765], [768, 768, 768], [], [769], [], [770, 770, 770], [], [], [], [], [], [], [], [], [], [], [], [], [], [], [], [], [], [], [], [], [], [61], [], [], [], [], [469], [], [], [], [], [], [], [], []]
def globs : List (List Nat) := [[], [], [], [], [], [], [], [], [], [], [], [], [], [], [], [], [], [], [], [], [], [], [], [], [], [], [], [], [], [], [], [], [], [], [], [], [], [], [], [], [], [], [], [], [], [], [], [], [], [], [], [], [], [], [], [], [], [], [], [], [], [], [], [], [], [], [], [], [], [], [], [], [], [], [], [], [], [], [], [], [], [], [], [], [], [], [], [], [], [], [], [], [], [], [], [], [], [], [], [], [], [], [], [], [], [], [], [], [], [], [], [], [], [], [], [], [], [], [], [], [], [], [], [], [], [], [], [], [], [], [], [], [], [], [], [], [], [], [], [], [], [], [], [], [], [], [], [], [], [], [], [], [], [], [], [], [], [], [], [], [], [], [], [], [], [], [], [], [], [], [], [], [], [], [], [], [], [], [], [], [], [], [], [], [], [], [], [], [], [], [], [], [], [], [], [], [], [], [], [], [], [], [], [], [], [], [], [], [], [], [], [], [], [], [], [], [], [], [], [], [], [], [], [], [], [], [], [], [], [], [], [], [], [], [], [], [], [], [], [], [], [], [], [], [], [], [], [], [], [], [], [], [], [], [], [], [], [], [], [], [], [], [], [], [], [], [], [], [], [], [], [], [], [], [], [], [], [], [], [], [], [], [], [], [], [], [], [], [], [], [], [], [], [], [], [], [], [], [], [], [], [], [], [], [], [], [], [], [], [], [], [], [], [], [], [], [], [], [], [], [], [], [], [], [], [], [], [], [], [], [], [], [], [], [], [], [], [], [], [], [], [], [], [], [], [], [], [], [], [], [], [], [], [], [], [], [], [], [], [], [], [], [], [], [], [], [], [], [], [], [], [], [], [], [], [], [], [], [], [], [], [], [], [], [], [], [], [], [], [], [], [], [], [], [], [], [], [], [], [], [], [], [], [], [], [], [], [], [], [], [], [], [], [], [], [], [], [], [], [], [], [], [], [], [], [], [], [], [], [], [], [], [], [], [], [], [], [], [], [], [], [], [], [], [], [], [], [], [], [], [], [], [], [], [], [], [], [], [], [], [], [], [], [], [], [], [], [], [], [], [], [], [], [], [], [], [], [], [], [], [], [], [], [], [], [], [], [], [], [], [], [], [], [], [], [], [], [], [], [], [], [], [], [], [], [], [], [], [], [], [], [], [], [], [], [], [], [], [], [], [], [], [], [], [], [], [], [], [], [], [], [], [], [], [], [], [], [], [], [], [], [], [], [], [], [], [], [], [], [], [], [], [], [], [], [], [], [], [], [], [], [], [], [], [], [], [], [], [], [], [], [], [], [], [], [], [], [], [], [], [], [], [], [], [], [], [], [], [], [], [], [], [], [], [], [], [], [], [], [], [], [], [], [], [], [], [], [], [], [], [], [], [], [], [], [], [], [], [], [], [], [], [], [], [], [], [], [], [], [], [], [], [], [], [], [], [], [], [], [], [], [], [], [], [], [], [], [], [], [], [], [], [], [], [], [], [], [1, 2], [0, 0, 0], [], [], [], [], [], [], [], [], [], [], [], [], [], [], [], [], [], [], [], [], [], [], [], [], [], [], [], [], [], [], [], [], [], [], [], [], [], [], [], [], [], [], [], [], [], [], [], [], [], [], [], [], [], [], [], [], [], [], [], [], [], [], [], [], [], [], [], [], [], [], [], [], [], [], [], [], [], [], [], [], [], [], [], [], [], [], [], [], [], [], [], [], [], [], [], [], [], [], [], [], [], [], [], [], [], [], [], [], [], [], [], [], [], [], [], [], [], [], [], [], [], [], [], [], [], [], [], [], [], [], [], [], [], [], [], [], [], [], [], [], [], [], [], [], [], [2]]
def clo : List Nat := [3, 5, 15, 6, 16, 49, 89, 140, 211, 313, 141, 90, 91, 142, 212, 315, 316, 165, 267, 268, 397, 443, 167, 272, 273, 403, 499, 191, 115, 177, 291, 178, 286, 420, 523, 596, 597, 657, 598, 658, 718, 746, 665, 664, 719, 747, 421, 524, 600, 599, 601, 603, 659, 602, 605, 660, 720, 527, 607, 662, 663, 604, 525, 606, 661, 526, 179, 287, 422, 180, 288, 181, 292, 428, 427, 124, 200, 128, 210, 127, 304, 198, 307, 440, 439, 549, 113, 176, 174, 289, 424, 528, 608, 666, 609, 667, 423, 425, 426, 529, 111, 173, 112, 121, 61, 197, 175, 290, 303, 435, 548, 616, 143, 214, 213, 274, 72, 73, 275, 276, 444, 472, 354, 356, 359, 400, 552, 463, 619, 620, 693, 734, 694, 488, 582, 581, 647, 705, 646, 648, 568, 466, 621, 243, 355, 470, 571, 398, 496, 587, 495, 585, 649, 586, 126, 209, 129, 650, 706, 712, 707, 739, 708, 309, 310, 709, 740, 741, 757, 710, 711, 713, 714, 498, 497, 588, 357, 358, 383, 485, 271, 402, 401, 389, 489, 162, 259, 245, 270, 314, 442, 550, 617, 685, 686, 687, 688, 689, 727, 728, 729, 730, 731, 691, 551, 618, 690, 692, 732, 733, 445, 473, 107, 168, 277, 278, 279, 280, 281, 169, 42, 86, 43, 87, 282, 404, 500, 137, 80, 81, 501, 139, 502, 346, 352, 38, 39, 41, 353, 468, 469, 570, 133, 405, 135, 45, 44, 408, 410, 512, 513, 589, 406, 503, 504, 505, 407, 506, 507, 508, 409, 509, 510, 511, 411, 514, 515, 283, 66, 110, 172, 285, 170, 284, 412, 516, 590, 651, 652, 715, 653, 716, 743, 744, 758, 759, 638, 760, 761, 762, 766, 767, 769, 770, 742, 539, 639, 305, 120, 195, 306, 436, 437, 438, 196, 517, 461, 567, 627, 628, 697, 735, 413, 414, 415, 518, 520, 593, 594, 591, 654, 655, 717, 745, 416, 482, 577, 319, 519, 592, 417, 521, 418, 419, 522, 595, 656, 37, 75, 122, 76, 123, 199, 233, 331, 454, 455, 332, 77, 125, 201, 202, 308, 203, 204, 311, 312, 441, 205, 206, 207, 208, 78, 79, 446, 447, 235, 333, 152, 227, 93, 144, 224, 323, 324, 450, 327, 555, 326, 451, 330, 452, 556, 557, 623, 695, 225, 325, 222, 92, 322, 321, 54, 334, 456, 183, 293, 294, 429, 530, 531, 610, 532, 533, 611, 612, 668, 534, 535, 536, 537, 295, 335, 336, 337, 338, 119, 194, 193, 341, 458, 340, 342, 459, 339, 457, 553, 351, 554, 360, 622, 248, 239, 347, 348, 462, 465, 464, 349, 247, 362, 320, 448, 449, 50, 51, 7, 19, 52, 53, 55, 94, 145, 62, 108, 64, 109, 171, 215, 317, 146, 29, 216, 60, 106, 217, 318, 218, 249, 363, 220, 219, 221, 95, 147, 59, 148, 96, 149, 97, 150, 223, 151, 226, 153, 228, 229, 328, 154, 230, 231, 329, 453, 558, 559, 624, 560, 561, 625, 626, 696, 562, 563, 564, 565, 232, 98, 155, 234, 237, 236, 343, 344, 460, 566, 345, 238, 156, 240, 350, 467, 69, 114, 116, 182, 184, 296, 430, 431, 538, 613, 185, 117, 186, 297, 432, 540, 614, 669, 670, 721, 671, 672, 722, 723, 748, 673, 674, 675, 676, 541, 542, 543, 187, 298, 299, 433, 544, 545, 615, 677, 678, 724, 679, 680, 725, 726, 749, 681, 682, 683, 684, 546, 188, 118, 192, 300, 434, 547, 189, 302, 301, 190, 569, 241, 242, 244, 246, 361, 471, 157, 250, 364, 365, 251, 366, 368, 476, 367, 474, 572, 475, 573, 629, 635, 630, 698, 631, 632, 699, 700, 736, 633, 634, 636, 637, 252, 369, 370, 477, 371, 253, 372, 478, 574, 158, 254, 373, 374, 159, 160, 255, 375, 480, 479, 376, 481, 576, 575, 640, 99, 161, 256, 377, 378, 379, 380, 483, 578, 643, 704, 642, 703, 641, 701, 737, 702, 738, 750, 763, 751, 752, 764, 765, 768, 753, 754, 755, 756, 644, 579, 580, 645, 484, 381, 396, 382, 257, 384, 486, 258, 385, 487, 386, 100, 163, 164, 260, 387, 261, 262, 388, 263, 390, 391, 490, 264, 392, 491, 492, 583, 584, 393, 394, 265, 266, 395, 493, 494, 101, 102, 166, 269, 399, 103, 10, 20, 26, 28, 27, 30, 63, 48, 88, 31, 32, 65, 67, 33, 68, 18, 70, 71, 34, 35, 36, 74, 9, 17, 8, 21, 56, 57, 22, 58, 105, 104, 23, 24, 25, 13]
noncomputable def okL (g : Nat) : Bool := eqN ((P.funcs[g]?).elim [] P.leadsTo) (at_ leads g)
noncomputable def okG (g : Nat) : Bool := eqN (((P.funcs[g]?).bind (·.body)).elim [] Code.globalsNamed) (at_ globs g)
noncomputable def okR (t : Nat) : Bool := rowFine P t
theorem sizeF : P.funcs.size = 805 := by kernel_rfl
theorem sizeT : P.types.size = 837 := by kernel_rfl
theorem cl0 : (List.range' 0 40).all okL = true := by kernel_rfl
theorem cg0 : (List.range' 0 40).all okG = true := by kernel_rfl
theorem cl1 : (List.range' 40 40).all okL = true := by kernel_rfl
theorem cg1 : (List.range' 40 40).all okG = true := by kernel_rfl
theorem cl2 : (List.range' 80 40).all okL = true := by kernel_rfl
theorem cg2 : (List.range' 80 40).all okG = true := by kernel_rfl
theorem cl3 : (List.range' 120 40).all okL = true := by kernel_rfl
theorem cg3 : (List.range' 120 40).all okG = true := by kernel_rfl
theorem cl4 : (List.range' 160 40).all okL = true := by kernel_rfl
theorem cg4 : (List.range' 160 40).all okG = true := by kernel_rfl
theorem cl5 : (List.range' 200 40).all okL = true := by kernel_rfl
theorem cg5 : (List.range' 200 40).all okG = true := by kernel_rfl
theorem cl6 : (List.range' 240 40).all okL = true := by kernel_rfl
theorem cg6 : (List.range' 240 40).all okG = true := by kernel_rfl
theorem cl7 : (List.range' 280 40).all okL = true := by kernel_rfl
theorem cg7 : (List.range' 280 40).all okG = true := by kernel_rfl
theorem cl8 : (List.range' 320 40).all okL = true := by kernel_rfl
theorem cg8 : (List.range' 320 40).all okG = true := by kernel_rfl
theorem cl9 : (List.range' 360 40).all okL = true := by kernel_rfl
theorem cg9 : (List.range' 360 40).all okG = true := by kernel_rfl
theorem cl10 : (List.range' 400 40).all okL = true := by kernel_rfl
theorem cg10 : (List.range' 400 40).all okG = true := by kernel_rfl
theorem cl11 : (List.range' 440 40).all okL = true := by kernel_rfl
theorem cg11 : (List.range' 440 40).all okG = true := by kernel_rfl
theorem cl12 : (List.range' 480 40).all okL = true := by kernel_rfl
theorem cg12 : (List.range' 480 40).all okG = true := by kernel_rfl
theorem cl13 : (List.range' 520 40).all okL = true := by kernel_rfl
theorem cg13 : (List.range' 520 40).all okG = true := by kernel_rfl
theorem cl14 : (List.range' 560 40).all okL = true := by kernel_rfl
theorem cg14 : (List.range' 560 40).all okG = true := by kernel_rfl
theorem cl15 : (List.range' 600 40).all okL = true := by kernel_rfl
theorem cg15 : (List.range' 600 40).all okG = true := by kernel_rfl
theorem cl16 : (List.range' 640 40).all okL = true := by kernel_rfl
theorem cg16 : (List.range' 640 40).all okG = true := by kernel_rfl
theorem cl17 : (List.range' 680 40).all okL = true := by kernel_rfl
theorem cg17 : (List.range' 680 40).all okG = true := by kernel_rfl
theorem cl18 : (List.range' 720 40).all okL = true := by kernel_rfl
theorem cg18 : (List.range' 720 40).all okG = true := by kernel_rfl
theorem cl19 : (List.range' 760 40).all okL = true := by kernel_rfl
theorem cg19 : (List.range' 760 40).all okG = true := by kernel_rfl
theorem cl20 : (List.range' 800 5).all okL = true := by kernel_rfl
theorem cg20 : (List.range' 800 5).all okG = true := by kernel_rfl
theorem cr0 : (List.range' 0 40).all okR = true := by kernel_rfl
theorem cr1 : (List.range' 40 40).all okR = true := by kernel_rfl
theorem cr2 : (List.range' 80 40).all okR = true := by kernel_rfl
theorem cr3 : (List.range' 120 40).all okR = true := by kernel_rfl
theorem cr4 : (List.range' 160 40).all okR = true := by kernel_rfl
theorem cr5 : (List.range' 200 40).all okR = true := by kernel_rfl
theorem cr6 : (List.range' 240 40).all okR = true := by kernel_rfl
theorem cr7 : (List.range' 280 40).all okR = true := by kernel_rfl
theorem cr8 : (List.range' 320 40).all okR = true := by kernel_rfl
theorem cr9 : (List.range' 360 40).all okR = true := by kernel_rfl
theorem cr10 : (List.range' 400 40).all okR = true := by kernel_rfl
theorem cr11 : (List.range' 440 40).all okR = true := by kernel_rfl
theorem cr12 : (List.range' 480 40).all okR = true := by kernel_rfl
theorem cr13 : (List.range' 520 40).all okR = true := by kernel_rfl
theorem cr14 : (List.range' 560 40).all okR = true := by kernel_rfl
theorem cr15 : (List.range' 600 40).all okR = true := by kernel_rfl
theorem cr16 : (List.range' 640 40).all okR = true := by kernel_rfl
theorem cr17 : (List.range' 680 40).all okR = true := by kernel_rfl
theorem cr18 : (List.range' 720 40).all okR = true := by kernel_rfl
theorem cr19 : (List.range' 760 40).all okR = true := by kernel_rfl
theorem cr20 : (List.range' 800 37).all okR = true := by kernel_rfl
theorem ptL : ∀ g, g < 805 → okL g = true := by
  intro g hg
  rcases Nat.lt_or_ge g 40 with h0 | h0
  · exact ch cl0 (Nat.zero_le _) h0
  rcases Nat.lt_or_ge g 80 with h1 | h1
  · exact ch cl1 h0 h1
  rcases Nat.lt_or_ge g 120 with h2 | h2
  · exact ch cl2 h1 h2
  rcases Nat.lt_or_ge g 160 with h3 | h3
  · exact ch cl3 h2 h3
  rcases Nat.lt_or_ge g 200 with h4 | h4
  · exact ch cl4 h3 h4
  rcases Nat.lt_or_ge g 240 with h5 | h5
  · exact ch cl5 h4 h5
  rcases Nat.lt_or_ge g 280 with h6 | h6
  · exact ch cl6 h5 h6
  rcases Nat.lt_or_ge g 320 with h7 | h7
  · exact ch cl7 h6 h7
  rcases Nat.lt_or_ge g 360 with h8 | h8
  · exact ch cl8 h7 h8
  rcases Nat.lt_or_ge g 400 with h9 | h9
  · exact ch cl9 h8 h9
  rcases Nat.lt_or_ge g 440 with h10 | h10
  · exact ch cl10 h9 h10
  rcases Nat.lt_or_ge g 480 with h11 | h11
  · exact ch cl11 h10 h11
  rcases Nat.lt_or_ge g 520 with h12 | h12
  · exact ch cl12 h11 h12
  rcases Nat.lt_or_ge g 560 with h13 | h13
  · exact ch cl13 h12 h13
  rcases Nat.lt_or_ge g 600 with h14 | h14
  · exact ch cl14 h13 h14
  rcases Nat.lt_or_ge g 640 with h15 | h15
  · exact ch cl15 h14 h15
  rcases Nat.lt_or_ge g 680 with h16 | h16
  · exact ch cl16 h15 h16
  rcases Nat.lt_or_ge g 720 with h17 | h17
  · exact ch cl17 h16 h17
  rcases Nat.lt_or_ge g 760 with h18 | h18
  · exact ch cl18 h17 h18
  rcases Nat.lt_or_ge g 800 with h19 | h19
  · exact ch cl19 h18 h19
  rcases Nat.lt_or_ge g 805 with h20 | h20
  · exact ch cl20 h19 h20
  · omega
theorem ptG : ∀ g, g < 805 → okG g = true := by
  intro g hg
  rcases Nat.lt_or_ge g 40 with h0 | h0
  · exact ch cg0 (Nat.zero_le _) h0
  rcases Nat.lt_or_ge g 80 with h1 | h1
  · exact ch cg1 h0 h1
  rcases Nat.lt_or_ge g 120 with h2 | h2
  · exact ch cg2 h1 h2
  rcases Nat.lt_or_ge g 160 with h3 | h3
  · exact ch cg3 h2 h3
  rcases Nat.lt_or_ge g 200 with h4 | h4
  · exact ch cg4 h3 h4
  rcases Nat.lt_or_ge g 240 with h5 | h5
  · exact ch cg5 h4 h5
  rcases Nat.lt_or_ge g 280 with h6 | h6
  · exact ch cg6 h5 h6
  rcases Nat.lt_or_ge g 320 with h7 | h7
  · exact ch cg7 h6 h7
  rcases Nat.lt_or_ge g 360 with h8 | h8
  · exact ch cg8 h7 h8
  rcases Nat.lt_or_ge g 400 with h9 | h9
  · exact ch cg9 h8 h9
  rcases Nat.lt_or_ge g 440 with h10 | h10
  · exact ch cg10 h9 h10
  rcases Nat.lt_or_ge g 480 with h11 | h11
  · exact ch cg11 h10 h11
  rcases Nat.lt_or_ge g 520 with h12 | h12
  · exact ch cg12 h11 h12
  rcases Nat.lt_or_ge g 560 with h13 | h13
  · exact ch cg13 h12 h13
  rcases Nat.lt_or_ge g 600 with h14 | h14
  · exact ch cg14 h13 h14
  rcases Nat.lt_or_ge g 640 with h15 | h15
  · exact ch cg15 h14 h15
  rcases Nat.lt_or_ge g 680 with h16 | h16
  · exact ch cg16 h15 h16
  rcases Nat.lt_or_ge g 720 with h17 | h17
  · exact ch cg17 h16 h17
  rcases Nat.lt_or_ge g 760 with h18 | h18
  · exact ch cg18 h17 h18
  rcases Nat.lt_or_ge g 800 with h19 | h19
  · exact ch cg19 h18 h19
  rcases Nat.lt_or_ge g 805 with h20 | h20
  · exact ch cg20 h19 h20
  · omega
theorem ptR : ∀ g, g < 837 → okR g = true := by
  intro g hg
  rcases Nat.lt_or_ge g 40 with h0 | h0
  · exact ch cr0 (Nat.zero_le _) h0
  rcases Nat.lt_or_ge g 80 with h1 | h1
  · exact ch cr1 h0 h1
  rcases Nat.lt_or_ge g 120 with h2 | h2
  · exact ch cr2 h1 h2
  rcases Nat.lt_or_ge g 160 with h3 | h3
  · exact ch cr3 h2 h3
  rcases Nat.lt_or_ge g 200 with h4 | h4
  · exact ch cr4 h3 h4
  rcases Nat.lt_or_ge g 240 with h5 | h5
  · exact ch cr5 h4 h5
  rcases Nat.lt_or_ge g 280 with h6 | h6
  · exact ch cr6 h5 h6
  rcases Nat.lt_or_ge g 320 with h7 | h7
  · exact ch cr7 h6 h7
  rcases Nat.lt_or_ge g 360 with h8 | h8
  · exact ch cr8 h7 h8
  rcases Nat.lt_or_ge g 400 with h9 | h9
  · exact ch cr9 h8 h9
  rcases Nat.lt_or_ge g 440 with h10 | h10
  · exact ch cr10 h9 h10
  rcases Nat.lt_or_ge g 480 with h11 | h11
  · exact ch cr11 h10 h11
  rcases Nat.lt_or_ge g 520 with h12 | h12
  · exact ch cr12 h11 h12
  rcases Nat.lt_or_ge g 560 with h13 | h13
  · exact ch cr13 h12 h13
  rcases Nat.lt_or_ge g 600 with h14 | h14
  · exact ch cr14 h13 h14
  rcases Nat.lt_or_ge g 640 with h15 | h15
  · exact ch cr15 h14 h15
  rcases Nat.lt_or_ge g 680 with h16 | h16
  · exact ch cr16 h15 h16
  rcases Nat.lt_or_ge g 720 with h17 | h17
  · exact ch cr17 h16 h17
  rcases Nat.lt_or_ge g 760 with h18 | h18
  · exact ch cr18 h17 h18
  rcases Nat.lt_or_ge g 800 with h19 | h19
  · exact ch cr19 h18 h19
  rcases Nat.lt_or_ge g 837 with h20 | h20
  · exact ch cr20 h19 h20
  · omega
theorem leads_eq (g : Nat) : (P.funcs[g]?).elim [] P.leadsTo = at_ leads g := by
  rcases Nat.lt_or_ge g 805 with h | h
  · exact eqN_eq (ptL g h)
  · rw [Array.getElem?_eq_none (by rw [sizeF]; exact h)]
    unfold at_
    rw [List.getElem?_eq_none (by rw [show leads.length = 805 by kernel_rfl]; exact h)]; rfl
theorem globs_eq (g : Nat) : ((P.funcs[g]?).bind (·.body)).elim [] Code.globalsNamed = at_ globs g := by
  rcases Nat.lt_or_ge g 805 with h | h
  · exact eqN_eq (ptG g h)
  · rw [Array.getElem?_eq_none (by rw [sizeF]; exact h)]
    unfold at_
    rw [List.getElem?_eq_none (by rw [show globs.length = 805 by kernel_rfl]; exact h)]; rfl
theorem closure_eq : P.closure 3 = clo := by
  unfold Program.closure
  rw [sum_eq leads_eq (by rw [sizeF]; kernel_rfl), via_eq leads_eq]
  exact eqN_eq (by kernel_rfl)
theorem laidOut : laidOutB P = true := by
  have h1 : (List.range P.types.size).all (rowFine P) = true := by
    rw [sizeT]
    exact List.all_eq_true.2 fun t ht => ptR t (List.mem_range.1 ht)
  have h2 : (P.globals.all (fun g => decide (g.type < P.types.size))) = true := by kernel_rfl
  have h3 : (P.funcs.all (fun f => f.params.all fun t => decide (t < P.types.size))) = true := by kernel_rfl
  unfold laidOutB
  rw [h1, h2, h3]; rfl
theorem inPlace : (Rows.scriptNoneRow.inPlace == P.inPlace 3) = true := by
  unfold Program.inPlace
  rw [closure_eq]
  kernel_rfl
theorem unfollowed_true : P.unfollowed 3 = true := by
  unfold Program.unfollowed
  rw [closure_eq]
  exact List.any_eq_true.2 ⟨273, List.contains_iff_mem.1 (by rw [hasN_contains]; kernel_rfl), by kernel_rfl⟩
theorem unfollowed : (Rows.scriptNoneRow.unfollowed == P.unfollowed 3) = true := by
  rw [unfollowed_true]; rfl
theorem recurses : (Rows.scriptNoneRow.recurses == P.recurses 3) = true := by
  unfold Program.recurses
  rw [unfollowed_true, Bool.true_or]; rfl
theorem named_eq : P.varsNamed 3 = (((clo.flatMap (at_ globs)).eraseDups).filterMap (fun g => (P.globals[g]?).map (·.name)) ++ clo.filterMap fun g => (P.funcs[g]?).bind fun fn => if fn.body.isNone then entryReads.lookup fn.name else none).eraseDups := by
  unfold Program.varsNamed
  have e : (fun g => ((P.funcs[g]?).bind (·.body)).elim [] Code.globalsNamed) = at_ globs := funext globs_eq
  rw [closure_eq, e]
theorem named : (Rows.scriptNoneRow.named == P.varsNamed 3) = true := by
  rw [named_eq]
  kernel_rfl
end Go.Proofs.YtpaaopmmmfjkhaaGreatDoor.Facts
