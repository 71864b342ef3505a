/- BenchKnown: closed facts of the row that are too great for the kernel in one piece, out of tables that are looked at part by part. No conditions. -/
import Derived.Test.YtpckhnmnekinkaaGreatDoorRows
import Derived.JoinedOf
import Derived.KernelRfl
set_option linter.unusedVariables false
set_option maxRecDepth 100000
namespace Go.Proofs.YtpckhnmnekinkaaGreatDoor.Facts
open Go
noncomputable abbrev P : Program := Tryz.pinned.checked.prog
theorem ch {a k : Nat} {p : Nat → Bool} (h : (List.range' a k).all p = true) {g : Nat} (h1 : a ≤ g) (h2 : g < a + k) : p g = true := List.all_eq_true.1 h g (List.mem_range'_1.2 ⟨h1, h2⟩)
def eqN : List Nat → List Nat → Bool
  | [], [] => true
  | a :: l, b :: m => Nat.beq a b && eqN l m
  | _, _ => false
theorem eqN_eq : ∀ {l m : List Nat}, eqN l m = true → l = m
  | [], [], _ => rfl
  | a :: l, b :: m, h => by
    change (Nat.beq a b && eqN l m) = true at h
    simp only [Bool.and_eq_true] at h
    rw [Nat.eq_of_beq_eq_true h.1, eqN_eq h.2]
  | [], _ :: _, h => by cases h
  | _ :: _, [], h => by cases h
def hasN (x : Nat) : List Nat → Bool
  | [] => false
  | y :: l => match Nat.beq x y with
    | true => true
    | false => hasN x l
theorem hasN_contains (x : Nat) : ∀ l : List Nat, l.contains x = hasN x l
  | [] => rfl
  | y :: l => by
    show _ = (match Nat.beq x y with | true => true | false => hasN x l)
    rw [List.contains_cons, hasN_contains x l]
    cases hb : Nat.beq x y with
    | true => simp [Nat.eq_of_beq_eq_true hb]
    | false => simp [Nat.ne_of_beq_eq_false hb]
def at_ (T : List (List Nat)) (g : Nat) : List Nat := (T[g]?).getD []
def viaT (T : List (List Nat)) : Nat → List Nat → List Nat → List Nat
  | 0, _, seen => seen.reverse
  | n + 1, todo, seen => match todo with
    | [] => seen.reverse
    | f :: todo => match hasN f seen with
      | true => viaT T n todo seen
      | false => viaT T n (at_ T f ++ todo) (f :: seen)
theorem via_eq {Q : Program} {T : List (List Nat)} (h : ∀ g, (Q.funcs[g]?).elim [] Q.leadsTo = at_ T g) : ∀ n todo seen, Q.closureVia n todo seen = viaT T n todo seen
  | 0, _, _ => by simp [Program.closureVia, viaT]
  | n + 1, [], seen => by simp [Program.closureVia, viaT]
  | n + 1, f :: todo, seen => by
    rw [Program.closureVia]
    show _ = (match hasN f seen with | true => viaT T n todo seen | false => viaT T n (at_ T f ++ todo) (f :: seen))
    rw [hasN_contains, via_eq h n, via_eq h n, h]
    cases hasN f seen <;> simp
theorem sum_eq {Q : Program} {T : List (List Nat)} (h : ∀ g, (Q.funcs[g]?).elim [] Q.leadsTo = at_ T g) (hs : Q.funcs.size = T.length) : (Q.funcs.toList.map fun g => (Q.leadsTo g).length + 1) = T.map fun l => l.length + 1 := by
  apply List.ext_getElem?
  intro g
  rw [List.getElem?_map, List.getElem?_map, Array.getElem?_toList]
  have hg := h g
  unfold at_ at hg
  by_cases hlt : g < Q.funcs.size
  · rw [Array.getElem?_eq_getElem hlt] at hg ⊢
    rw [List.getElem?_eq_getElem (by omega)] at hg ⊢
    simp only [Option.elim_some, Option.getD_some] at hg
    simp only [Option.map_some, hg]
  · rw [Array.getElem?_eq_none (by omega), List.getElem?_eq_none (by omega)]; rfl
def leads : List (List Nat) := [[], [], [1], [6, 7, 8, 9, 10, 11, 12, 9, 13, 14, 13, 14, 7, 9, 6], [15, 16, 17, 17, 16, 17, 6], [6, 18, 19, 13, 13, 19], [15, 15, 16, 17], [20, 21], [], [], [], [22, 23], [], [24], [], [17, 16, 17], [7, 11, 26, 25, 27], [], [], [], [28], [29], [], [], [30], [31], [32, 33, 32, 34, 32], [], [35, 36, 37], [38], [39], [40], [24], [41, 42, 43, 44, 45, 46, 47, 48], [13, 49], [50, 51], [50, 52, 37], [53], [], [54, 55, 56, 57], [], [58, 32], [41], [59, 32], [60, 24, 24, 61, 62], [63, 64, 62], [65, 66, 64, 62], [65, 66, 66, 62], [67, 24, 24, 62], [], [], [68], [], [69, 70, 69, 71, 70, 72], [], [74, 73, 75], [], [76, 77], [78, 79, 80], [81, 82, 83], [78, 84], [78, 79], [85], [78, 79, 86], [24, 88, 87], [61, 89], [90], [78, 91], [], [92], [], [], [93], [], [], [], [], [94, 95], [], [], [96, 97, 98, 99, 99, 99, 99, 99, 100, 100, 100, 100, 100, 100, 101, 102, 102, 102, 103, 104, 105], [106, 107], [], [108], [], [109, 25, 25, 25, 27], [110, 111], [], [113, 112], [114, 115], [116, 24, 24], [], [], [], [], [], [117, 81, 83, 118, 118], [119, 120], [121, 120], [122, 123, 124, 125, 126], [127, 128, 129, 130, 131, 132], [133, 134], [135, 61, 136], [137], [138], [83, 118], [139], [], [140], [31, 141], [], [142, 143], [145, 144, 146], [], [], [147, 148, 149, 150], [], [151, 152, 153], [61, 154, 89, 155, 156, 89, 158, 157, 159], [151, 152, 84], [118], [151, 152, 152, 160, 155, 84], [162, 164, 161], [165, 164, 161], [166, 164, 161], [167, 164, 161], [169, 171, 161], [173, 174, 176, 175, 177, 178], [173, 179, 180, 181, 183, 185, 186, 187, 186], [188, 189, 150, 178, 190, 191, 192], [188, 190, 193], [188, 178], [188, 176, 194, 177, 178], [188, 195, 196, 197], [198], [], [188, 199, 200, 201, 200, 202, 203, 204, 205], [206, 207, 139], [206, 208, 209, 210, 139], [211], [213, 212], [215], [217, 216], [91], [], [218], [], [219, 219, 219, 219, 220, 221, 222, 224, 223, 225], [226, 227, 228, 229, 91, 230, 91, 230, 231], [232, 233, 234, 235, 236], [147, 219, 148, 237], [152, 160], [], [238], [], [239], [188, 178], [240], [], [188, 178, 178, 241], [242], [110, 244, 243], [111, 163], [245], [247], [111, 163], [111, 163], [168], [248, 249, 142, 251, 252, 250], [170], [248, 249, 249, 142, 142, 172, 253, 251, 172, 249, 254, 255], [172], [249, 249, 256, 257], [188], [258, 221, 86, 259, 260, 261, 269, 268, 270, 268, 267], [221, 271, 272, 273], [], [274], [150, 275, 276, 277], [278], [279, 280, 281, 282, 283, 284, 284, 285, 286], [182], [287, 288, 289, 91, 290], [184], [287, 291, 292, 209], [293, 279, 91, 294], [295, 184], [178], [114, 140, 296], [297, 298], [299], [302, 303, 178, 304], [297, 305, 134, 134], [306, 307], [220, 116, 249, 308, 309, 310, 91, 311], [312, 313, 314, 314, 315, 316, 317], [306, 318, 307, 91, 319], [320, 282, 285, 284, 286, 321], [], [321, 322, 232, 233, 233, 323, 235, 320], [306], [306, 324, 210, 210, 318, 325, 91], [326, 327], [328, 329, 330], [306], [232, 233, 233, 331, 235, 332], [], [333], [206, 335, 334], [336], [338, 337], [], [207, 339], [214], [137, 340, 341, 342, 115, 343, 344, 178, 241], [], [], [], [], [], [345, 346, 347], [348, 347, 349, 248], [350, 351, 116, 116, 352], [353], [], [354], [], [], [], [], [], [230], [355], [356], [357, 274, 358, 359, 360, 280, 361, 362, 281, 363, 364, 362, 281, 363, 364, 364, 364, 364, 364, 364], [365], [266, 266, 219, 311, 249, 308, 354, 116, 354, 219, 219, 219], [366, 367, 368, 369, 370, 371, 372, 373], [], [], [], [374, 375], [376], [], [111], [246], [248, 249, 308, 253, 142, 377, 251, 143, 378, 255, 379], [], [249, 308, 347, 253], [380, 381], [216], [143], [172], [382, 142], [384, 383], [347, 347], [385], [386], [124], [387], [388, 389, 390, 391], [262], [263, 264, 265, 266], [111], [110], [393, 392, 394], [395], [396], [], [397], [398], [116], [221, 116, 249, 308, 399, 91, 311, 400, 401], [265], [311, 280, 281, 282, 285, 285, 283, 284, 284, 286], [236, 282, 285, 234, 286], [402, 403, 406, 405, 404], [402, 403, 184, 404], [174, 407], [249, 308, 354], [308, 282, 285, 285, 284, 286], [354, 408, 408, 408, 409], [], [284], [410, 411], [411, 410], [355], [206, 207], [412, 289], [292, 336], [291], [318, 210, 325, 134], [], [174], [413, 164, 161], [414, 290], [415], [], [91, 230], [301, 300], [416, 417], [418], [], [419], [419], [420], [], [], [421], [423, 422], [425, 424], [426, 427, 428, 429, 430], [306], [306], [], [431, 432, 274, 433], [332, 282, 285, 285, 285, 285, 284, 286], [306, 307, 91], [434], [338, 435], [436], [88], [], [356, 233, 355], [139, 210], [437], [], [438], [439, 358, 440], [326], [326, 178], [441, 442], [], [], [444, 443, 446, 445], [], [], [], [], [447, 448, 207, 210], [147], [414, 449, 212], [415], [], [174, 414, 450, 451, 187, 186], [452], [311, 352, 453, 223], [390], [249, 308, 354], [394], [], [], [455], [], [], [], [], [456, 457], [232, 233, 233, 459, 323, 323, 235, 361, 363, 311], [460, 461], [463, 464], [232, 233, 233, 323, 235, 308], [466, 467], [469, 470, 469, 469, 354], [471, 472], [356], [311, 473, 400, 474], [311, 473], [474], [231, 225, 475], [431, 476, 475], [477, 478], [219], [479], [210], [], [152], [251, 480, 250], [], [481, 482], [483], [484, 485, 486], [488], [489, 490, 491, 492, 493, 494, 495, 496, 383, 383], [497, 74], [386], [], [], [], [384, 498], [500, 500, 499, 501], [], [], [], [91, 230], [503, 503, 504, 505], [], [], [], [221, 249, 506, 507], [354, 116, 507], [221, 348, 394, 347, 394, 508, 221], [415, 449, 212], [], [], [287, 288, 91, 290], [509, 88, 509], [510, 511], [], [512], [], [74], [206, 207, 513, 334], [249, 308, 163, 377, 111, 168], [287, 289, 91], [], [514], [384, 515], [], [], [516], [], [], [], [311, 507, 400], [518, 517], [116], [249], [308], [354], [519], [520, 240, 231], [521, 522, 353], [470, 91], [], [], [], [], [], [438, 332, 327, 327], [297, 177, 305, 524, 311, 298, 134, 134, 525], [], [233, 233, 323], [526, 527], [528], [529], [], [530], [531], [403, 532, 532, 533, 509, 406, 534, 182, 184], [232, 459, 323, 323, 233, 235, 361, 363, 279], [293, 221, 279, 86, 111, 266, 535, 264, 535, 535], [], [454], [311, 311, 536], [503, 503, 505], [284], [323, 458], [], [323], [283], [459, 462], [], [284], [323, 465], [], [284], [323, 468], [], [], [537], [285], [233, 462], [538], [401], [477, 539], [225, 116, 400, 540], [541, 542], [], [222, 229, 350, 351, 543, 544], [172], [], [545], [546], [548, 547, 549, 551, 550, 553, 552], [554], [487], [555], [249, 556], [], [557, 557], [558, 559], [560, 560, 560, 561], [], [], [], [], [], [562, 563, 564, 565, 566, 567, 568, 569, 498, 498], [], [28], [502], [570, 570], [571, 571], [572], [], [249, 172, 172], [573, 574], [575, 576], [], [221, 223, 577, 578, 579, 580, 265, 507, 394], [264], [], [289], [], [581, 582, 583, 584, 585, 586, 587, 588, 589, 515, 515], [], [591, 592, 590], [506], [594, 593], [], [220, 225, 597, 596, 595, 598], [523], [599], [297, 318, 318], [318, 325], [600], [384, 601], [], [], [602, 603, 604, 605, 606], [607, 602, 608, 609, 604], [414], [610, 611], [610, 611, 611], [], [354, 613, 612], [], [220, 311, 614, 223, 345, 347, 615, 615, 616, 615, 591], [617, 618], [230], [], [503], [619], [620, 621, 622, 623, 624], [625, 625, 625], [51, 37], [], [], [], [626], [626], [51, 487], [627, 487], [628], [629, 630, 629, 71, 70], [631], [], [384], [], [561], [632, 632, 632], [], [633, 633], [558, 559], [634, 634, 634, 635], [], [], [], [], [], [], [], [354, 354, 230, 230, 636], [], [], [637], [311], [638], [641, 642, 643, 644, 645], [346, 424], [587], [646, 646], [558, 559], [647, 647, 647, 648], [], [587, 587, 587], [571, 571], [587, 587], [587, 587, 587, 587], [353], [91, 230], [], [354], [], [649, 650], [651], [652, 517], [503, 503, 505], [], [], [653, 654, 655, 656, 657, 658, 659, 660, 661, 601, 601], [], [], [], [], [662, 603, 663, 664, 603, 665, 666, 665, 664, 608, 604, 605], [], [], [667, 603, 668, 668], [669], [], [670], [], [], [671], [672], [], [673], [], [674], [675, 352], [384, 676], [503, 503, 503, 503, 505], [], [], [], [677, 51], [], [69], [], [], [], [], [635], [678, 678, 678], [679, 679, 680, 681, 681], [682, 682, 682], [260, 639, 640], [683], [352, 352], [684], [685, 223], [580, 265, 266, 687], [689, 688], [382, 265], [587, 587], [648], [690, 690, 690], [691], [384, 692], [], [536], [659], [693, 693], [558, 559], [694, 694, 694, 695], [], [659, 659, 659], [570, 570], [659, 659], [659, 659, 659, 659], [], [], [], [], [], [], [], [611, 88, 611], [], [], [346, 346, 697, 696, 699], [700, 700, 700], [], [311, 311, 454, 454, 266, 701, 701], [702, 703, 704, 705, 706, 707, 708, 709, 676, 676], [], [], [], [], [], [], [710, 710, 711, 711], [712], [686], [675, 713], [714], [392], [172], [587], [], [710, 715, 716, 717, 718, 719, 720, 721, 692, 692], [659, 659], [695], [722, 722, 722], [], [698], [723, 223, 226, 724, 590, 725, 726, 727], [91, 230], [], [172], [], [728, 728], [558, 559], [729, 729, 729, 730], [], [], [], [], [], [731, 711, 711], [346, 699, 732, 733, 735, 266], [736, 737, 455, 738], [573, 739], [740, 740], [558, 559], [741, 741, 741, 742], [], [], [], [], [659], [454], [454], [], [503, 503, 505], [743, 744], [], [730], [745, 745, 745], [746, 746, 746], [384, 747], [734, 734], [395], [], [], [384, 748], [], [], [], [742], [749, 749, 749], [], [750], [], [], [751, 752, 753, 754, 755, 756, 757, 758, 747, 747], [759, 760, 761, 762, 763, 764, 765, 766, 748, 748], [], [767, 767, 767], [], [768, 768], [558, 559], [769, 769, 769, 770], [], [], [], [], [], [771, 771], [558, 559], [772, 772, 772, 773], [], [], [], [], [], [], [770], [774, 774, 774], [], [773], [775, 775, 775], [], [], [], [], [], [], [], [], [], [], [], [], [], [], [], [], [], [], [], [], [], [], [], [91], [], [], [], [], [409], [], [], [], [], [], [], [], [], [], [], []]
def globs : List (List Nat) := [[], [], [], [], [], [], [], [], [], [], [], [], [], [], [], [], [], [], [], [], [], [], [], [], [], [], [], [], [], [], [], [], [], [], [], [], [], [], [], [], [], [], [], [], [], [], [], [], [], [], [], [], [], [0, 0, 0], [], [1], [], [], [], [], [], [], [], [], [], [], [], [], [2, 3], [], [], [], [], [], [], [], [], [], [], [], [], [], [], [], [], [], [], [], [], [], [], [], [], [], [4], [5], [], [], [], [], [], [], [], [], [], [], [], [], [], [], [], [], [], [], [], [], [], [], [], [], [], [], [], [], [], [], [], [], [], [], [], [], [], [], [], [], [], [], [], [], [], [], [], [], [], [], [], [], [], [], [], [], [], [], [], [], [], [], [], [], [], [], [], [], [], [], [], [], [], [], [], [], [], [], [], [], [], [], [], [], [], [], [], [], [], [], [], [], [], [], [], [], [], [], [], [], [], [], [], [], [], [], [], [], [], [], [], [], [], [], [], [], [], [], [], [], [], [], [], [], [], [], [], [], [], [], [], [], [], [], [], [], [], [], [], [], [], [], [], [], [], [], [], [], [], [], [], [], [], [], [], [], [], [], [], [], [], [], [], [], [], [], [], [], [], [], [], [], [], [], [], [], [], [], [], [], [], [], [], [], [], [], [], [], [], [], [], [], [], [], [], [], [], [], [], [], [], [], [], [], [], [], [], [], [], [], [], [], [], [], [], [], [], [], [], [], [], [], [], [], [], [], [], [], [], [], [], [], [], [], [], [], [], [], [], [], [], [], [], [], [], [], [], [], [], [], [], [], [], [], [], [], [], [], [], [], [], [], [], [], [], [], [], [], [], [], [], [], [], [], [], [], [], [], [], [], [], [], [], [], [], [], [], [], [], [], [], [], [], [], [], [], [], [], [], [], [], [], [], [], [], [], [], [], [], [], [], [], [], [], [], [], [], [], [], [], [], [], [], [], [], [], [], [], [], [], [], [], [], [], [], [], [], [], [], [], [], [], [], [], [], [], [], [], [], [], [], [], [], [], [], [], [], [], [], [], [], [], [], [], [], [], [], [], [], [], [], [], [], [], [], [], [], [], [], [], [], [], [], [], [], [], [], [], [], [], [], [], [], [], [], [], [], [], [], [], [], [], [], [], [], [], [], [], [], [], [], [], [], [], [], [], [], [], [], [], [], [], [], [], [], [], [], [], [], [], [], [], [], [], [], [], [], [], [], [], [], [], [], [], [], [], [], [], [], [], [], [], [], [], [], [], [], [], [], [], [], [], [], [], [], [], [], [], [], [], [], [], [], [], [], [], [], [], [], [], [], [], [], [], [], [], [], [], [], [], [], [], [], [], [], [], [], [], [], [], [], [], [], [], [], [], [], [], [], [], [], [], [], [], [], [], [], [], [], [], [], [], [], [], [], [], [], [], [], [], [], [], [], [], [], [], [], [], [], [], [], [], [], [], [], [], [], [], [], [], [], [], [], [], [], [], [], [], [], [], [], [], [], [], [], [], [], [], [], [], [], [], [], [], [], [], [], [], [], [], [], [], [], [], [], [], [], [], [], [], [], [], [], [], [], [], [], [], [], [], [], [], [], [], [], [], [], [], [], [], [], [], [], [], [], [], [], [], [], [], [], [], [], [], [], [], [], [], [], [], [], [], [], [], [], [], [], [], [], [], [], [], [], [], [], [], [], [], [], [], [], [], [], [], [], [], [], [], [], [], [], [], [], [], [], [], [], [], [], [], [], [], [], [], [], [], [], [], [], [], [], [], [], [], [], [], [], [], [], [], [], [], [], [], [], [], [], [], [], [], [], [], [], [], [], [], [], [], [], [], [], [], [], [], [], [], [], [4, 5, 1, 3]]
def clo : List Nat := [4, 15, 17, 16, 7, 20, 28, 35, 50, 51, 68, 36, 52, 37, 53, 69, 92, 70, 71, 72, 93, 21, 29, 38, 11, 22, 23, 26, 32, 24, 30, 39, 54, 55, 74, 73, 75, 56, 57, 76, 77, 94, 95, 33, 41, 58, 78, 79, 80, 96, 117, 151, 152, 160, 242, 376, 153, 238, 81, 106, 139, 211, 107, 83, 108, 140, 213, 214, 137, 206, 207, 333, 340, 147, 219, 220, 345, 452, 346, 311, 426, 116, 427, 249, 380, 483, 546, 381, 484, 548, 547, 549, 551, 626, 550, 553, 627, 677, 487, 555, 629, 630, 552, 485, 554, 628, 486, 428, 308, 421, 429, 354, 430, 519, 594, 593, 352, 455, 503, 571, 505, 453, 454, 536, 613, 612, 670, 223, 353, 347, 390, 500, 499, 501, 502, 570, 221, 348, 349, 394, 91, 230, 248, 253, 382, 488, 556, 631, 142, 217, 216, 222, 350, 351, 224, 225, 341, 414, 287, 289, 292, 336, 449, 403, 532, 533, 610, 669, 611, 88, 113, 112, 145, 218, 144, 146, 509, 406, 534, 182, 288, 412, 513, 334, 444, 528, 443, 526, 600, 527, 384, 497, 601, 653, 659, 654, 693, 655, 558, 559, 656, 694, 695, 722, 657, 658, 660, 661, 446, 445, 529, 290, 291, 318, 434, 210, 338, 337, 325, 437, 134, 198, 184, 209, 212, 339, 447, 530, 602, 603, 604, 605, 606, 662, 663, 664, 665, 666, 608, 448, 531, 607, 609, 667, 668, 342, 415, 115, 148, 226, 227, 228, 229, 231, 149, 232, 355, 233, 356, 234, 357, 456, 284, 410, 411, 457, 323, 458, 274, 280, 282, 285, 286, 281, 408, 409, 512, 283, 358, 459, 235, 365, 361, 363, 469, 470, 537, 359, 460, 461, 462, 360, 463, 464, 465, 362, 466, 467, 468, 364, 471, 472, 236, 266, 395, 504, 572, 150, 237, 366, 473, 538, 614, 615, 671, 616, 672, 697, 698, 723, 724, 590, 725, 726, 727, 743, 744, 750, 767, 696, 699, 591, 400, 507, 573, 636, 679, 680, 681, 574, 474, 401, 508, 575, 576, 637, 682, 367, 368, 369, 475, 477, 541, 542, 539, 617, 618, 673, 700, 370, 431, 520, 240, 476, 540, 371, 478, 372, 373, 479, 543, 619, 544, 620, 674, 621, 675, 701, 172, 256, 385, 386, 257, 622, 676, 702, 703, 728, 704, 705, 729, 730, 745, 706, 707, 708, 709, 623, 624, 343, 344, 174, 258, 124, 166, 111, 143, 163, 245, 246, 377, 251, 480, 250, 378, 255, 379, 481, 482, 545, 625, 164, 247, 161, 110, 244, 243, 86, 259, 387, 260, 388, 389, 498, 562, 563, 633, 564, 565, 634, 635, 678, 566, 567, 568, 569, 391, 261, 262, 263, 264, 265, 393, 392, 269, 397, 268, 270, 398, 267, 396, 450, 279, 451, 293, 535, 187, 178, 275, 276, 402, 405, 404, 277, 186, 295, 241, 374, 375, 118, 61, 154, 89, 114, 155, 239, 156, 188, 296, 158, 157, 159, 97, 119, 84, 120, 98, 121, 99, 122, 162, 123, 165, 125, 167, 168, 252, 126, 169, 170, 254, 383, 489, 490, 557, 491, 492, 560, 561, 632, 493, 494, 495, 496, 171, 100, 127, 173, 176, 175, 271, 272, 399, 506, 273, 177, 128, 179, 278, 407, 510, 577, 578, 638, 639, 683, 710, 711, 731, 746, 640, 579, 641, 684, 712, 732, 747, 751, 752, 768, 753, 754, 769, 770, 774, 755, 756, 757, 758, 733, 734, 735, 642, 685, 686, 713, 736, 737, 748, 759, 760, 771, 761, 762, 772, 773, 775, 763, 764, 765, 766, 738, 643, 580, 424, 687, 714, 739, 644, 689, 688, 645, 511, 180, 181, 183, 185, 294, 413, 129, 189, 297, 298, 190, 299, 301, 418, 300, 416, 514, 417, 515, 581, 587, 582, 646, 583, 584, 647, 648, 690, 585, 586, 588, 589, 191, 302, 303, 419, 304, 192, 305, 420, 516, 130, 193, 306, 307, 131, 132, 194, 309, 423, 422, 310, 425, 518, 517, 592, 101, 133, 195, 312, 313, 314, 315, 432, 521, 597, 652, 596, 651, 595, 649, 691, 650, 692, 715, 740, 716, 717, 741, 742, 749, 718, 719, 720, 721, 598, 522, 523, 599, 433, 316, 332, 317, 196, 319, 435, 197, 320, 436, 321, 102, 135, 136, 199, 322, 200, 201, 324, 202, 326, 327, 438, 203, 328, 439, 440, 524, 525, 329, 330, 204, 205, 331, 441, 442, 103, 104, 138, 208, 335, 105, 42, 43, 59, 82, 44, 60, 62, 85, 109, 31, 40, 141, 215, 25, 27, 45, 63, 64, 87, 46, 65, 66, 90, 47, 48, 67, 34, 13, 49, 6]
noncomputable def okL (g : Nat) : Bool := eqN ((P.funcs[g]?).elim [] P.leadsTo) (at_ leads g)
noncomputable def okG (g : Nat) : Bool := eqN (((P.funcs[g]?).bind (·.body)).elim [] Code.globalsNamed) (at_ globs g)
noncomputable def okR (t : Nat) : Bool := rowFine P t
theorem sizeF : P.funcs.size = 814 := by kernel_rfl
theorem sizeT : P.types.size = 832 := by kernel_rfl
theorem cl0 : (List.range' 0 40).all okL = true := by kernel_rfl
theorem cg0 : (List.range' 0 40).all okG = true := by kernel_rfl
theorem cl1 : (List.range' 40 40).all okL = true := by kernel_rfl
theorem cg1 : (List.range' 40 40).all okG = true := by kernel_rfl
theorem cl2 : (List.range' 80 40).all okL = true := by kernel_rfl
theorem cg2 : (List.range' 80 40).all okG = true := by kernel_rfl
theorem cl3 : (List.range' 120 40).all okL = true := by kernel_rfl
theorem cg3 : (List.range' 120 40).all okG = true := by kernel_rfl
theorem cl4 : (List.range' 160 40).all okL = true := by kernel_rfl
theorem cg4 : (List.range' 160 40).all okG = true := by kernel_rfl
theorem cl5 : (List.range' 200 40).all okL = true := by kernel_rfl
theorem cg5 : (List.range' 200 40).all okG = true := by kernel_rfl
theorem cl6 : (List.range' 240 40).all okL = true := by kernel_rfl
theorem cg6 : (List.range' 240 40).all okG = true := by kernel_rfl
theorem cl7 : (List.range' 280 40).all okL = true := by kernel_rfl
theorem cg7 : (List.range' 280 40).all okG = true := by kernel_rfl
theorem cl8 : (List.range' 320 40).all okL = true := by kernel_rfl
theorem cg8 : (List.range' 320 40).all okG = true := by kernel_rfl
theorem cl9 : (List.range' 360 40).all okL = true := by kernel_rfl
theorem cg9 : (List.range' 360 40).all okG = true := by kernel_rfl
theorem cl10 : (List.range' 400 40).all okL = true := by kernel_rfl
theorem cg10 : (List.range' 400 40).all okG = true := by kernel_rfl
theorem cl11 : (List.range' 440 40).all okL = true := by kernel_rfl
theorem cg11 : (List.range' 440 40).all okG = true := by kernel_rfl
theorem cl12 : (List.range' 480 40).all okL = true := by kernel_rfl
theorem cg12 : (List.range' 480 40).all okG = true := by kernel_rfl
theorem cl13 : (List.range' 520 40).all okL = true := by kernel_rfl
theorem cg13 : (List.range' 520 40).all okG = true := by kernel_rfl
theorem cl14 : (List.range' 560 40).all okL = true := by kernel_rfl
theorem cg14 : (List.range' 560 40).all okG = true := by kernel_rfl
theorem cl15 : (List.range' 600 40).all okL = true := by kernel_rfl
theorem cg15 : (List.range' 600 40).all okG = true := by kernel_rfl
theorem cl16 : (List.range' 640 40).all okL = true := by kernel_rfl
theorem cg16 : (List.range' 640 40).all okG = true := by kernel_rfl
theorem cl17 : (List.range' 680 40).all okL = true := by kernel_rfl
theorem cg17 : (List.range' 680 40).all okG = true := by kernel_rfl
theorem cl18 : (List.range' 720 40).all okL = true := by kernel_rfl
theorem cg18 : (List.range' 720 40).all okG = true := by kernel_rfl
theorem cl19 : (List.range' 760 40).all okL = true := by kernel_rfl
theorem cg19 : (List.range' 760 40).all okG = true := by kernel_rfl
theorem cl20 : (List.range' 800 14).all okL = true := by kernel_rfl
theorem cg20 : (List.range' 800 14).all okG = true := by kernel_rfl
theorem cr0 : (List.range' 0 40).all okR = true := by kernel_rfl
theorem cr1 : (List.range' 40 40).all okR = true := by kernel_rfl
theorem cr2 : (List.range' 80 40).all okR = true := by kernel_rfl
theorem cr3 : (List.range' 120 40).all okR = true := by kernel_rfl
theorem cr4 : (List.range' 160 40).all okR = true := by kernel_rfl
theorem cr5 : (List.range' 200 40).all okR = true := by kernel_rfl
theorem cr6 : (List.range' 240 40).all okR = true := by kernel_rfl
theorem cr7 : (List.range' 280 40).all okR = true := by kernel_rfl
theorem cr8 : (List.range' 320 40).all okR = true := by kernel_rfl
theorem cr9 : (List.range' 360 40).all okR = true := by kernel_rfl
theorem cr10 : (List.range' 400 40).all okR = true := by kernel_rfl
theorem cr11 : (List.range' 440 40).all okR = true := by kernel_rfl
theorem cr12 : (List.range' 480 40).all okR = true := by kernel_rfl
theorem cr13 : (List.range' 520 40).all okR = true := by kernel_rfl
theorem cr14 : (List.range' 560 40).all okR = true := by kernel_rfl
theorem cr15 : (List.range' 600 40).all okR = true := by kernel_rfl
theorem cr16 : (List.range' 640 40).all okR = true := by kernel_rfl
theorem cr17 : (List.range' 680 40).all okR = true := by kernel_rfl
theorem cr18 : (List.range' 720 40).all okR = true := by kernel_rfl
theorem cr19 : (List.range' 760 40).all okR = true := by kernel_rfl
theorem cr20 : (List.range' 800 32).all okR = true := by kernel_rfl
theorem ptL : ∀ g, g < 814 → okL g = true := by
  intro g hg
  rcases Nat.lt_or_ge g 40 with h0 | h0
  · exact ch cl0 (Nat.zero_le _) h0
  rcases Nat.lt_or_ge g 80 with h1 | h1
  · exact ch cl1 h0 h1
  rcases Nat.lt_or_ge g 120 with h2 | h2
  · exact ch cl2 h1 h2
  rcases Nat.lt_or_ge g 160 with h3 | h3
  · exact ch cl3 h2 h3
  rcases Nat.lt_or_ge g 200 with h4 | h4
  · exact ch cl4 h3 h4
  rcases Nat.lt_or_ge g 240 with h5 | h5
  · exact ch cl5 h4 h5
  rcases Nat.lt_or_ge g 280 with h6 | h6
  · exact ch cl6 h5 h6
  rcases Nat.lt_or_ge g 320 with h7 | h7
  · exact ch cl7 h6 h7
  rcases Nat.lt_or_ge g 360 with h8 | h8
  · exact ch cl8 h7 h8
  rcases Nat.lt_or_ge g 400 with h9 | h9
  · exact ch cl9 h8 h9
  rcases Nat.lt_or_ge g 440 with h10 | h10
  · exact ch cl10 h9 h10
  rcases Nat.lt_or_ge g 480 with h11 | h11
  · exact ch cl11 h10 h11
  rcases Nat.lt_or_ge g 520 with h12 | h12
  · exact ch cl12 h11 h12
  rcases Nat.lt_or_ge g 560 with h13 | h13
  · exact ch cl13 h12 h13
  rcases Nat.lt_or_ge g 600 with h14 | h14
  · exact ch cl14 h13 h14
  rcases Nat.lt_or_ge g 640 with h15 | h15
  · exact ch cl15 h14 h15
  rcases Nat.lt_or_ge g 680 with h16 | h16
  · exact ch cl16 h15 h16
  rcases Nat.lt_or_ge g 720 with h17 | h17
  · exact ch cl17 h16 h17
  rcases Nat.lt_or_ge g 760 with h18 | h18
  · exact ch cl18 h17 h18
  rcases Nat.lt_or_ge g 800 with h19 | h19
  · exact ch cl19 h18 h19
  rcases Nat.lt_or_ge g 814 with h20 | h20
  · exact ch cl20 h19 h20
  · omega
theorem ptG : ∀ g, g < 814 → okG g = true := by
  intro g hg
  rcases Nat.lt_or_ge g 40 with h0 | h0
  · exact ch cg0 (Nat.zero_le _) h0
  rcases Nat.lt_or_ge g 80 with h1 | h1
  · exact ch cg1 h0 h1
  rcases Nat.lt_or_ge g 120 with h2 | h2
  · exact ch cg2 h1 h2
  rcases Nat.lt_or_ge g 160 with h3 | h3
  · exact ch cg3 h2 h3
  rcases Nat.lt_or_ge g 200 with h4 | h4
  · exact ch cg4 h3 h4
  rcases Nat.lt_or_ge g 240 with h5 | h5
  · exact ch cg5 h4 h5
  rcases Nat.lt_or_ge g 280 with h6 | h6
  · exact ch cg6 h5 h6
  rcases Nat.lt_or_ge g 320 with h7 | h7
  · exact ch cg7 h6 h7
  rcases Nat.lt_or_ge g 360 with h8 | h8
  · exact ch cg8 h7 h8
  rcases Nat.lt_or_ge g 400 with h9 | h9
  · exact ch cg9 h8 h9
  rcases Nat.lt_or_ge g 440 with h10 | h10
  · exact ch cg10 h9 h10
  rcases Nat.lt_or_ge g 480 with h11 | h11
  · exact ch cg11 h10 h11
  rcases Nat.lt_or_ge g 520 with h12 | h12
  · exact ch cg12 h11 h12
  rcases Nat.lt_or_ge g 560 with h13 | h13
  · exact ch cg13 h12 h13
  rcases Nat.lt_or_ge g 600 with h14 | h14
  · exact ch cg14 h13 h14
  rcases Nat.lt_or_ge g 640 with h15 | h15
  · exact ch cg15 h14 h15
  rcases Nat.lt_or_ge g 680 with h16 | h16
  · exact ch cg16 h15 h16
  rcases Nat.lt_or_ge g 720 with h17 | h17
  · exact ch cg17 h16 h17
  rcases Nat.lt_or_ge g 760 with h18 | h18
  · exact ch cg18 h17 h18
  rcases Nat.lt_or_ge g 800 with h19 | h19
  · exact ch cg19 h18 h19
  rcases Nat.lt_or_ge g 814 with h20 | h20
  · exact ch cg20 h19 h20
  · omega
theorem ptR : ∀ g, g < 832 → okR g = true := by
  intro g hg
  rcases Nat.lt_or_ge g 40 with h0 | h0
  · exact ch cr0 (Nat.zero_le _) h0
  rcases Nat.lt_or_ge g 80 with h1 | h1
  · exact ch cr1 h0 h1
  rcases Nat.lt_or_ge g 120 with h2 | h2
  · exact ch cr2 h1 h2
  rcases Nat.lt_or_ge g 160 with h3 | h3
  · exact ch cr3 h2 h3
  rcases Nat.lt_or_ge g 200 with h4 | h4
  · exact ch cr4 h3 h4
  rcases Nat.lt_or_ge g 240 with h5 | h5
  · exact ch cr5 h4 h5
  rcases Nat.lt_or_ge g 280 with h6 | h6
  · exact ch cr6 h5 h6
  rcases Nat.lt_or_ge g 320 with h7 | h7
  · exact ch cr7 h6 h7
  rcases Nat.lt_or_ge g 360 with h8 | h8
  · exact ch cr8 h7 h8
  rcases Nat.lt_or_ge g 400 with h9 | h9
  · exact ch cr9 h8 h9
  rcases Nat.lt_or_ge g 440 with h10 | h10
  · exact ch cr10 h9 h10
  rcases Nat.lt_or_ge g 480 with h11 | h11
  · exact ch cr11 h10 h11
  rcases Nat.lt_or_ge g 520 with h12 | h12
  · exact ch cr12 h11 h12
  rcases Nat.lt_or_ge g 560 with h13 | h13
  · exact ch cr13 h12 h13
  rcases Nat.lt_or_ge g 600 with h14 | h14
  · exact ch cr14 h13 h14
  rcases Nat.lt_or_ge g 640 with h15 | h15
  · exact ch cr15 h14 h15
  rcases Nat.lt_or_ge g 680 with h16 | h16
  · exact ch cr16 h15 h16
  rcases Nat.lt_or_ge g 720 with h17 | h17
  · exact ch cr17 h16 h17
  rcases Nat.lt_or_ge g 760 with h18 | h18
  · exact ch cr18 h17 h18
  rcases Nat.lt_or_ge g 800 with h19 | h19
  · exact ch cr19 h18 h19
  rcases Nat.lt_or_ge g 832 with h20 | h20
  · exact ch cr20 h19 h20
  · omega
theorem leads_eq (g : Nat) : (P.funcs[g]?).elim [] P.leadsTo = at_ leads g := by
  rcases Nat.lt_or_ge g 814 with h | h
  · exact eqN_eq (ptL g h)
  · rw [Array.getElem?_eq_none (by rw [sizeF]; exact h)]
    unfold at_
    rw [List.getElem?_eq_none (by rw [show leads.length = 814 by kernel_rfl]; exact h)]; rfl
theorem globs_eq (g : Nat) : ((P.funcs[g]?).bind (·.body)).elim [] Code.globalsNamed = at_ globs g := by
  rcases Nat.lt_or_ge g 814 with h | h
  · exact eqN_eq (ptG g h)
  · rw [Array.getElem?_eq_none (by rw [sizeF]; exact h)]
    unfold at_
    rw [List.getElem?_eq_none (by rw [show globs.length = 814 by kernel_rfl]; exact h)]; rfl
theorem closure_eq : P.closure 4 = clo := by
  unfold Program.closure
  rw [sum_eq leads_eq (by rw [sizeF]; kernel_rfl), via_eq leads_eq]
  exact eqN_eq (by kernel_rfl)
theorem laidOut : laidOutB P = true := by
  have h1 : (List.range P.types.size).all (rowFine P) = true := by
    rw [sizeT]
    exact List.all_eq_true.2 fun t ht => ptR t (List.mem_range.1 ht)
  have h2 : (P.globals.all (fun g => decide (g.type < P.types.size))) = true := by kernel_rfl
  have h3 : (P.funcs.all (fun f => f.params.all fun t => decide (t < P.types.size))) = true := by kernel_rfl
  unfold laidOutB
  rw [h1, h2, h3]; rfl
theorem inPlace : (Rows.benchKnownRow.inPlace == P.inPlace 4) = true := by
  unfold Program.inPlace
  rw [closure_eq]
  kernel_rfl
theorem unfollowed_true : P.unfollowed 4 = true := by
  unfold Program.unfollowed
  rw [closure_eq]
  exact List.any_eq_true.2 ⟨22, List.contains_iff_mem.1 (by rw [hasN_contains]; kernel_rfl), by kernel_rfl⟩
theorem unfollowed : (Rows.benchKnownRow.unfollowed == P.unfollowed 4) = true := by
  rw [unfollowed_true]; rfl
theorem recurses : (Rows.benchKnownRow.recurses == P.recurses 4) = true := by
  unfold Program.recurses
  rw [unfollowed_true, Bool.true_or]; rfl
theorem named_eq : P.varsNamed 4 = (((clo.flatMap (at_ globs)).eraseDups).filterMap (fun g => (P.globals[g]?).map (·.name)) ++ clo.filterMap fun g => (P.funcs[g]?).bind fun fn => if fn.body.isNone then entryReads.lookup fn.name else none).eraseDups := by
  unfold Program.varsNamed
  have e : (fun g => ((P.funcs[g]?).bind (·.body)).elim [] Code.globalsNamed) = at_ globs := funext globs_eq
  rw [closure_eq, e]
theorem named : (Rows.benchKnownRow.named == P.varsNamed 4) = true := by
  rw [named_eq]
  kernel_rfl
end Go.Proofs.YtpckhnmnekinkaaGreatDoor.Facts
