/- FleetKnown: closed facts of the row that are too great for the kernel in one piece, out of tables that are looked at part by part. No conditions. -/
import Derived.Test.YtggnokfchfipaaaGreatDoorRows
import Derived.JoinedOf
import Derived.KernelRfl
set_option linter.unusedVariables false
set_option maxRecDepth 100000
namespace Go.Proofs.YtggnokfchfipaaaGreatDoor.Facts
open Go
noncomputable abbrev P : Program := Tryz.pinned.checked.prog
theorem ch {a k : Nat} {p : Nat → Bool} (h : (List.range' a k).all p = true) {g : Nat} (h1 : a ≤ g) (h2 : g < a + k) : p g = true := List.all_eq_true.1 h g (List.mem_range'_1.2 ⟨h1, h2⟩)
def eqN : List Nat → List Nat → Bool
  | [], [] => true
  | a :: l, b :: m => Nat.beq a b && eqN l m
  | _, _ => false
theorem eqN_eq : ∀ {l m : List Nat}, eqN l m = true → l = m
  | [], [], _ => rfl
  | a :: l, b :: m, h => by
    change (Nat.beq a b && eqN l m) = true at h
    simp only [Bool.and_eq_true] at h
    rw [Nat.eq_of_beq_eq_true h.1, eqN_eq h.2]
  | [], _ :: _, h => by cases h
  | _ :: _, [], h => by cases h
def hasN (x : Nat) : List Nat → Bool
  | [] => false
  | y :: l => match Nat.beq x y with
    | true => true
    | false => hasN x l
theorem hasN_contains (x : Nat) : ∀ l : List Nat, l.contains x = hasN x l
  | [] => rfl
  | y :: l => by
    show _ = (match Nat.beq x y with | true => true | false => hasN x l)
    rw [List.contains_cons, hasN_contains x l]
    cases hb : Nat.beq x y with
    | true => simp [Nat.eq_of_beq_eq_true hb]
    | false => simp [Nat.ne_of_beq_eq_false hb]
def at_ (T : List (List Nat)) (g : Nat) : List Nat := (T[g]?).getD []
def viaT (T : List (List Nat)) : Nat → List Nat → List Nat → List Nat
  | 0, _, seen => seen.reverse
  | n + 1, todo, seen => match todo with
    | [] => seen.reverse
    | f :: todo => match hasN f seen with
      | true => viaT T n todo seen
      | false => viaT T n (at_ T f ++ todo) (f :: seen)
theorem via_eq {Q : Program} {T : List (List Nat)} (h : ∀ g, (Q.funcs[g]?).elim [] Q.leadsTo = at_ T g) : ∀ n todo seen, Q.closureVia n todo seen = viaT T n todo seen
  | 0, _, _ => by simp [Program.closureVia, viaT]
  | n + 1, [], seen => by simp [Program.closureVia, viaT]
  | n + 1, f :: todo, seen => by
    rw [Program.closureVia]
    show _ = (match hasN f seen with | true => viaT T n todo seen | false => viaT T n (at_ T f ++ todo) (f :: seen))
    rw [hasN_contains, via_eq h n, via_eq h n, h]
    cases hasN f seen <;> simp
theorem sum_eq {Q : Program} {T : List (List Nat)} (h : ∀ g, (Q.funcs[g]?).elim [] Q.leadsTo = at_ T g) (hs : Q.funcs.size = T.length) : (Q.funcs.toList.map fun g => (Q.leadsTo g).length + 1) = T.map fun l => l.length + 1 := by
  apply List.ext_getElem?
  intro g
  rw [List.getElem?_map, List.getElem?_map, Array.getElem?_toList]
  have hg := h g
  unfold at_ at hg
  by_cases hlt : g < Q.funcs.size
  · rw [Array.getElem?_eq_getElem hlt] at hg ⊢
    rw [List.getElem?_eq_getElem (by omega)] at hg ⊢
    simp only [Option.elim_some, Option.getD_some] at hg
    simp only [Option.map_some, hg]
  · rw [Array.getElem?_eq_none (by omega), List.getElem?_eq_none (by omega)]; rfl
def leads : List (List Nat) := [[], [], [1], [4, 6, 5, 7, 5, 7, 5, 7, 5, 6, 5, 7, 5, 8, 7, 5, 7, 5, 7, 5, 7, 5, 9, 10, 7, 5, 10, 11, 7, 5, 7, 5, 7, 5, 9, 7, 5, 7, 5, 7, 5, 12, 13], [14, 7, 5, 7, 5], [15, 16, 17], [], [], [15, 18], [15, 16], [13], [], [4, 19, 9, 10, 11, 8, 6, 5, 7, 5, 13, 20], [9, 21], [22, 23, 24], [], [], [25, 26, 27, 28, 28, 28, 28, 28, 29, 29, 29, 29, 29, 29, 30, 31, 31, 31, 32, 33, 34], [], [15, 35], [15, 16, 36], [37, 38], [39, 40], [], [41], [42, 22, 24, 43, 43], [44, 45], [46, 45], [47, 48, 49, 50, 51], [52, 53, 54, 55, 56, 57], [58, 59], [60, 9, 61], [62], [63], [24, 43], [], [64, 65], [], [66, 67, 68, 69], [70], [], [71], [72, 73, 74], [9, 75, 21, 76, 77, 21, 79, 78, 80], [72, 73, 35], [43], [72, 73, 73, 81, 76, 35], [83, 85, 82], [86, 85, 82], [87, 85, 82], [88, 85, 82], [90, 92, 82], [94, 95, 97, 96, 98, 99], [94, 100, 101, 102, 104, 106, 107, 108, 107], [109, 110, 69, 99, 111, 112, 113], [109, 111, 114], [109, 99], [109, 97, 115, 98, 99], [109, 116, 117, 118], [119], [], [109, 120, 121, 122, 121, 123, 124, 125, 126], [127, 128, 70], [127, 129, 130, 131, 70], [], [132, 133], [134, 134, 134, 134, 135, 136, 137, 139, 138, 140], [141, 142, 143, 144, 18, 145, 18, 145, 146], [147, 148, 149, 150, 151], [66, 134, 67, 152], [153], [155, 154], [73, 81], [], [157], [], [158], [109, 99], [159], [], [109, 99, 99, 160], [161], [64, 163, 162], [65, 84], [164], [166], [65, 84], [65, 84], [89], [167, 168, 132, 170, 171, 169], [91], [167, 168, 168, 132, 132, 93, 172, 170, 93, 168, 173, 174], [93], [168, 168, 175, 176], [109], [177, 136, 36, 178, 179, 180, 188, 187, 189, 187, 186], [136, 190, 191, 192], [], [193], [69, 194, 195, 196], [197], [198, 199, 200, 201, 202, 203, 203, 204, 205], [103], [206, 207, 208, 18, 209], [105], [206, 210, 211, 130], [212, 198, 18, 213], [214, 105], [99], [37, 71, 215], [216, 217], [218], [221, 222, 99, 223], [216, 224, 59, 59], [225, 226], [135, 227, 168, 228, 229, 230, 18, 231], [232, 233, 234, 234, 235, 236, 237], [225, 238, 226, 18, 239], [240, 201, 204, 203, 205, 241], [], [241, 242, 147, 148, 148, 243, 150, 240], [225], [225, 244, 131, 131, 238, 245, 18], [246, 247], [248, 249, 250], [225], [147, 148, 148, 251, 150, 252], [], [253], [127, 255, 254], [256], [258, 257], [260, 259], [18], [], [261, 262, 263], [264, 263, 265, 167], [266, 267, 227, 227, 268], [269], [], [270], [], [], [], [], [], [145], [271], [272], [273, 193, 274, 275, 276, 199, 277, 278, 200, 279, 280, 278, 200, 279, 280, 280, 280, 280, 280, 280], [281], [185, 185, 134, 231, 168, 228, 270, 227, 270, 134, 134, 134], [282, 283, 284, 285, 286, 287, 288, 289], [], [128, 290], [156], [62, 291, 292, 293, 38, 294, 295, 99, 160], [], [], [], [296, 297], [298], [], [65], [165], [167, 168, 228, 172, 132, 299, 170, 133, 300, 174, 301], [], [168, 228, 263, 172], [302, 303], [259], [133], [93], [304, 132], [306, 305], [263, 263], [307], [308], [49], [309], [310, 311, 312, 313], [181], [182, 183, 184, 185], [65], [64], [315, 314, 316], [317], [318], [], [319], [320], [227], [136, 227, 168, 228, 321, 18, 231, 322, 323], [184], [231, 199, 200, 201, 204, 204, 202, 203, 203, 205], [151, 201, 204, 149, 205], [324, 325, 328, 327, 326], [324, 325, 105, 326], [95, 329], [168, 228, 270], [228, 201, 204, 204, 203, 205], [270, 330, 330, 330, 331], [], [203], [332, 333], [333, 332], [271], [127, 128], [334, 208], [211, 256], [210], [238, 131, 245, 59], [], [95], [335, 85, 82], [336, 209], [337], [], [18, 145], [220, 219], [338, 339], [340], [], [341], [341], [342], [], [], [], [343], [345, 344], [347, 346], [348, 349, 350, 351, 352], [225], [225], [], [353, 354, 193, 355], [252, 201, 204, 204, 204, 204, 203, 205], [225, 226, 18], [356], [258, 357], [358], [359], [], [272, 148, 271], [70, 131], [360], [], [361], [362, 274, 363], [246], [246, 99], [364, 365], [], [], [367, 366, 369, 368], [], [], [], [], [], [], [370], [231, 268, 371, 138], [312], [168, 228, 270], [316], [], [], [373], [], [], [], [], [374, 375], [147, 148, 148, 377, 243, 243, 150, 277, 279, 231], [378, 379], [381, 382], [147, 148, 148, 243, 150, 228], [384, 385], [387, 388, 387, 387, 270], [389, 390], [272], [231, 391, 322, 392], [231, 391], [392], [146, 140, 393], [353, 394, 393], [395, 396], [134], [397], [398, 399, 128, 131], [66], [336, 400, 154], [337], [], [95, 336, 401, 402, 108, 107], [131], [], [73], [170, 403, 169], [], [404, 405], [406], [407, 408, 409], [411], [412, 413, 414, 415, 416, 417, 418, 419, 305, 305], [420, 421], [308], [], [], [], [306, 422], [424, 424, 423, 425], [], [], [], [18, 145], [427, 427, 428, 429], [], [], [], [136, 168, 430, 431], [270, 227, 431], [136, 264, 316, 263, 316, 432, 136], [337, 400, 154], [], [], [206, 207, 18, 209], [433, 359, 433], [434, 435], [], [436], [], [421], [127, 128, 437, 254], [168, 228, 84, 299, 65, 89], [206, 208, 18], [], [438], [306, 439], [], [], [440], [], [], [], [231, 431, 322], [442, 441], [227], [168], [228], [270], [443], [444, 159, 146], [445, 446, 269], [388, 18], [], [], [], [449, 448], [], [], [361, 252, 247, 247], [216, 98, 224, 450, 231, 217, 59, 59, 451], [], [148, 148, 243], [452, 453], [454], [455], [], [], [372], [231, 231, 456], [427, 427, 429], [203], [243, 376], [], [243], [202], [377, 380], [], [203], [243, 383], [], [203], [243, 386], [], [], [457], [204], [148, 380], [458], [323], [395, 459], [140, 227, 322, 460], [461, 462], [], [137, 144, 266, 267, 463, 464], [465], [466], [325, 467, 467, 468, 433, 328, 469, 103, 105], [147, 377, 243, 243, 148, 150, 277, 279, 198], [212, 136, 198, 36, 65, 185, 470, 183, 470, 470], [93], [], [471], [472], [476, 475, 477, 479, 478, 481, 480], [482], [410], [483], [168, 484], [], [485, 485], [486, 487], [488, 488, 488, 489], [], [], [], [], [], [], [490, 491, 492, 493, 494, 495, 496, 497, 422, 422], [], [498], [426], [499, 499], [500, 500], [501], [], [168, 93, 93], [502, 503], [504, 505], [], [136, 138, 506, 507, 508, 509, 184, 431, 316], [183], [], [208], [], [510, 511, 512, 513, 514, 515, 516, 517, 518, 439, 439], [], [520, 521, 519], [430], [523, 522], [], [135, 140, 526, 525, 524, 527], [447], [528], [530, 529, 531], [], [216, 238, 238], [238, 245], [532], [306, 533], [], [], [270, 535, 534], [], [135, 231, 536, 138, 261, 263, 537, 537, 538, 537, 520], [539, 540], [145], [], [427], [541], [542, 543, 544, 545, 546], [547, 548, 549, 550, 551], [552, 547, 553, 554, 549], [336], [555, 556], [555, 556, 556], [], [557, 557, 557], [473, 474], [558], [559], [], [], [], [560], [560], [473, 410], [561, 410], [562], [563, 564, 563, 565, 566], [567], [], [306], [], [489], [568, 568, 568], [], [569, 569], [486, 487], [570, 570, 570, 571], [], [], [], [], [572, 573, 474], [], [], [], [270, 270, 145, 145, 574], [], [], [575], [231], [576], [579, 580, 581, 582, 583], [262, 346], [516], [584, 584], [486, 487], [585, 585, 585, 586], [], [516, 516, 516], [500, 500], [516, 516], [516, 516, 516, 516], [269], [18, 145], [], [270], [], [587, 588], [589], [590, 441], [427, 427, 429], [], [], [591], [], [], [592, 593, 594, 595, 596, 597, 598, 599, 600, 533, 533], [601], [], [], [602], [603], [], [604], [], [605], [606, 268], [306, 607], [427, 427, 427, 427, 429], [], [], [], [], [], [608, 548, 609, 610, 548, 611, 612, 611, 610, 553, 549, 550], [], [], [613, 548, 614, 614], [615], [], [], [], [616, 566, 616, 565, 566, 617], [], [618, 473], [], [616], [], [], [], [], [], [], [571], [619, 619, 619], [620, 473], [620, 621, 474], [622, 622, 623, 624, 624], [625, 625, 625], [179, 577, 578], [626], [268, 268], [627], [628, 138], [509, 184, 185, 630], [632, 631], [304, 184], [516, 516], [586], [633, 633, 633], [634], [306, 635], [], [456], [], [598], [636, 636], [486, 487], [637, 637, 637, 638], [], [598, 598, 598], [499, 499], [598, 598], [598, 598, 598, 598], [], [], [262, 262, 640, 639, 642], [643, 643, 643], [], [231, 231, 372, 372, 185, 644, 644], [645, 646, 647, 648, 649, 650, 651, 652, 607, 607], [], [], [], [], [], [], [], [556, 359, 556], [653], [654], [], [], [], [], [], [], [], [], [655, 655, 656, 656], [657], [629], [606, 658], [659], [314], [93], [516], [], [655, 660, 661, 662, 663, 664, 665, 666, 635, 635], [598, 598], [638], [667, 667, 667], [], [641], [668, 138, 141, 669, 519, 670, 671, 672], [18, 145], [], [93], [], [673, 673], [486, 487], [674, 674, 674, 675], [], [], [], [], [], [], [], [676, 656, 656], [262, 642, 677, 678, 680, 185], [681, 682, 373, 683], [502, 684], [685, 685], [486, 487], [686, 686, 686, 687], [], [], [], [], [598], [372], [372], [], [427, 427, 429], [688, 689], [], [675], [690, 690, 690], [691, 691, 691], [306, 692], [679, 679], [317], [], [], [306, 693], [], [], [], [687], [694, 694, 694], [], [695], [], [], [696, 697, 698, 699, 700, 701, 702, 703, 692, 692], [704, 705, 706, 707, 708, 709, 710, 711, 693, 693], [], [712, 712, 712], [], [713, 713], [486, 487], [714, 714, 714, 715], [], [], [], [], [], [716, 716], [486, 487], [717, 717, 717, 718], [], [], [], [], [], [], [715], [719, 719, 719], [], [718], [720, 720, 720], [], [], [], [], [], [], [], [], [], [], [], [], [], [], [], [], [], [], [], [], [], [], [18], [], [], [], [], [331], [], [], [], [], [], [], [], []]
def globs : List (List Nat) := [[], [], [], [], [], [], [], [], [], [], [], [], [], [], [], [], [], [], [], [], [], [], [], [], [], [], [], [], [], [], [], [], [], [], [], [], [], [], [], [], [], [], [], [], [], [], [], [], [], [], [], [], [], [], [], [], [], [], [], [], [], [], [], [], [], [], [], [], [], [], [], [], [], [], [], [], [], [], [], [], [], [], [], [], [], [], [], [], [], [], [], [], [], [], [], [], [], [], [], [], [], [], [], [], [], [], [], [], [], [], [], [], [], [], [], [], [], [], [], [], [], [], [], [], [], [], [], [], [], [], [], [], [], [], [], [], [], [], [], [], [], [], [], [], [], [], [], [], [], [], [], [], [], [], [], [], [], [], [], [], [], [], [], [], [], [], [], [], [], [], [], [], [], [], [], [], [], [], [], [], [], [], [], [], [], [], [], [], [], [], [], [], [], [], [], [], [], [], [], [], [], [], [], [], [], [], [], [], [], [], [], [], [], [], [], [], [], [], [], [], [], [], [], [], [], [], [], [], [], [], [], [], [], [], [], [], [], [], [], [], [], [], [], [], [], [], [], [], [], [], [], [], [], [], [], [], [], [], [], [], [], [], [], [], [], [], [], [], [], [], [], [], [], [], [], [], [], [], [], [], [], [], [], [], [], [], [], [], [], [], [], [], [], [], [], [], [], [], [], [], [], [], [], [], [], [], [], [], [], [], [], [], [], [], [], [], [], [], [], [], [], [], [], [], [], [], [], [], [], [], [], [], [], [], [], [], [], [], [], [], [], [], [], [], [], [], [], [], [], [], [], [], [], [], [], [], [], [], [], [], [], [], [], [], [], [], [], [], [], [], [], [], [], [], [], [], [], [], [], [], [], [], [], [], [], [], [], [], [], [], [], [], [], [], [], [], [], [], [], [], [], [], [], [], [], [], [], [], [], [], [], [], [], [], [], [], [], [], [], [], [], [], [], [], [], [], [], [], [], [], [], [], [], [], [], [], [], [], [], [], [], [], [], [], [], [], [], [], [], [], [], [], [], [], [], [], [], [], [], [], [], [], [], [], [], [], [], [], [], [], [], [], [], [], [], [], [], [], [], [], [], [], [], [], [], [], [], [], [], [], [], [], [], [], [], [], [], [], [], [], [], [], [], [], [], [], [], [], [], [], [], [], [], [], [], [], [], [], [], [], [], [], [], [], [], [], [], [], [], [], [], [], [], [], [], [], [], [], [], [], [], [], [], [], [], [], [], [], [], [], [], [], [], [], [], [], [], [], [1, 2], [0, 0, 0], [], [], [], [], [], [], [], [], [], [], [], [], [], [], [], [], [], [], [], [], [], [], [], [], [], [], [], [], [], [], [], [], [], [], [], [], [], [], [], [], [], [], [], [], [], [], [], [], [], [], [], [], [], [], [], [], [], [], [], [], [], [], [], [], [], [], [], [], [], [], [], [], [], [], [], [], [], [], [], [], [], [], [], [], [], [], [], [], [], [], [], [], [], [], [], [], [], [], [], [], [], [], [], [], [], [], [], [], [], [], [], [], [], [], [], [], [], [], [], [], [], [], [], [], [], [], [], [], [], [], [], [], [], [], [], [], [], [], [], [], [], [], [], [], [], [], [], [], [], [], [], [], [], [], [], [], [], [], [], [], [], [], [], [], [], [], [], [], [], [], [], [], [], [], [], [], [], [], [], [], [], [], [], [], [], [], [], [], [], [], [], [], [], [], [2]]
def clo : List Nat := [3, 4, 14, 22, 39, 70, 153, 40, 23, 24, 41, 71, 155, 156, 62, 127, 128, 253, 291, 66, 134, 135, 261, 370, 262, 231, 348, 227, 349, 168, 302, 406, 472, 473, 558, 474, 559, 616, 653, 566, 565, 617, 654, 303, 407, 476, 475, 477, 479, 560, 478, 481, 561, 618, 410, 483, 563, 564, 480, 408, 482, 562, 409, 350, 228, 343, 351, 270, 352, 443, 523, 522, 268, 373, 427, 500, 429, 371, 372, 456, 535, 534, 601, 138, 269, 263, 312, 424, 498, 572, 620, 573, 621, 423, 425, 426, 499, 136, 264, 265, 316, 18, 145, 167, 172, 304, 411, 484, 567, 132, 260, 259, 137, 266, 267, 139, 140, 292, 336, 206, 208, 211, 256, 400, 325, 467, 468, 555, 615, 556, 359, 449, 448, 530, 591, 529, 531, 433, 328, 469, 103, 207, 334, 437, 254, 367, 454, 366, 452, 532, 453, 306, 420, 421, 533, 592, 598, 593, 636, 594, 486, 487, 595, 637, 638, 667, 596, 597, 599, 600, 369, 368, 455, 209, 210, 238, 356, 131, 258, 257, 245, 360, 59, 119, 105, 130, 154, 290, 398, 465, 547, 548, 549, 550, 551, 608, 609, 610, 611, 612, 553, 399, 466, 552, 554, 613, 614, 293, 337, 38, 67, 141, 142, 143, 144, 146, 68, 147, 271, 148, 272, 149, 273, 374, 203, 332, 333, 375, 243, 376, 193, 199, 201, 204, 205, 200, 330, 331, 436, 202, 274, 377, 150, 281, 277, 279, 387, 388, 457, 275, 378, 379, 380, 276, 381, 382, 383, 278, 384, 385, 386, 280, 389, 390, 151, 185, 317, 428, 501, 69, 152, 282, 391, 458, 536, 537, 602, 538, 603, 640, 641, 668, 669, 519, 670, 671, 672, 688, 689, 695, 712, 639, 642, 520, 322, 431, 502, 574, 622, 623, 624, 503, 392, 323, 432, 504, 505, 575, 625, 283, 284, 285, 393, 395, 461, 462, 459, 539, 540, 604, 643, 286, 353, 444, 159, 394, 460, 287, 396, 288, 289, 397, 463, 541, 464, 542, 605, 543, 606, 644, 93, 175, 307, 308, 176, 544, 607, 645, 646, 673, 647, 648, 674, 675, 690, 649, 650, 651, 652, 545, 546, 294, 295, 95, 177, 49, 87, 65, 133, 84, 164, 165, 299, 170, 403, 169, 300, 174, 301, 404, 405, 471, 557, 85, 166, 82, 64, 163, 162, 36, 178, 309, 179, 310, 311, 422, 490, 491, 569, 492, 493, 570, 571, 619, 494, 495, 496, 497, 313, 180, 181, 182, 183, 184, 315, 314, 188, 319, 187, 189, 320, 186, 318, 401, 198, 402, 212, 470, 108, 99, 194, 195, 324, 327, 326, 196, 107, 214, 160, 296, 297, 7, 5, 15, 16, 17, 25, 42, 72, 73, 81, 161, 298, 74, 157, 43, 9, 75, 21, 37, 76, 158, 77, 109, 215, 79, 78, 80, 26, 44, 35, 45, 27, 46, 28, 47, 83, 48, 86, 50, 88, 89, 171, 51, 90, 91, 173, 305, 412, 413, 485, 414, 415, 488, 489, 568, 416, 417, 418, 419, 92, 29, 52, 94, 97, 96, 190, 191, 321, 430, 192, 98, 53, 100, 197, 329, 434, 506, 507, 576, 577, 626, 655, 656, 676, 691, 578, 508, 579, 627, 657, 677, 692, 696, 697, 713, 698, 699, 714, 715, 719, 700, 701, 702, 703, 678, 679, 680, 580, 628, 629, 658, 681, 682, 693, 704, 705, 716, 706, 707, 717, 718, 720, 708, 709, 710, 711, 683, 581, 509, 346, 630, 659, 684, 582, 632, 631, 583, 435, 101, 102, 104, 106, 213, 335, 54, 110, 216, 217, 111, 218, 220, 340, 219, 338, 438, 339, 439, 510, 516, 511, 584, 512, 513, 585, 586, 633, 514, 515, 517, 518, 112, 221, 222, 341, 223, 113, 224, 342, 440, 55, 114, 225, 226, 56, 57, 115, 229, 345, 344, 230, 347, 442, 441, 521, 30, 58, 116, 232, 233, 234, 235, 354, 445, 526, 590, 525, 589, 524, 587, 634, 588, 635, 660, 685, 661, 662, 686, 687, 694, 663, 664, 665, 666, 527, 446, 447, 528, 355, 236, 252, 237, 117, 239, 357, 118, 240, 358, 241, 31, 60, 61, 120, 242, 121, 122, 244, 123, 246, 247, 361, 124, 248, 362, 363, 450, 451, 249, 250, 125, 126, 251, 364, 365, 32, 33, 63, 129, 255, 34, 6, 8, 10, 13, 11, 12, 19, 20]
noncomputable def okL (g : Nat) : Bool := eqN ((P.funcs[g]?).elim [] P.leadsTo) (at_ leads g)
noncomputable def okG (g : Nat) : Bool := eqN (((P.funcs[g]?).bind (·.body)).elim [] Code.globalsNamed) (at_ globs g)
noncomputable def okR (t : Nat) : Bool := rowFine P t
theorem sizeF : P.funcs.size = 755 := by kernel_rfl
theorem sizeT : P.types.size = 789 := by kernel_rfl
theorem cl0 : (List.range' 0 40).all okL = true := by kernel_rfl
theorem cg0 : (List.range' 0 40).all okG = true := by kernel_rfl
theorem cl1 : (List.range' 40 40).all okL = true := by kernel_rfl
theorem cg1 : (List.range' 40 40).all okG = true := by kernel_rfl
theorem cl2 : (List.range' 80 40).all okL = true := by kernel_rfl
theorem cg2 : (List.range' 80 40).all okG = true := by kernel_rfl
theorem cl3 : (List.range' 120 40).all okL = true := by kernel_rfl
theorem cg3 : (List.range' 120 40).all okG = true := by kernel_rfl
theorem cl4 : (List.range' 160 40).all okL = true := by kernel_rfl
theorem cg4 : (List.range' 160 40).all okG = true := by kernel_rfl
theorem cl5 : (List.range' 200 40).all okL = true := by kernel_rfl
theorem cg5 : (List.range' 200 40).all okG = true := by kernel_rfl
theorem cl6 : (List.range' 240 40).all okL = true := by kernel_rfl
theorem cg6 : (List.range' 240 40).all okG = true := by kernel_rfl
theorem cl7 : (List.range' 280 40).all okL = true := by kernel_rfl
theorem cg7 : (List.range' 280 40).all okG = true := by kernel_rfl
theorem cl8 : (List.range' 320 40).all okL = true := by kernel_rfl
theorem cg8 : (List.range' 320 40).all okG = true := by kernel_rfl
theorem cl9 : (List.range' 360 40).all okL = true := by kernel_rfl
theorem cg9 : (List.range' 360 40).all okG = true := by kernel_rfl
theorem cl10 : (List.range' 400 40).all okL = true := by kernel_rfl
theorem cg10 : (List.range' 400 40).all okG = true := by kernel_rfl
theorem cl11 : (List.range' 440 40).all okL = true := by kernel_rfl
theorem cg11 : (List.range' 440 40).all okG = true := by kernel_rfl
theorem cl12 : (List.range' 480 40).all okL = true := by kernel_rfl
theorem cg12 : (List.range' 480 40).all okG = true := by kernel_rfl
theorem cl13 : (List.range' 520 40).all okL = true := by kernel_rfl
theorem cg13 : (List.range' 520 40).all okG = true := by kernel_rfl
theorem cl14 : (List.range' 560 40).all okL = true := by kernel_rfl
theorem cg14 : (List.range' 560 40).all okG = true := by kernel_rfl
theorem cl15 : (List.range' 600 40).all okL = true := by kernel_rfl
theorem cg15 : (List.range' 600 40).all okG = true := by kernel_rfl
theorem cl16 : (List.range' 640 40).all okL = true := by kernel_rfl
theorem cg16 : (List.range' 640 40).all okG = true := by kernel_rfl
theorem cl17 : (List.range' 680 40).all okL = true := by kernel_rfl
theorem cg17 : (List.range' 680 40).all okG = true := by kernel_rfl
theorem cl18 : (List.range' 720 35).all okL = true := by kernel_rfl
theorem cg18 : (List.range' 720 35).all okG = true := by kernel_rfl
theorem cr0 : (List.range' 0 40).all okR = true := by kernel_rfl
theorem cr1 : (List.range' 40 40).all okR = true := by kernel_rfl
theorem cr2 : (List.range' 80 40).all okR = true := by kernel_rfl
theorem cr3 : (List.range' 120 40).all okR = true := by kernel_rfl
theorem cr4 : (List.range' 160 40).all okR = true := by kernel_rfl
theorem cr5 : (List.range' 200 40).all okR = true := by kernel_rfl
theorem cr6 : (List.range' 240 40).all okR = true := by kernel_rfl
theorem cr7 : (List.range' 280 40).all okR = true := by kernel_rfl
theorem cr8 : (List.range' 320 40).all okR = true := by kernel_rfl
theorem cr9 : (List.range' 360 40).all okR = true := by kernel_rfl
theorem cr10 : (List.range' 400 40).all okR = true := by kernel_rfl
theorem cr11 : (List.range' 440 40).all okR = true := by kernel_rfl
theorem cr12 : (List.range' 480 40).all okR = true := by kernel_rfl
theorem cr13 : (List.range' 520 40).all okR = true := by kernel_rfl
theorem cr14 : (List.range' 560 40).all okR = true := by kernel_rfl
theorem cr15 : (List.range' 600 40).all okR = true := by kernel_rfl
theorem cr16 : (List.range' 640 40).all okR = true := by kernel_rfl
theorem cr17 : (List.range' 680 40).all okR = true := by kernel_rfl
theorem cr18 : (List.range' 720 40).all okR = true := by kernel_rfl
theorem cr19 : (List.range' 760 29).all okR = true := by kernel_rfl
theorem ptL : ∀ g, g < 755 → okL g = true := by
  intro g hg
  rcases Nat.lt_or_ge g 40 with h0 | h0
  · exact ch cl0 (Nat.zero_le _) h0
  rcases Nat.lt_or_ge g 80 with h1 | h1
  · exact ch cl1 h0 h1
  rcases Nat.lt_or_ge g 120 with h2 | h2
  · exact ch cl2 h1 h2
  rcases Nat.lt_or_ge g 160 with h3 | h3
  · exact ch cl3 h2 h3
  rcases Nat.lt_or_ge g 200 with h4 | h4
  · exact ch cl4 h3 h4
  rcases Nat.lt_or_ge g 240 with h5 | h5
  · exact ch cl5 h4 h5
  rcases Nat.lt_or_ge g 280 with h6 | h6
  · exact ch cl6 h5 h6
  rcases Nat.lt_or_ge g 320 with h7 | h7
  · exact ch cl7 h6 h7
  rcases Nat.lt_or_ge g 360 with h8 | h8
  · exact ch cl8 h7 h8
  rcases Nat.lt_or_ge g 400 with h9 | h9
  · exact ch cl9 h8 h9
  rcases Nat.lt_or_ge g 440 with h10 | h10
  · exact ch cl10 h9 h10
  rcases Nat.lt_or_ge g 480 with h11 | h11
  · exact ch cl11 h10 h11
  rcases Nat.lt_or_ge g 520 with h12 | h12
  · exact ch cl12 h11 h12
  rcases Nat.lt_or_ge g 560 with h13 | h13
  · exact ch cl13 h12 h13
  rcases Nat.lt_or_ge g 600 with h14 | h14
  · exact ch cl14 h13 h14
  rcases Nat.lt_or_ge g 640 with h15 | h15
  · exact ch cl15 h14 h15
  rcases Nat.lt_or_ge g 680 with h16 | h16
  · exact ch cl16 h15 h16
  rcases Nat.lt_or_ge g 720 with h17 | h17
  · exact ch cl17 h16 h17
  rcases Nat.lt_or_ge g 755 with h18 | h18
  · exact ch cl18 h17 h18
  · omega
theorem ptG : ∀ g, g < 755 → okG g = true := by
  intro g hg
  rcases Nat.lt_or_ge g 40 with h0 | h0
  · exact ch cg0 (Nat.zero_le _) h0
  rcases Nat.lt_or_ge g 80 with h1 | h1
  · exact ch cg1 h0 h1
  rcases Nat.lt_or_ge g 120 with h2 | h2
  · exact ch cg2 h1 h2
  rcases Nat.lt_or_ge g 160 with h3 | h3
  · exact ch cg3 h2 h3
  rcases Nat.lt_or_ge g 200 with h4 | h4
  · exact ch cg4 h3 h4
  rcases Nat.lt_or_ge g 240 with h5 | h5
  · exact ch cg5 h4 h5
  rcases Nat.lt_or_ge g 280 with h6 | h6
  · exact ch cg6 h5 h6
  rcases Nat.lt_or_ge g 320 with h7 | h7
  · exact ch cg7 h6 h7
  rcases Nat.lt_or_ge g 360 with h8 | h8
  · exact ch cg8 h7 h8
  rcases Nat.lt_or_ge g 400 with h9 | h9
  · exact ch cg9 h8 h9
  rcases Nat.lt_or_ge g 440 with h10 | h10
  · exact ch cg10 h9 h10
  rcases Nat.lt_or_ge g 480 with h11 | h11
  · exact ch cg11 h10 h11
  rcases Nat.lt_or_ge g 520 with h12 | h12
  · exact ch cg12 h11 h12
  rcases Nat.lt_or_ge g 560 with h13 | h13
  · exact ch cg13 h12 h13
  rcases Nat.lt_or_ge g 600 with h14 | h14
  · exact ch cg14 h13 h14
  rcases Nat.lt_or_ge g 640 with h15 | h15
  · exact ch cg15 h14 h15
  rcases Nat.lt_or_ge g 680 with h16 | h16
  · exact ch cg16 h15 h16
  rcases Nat.lt_or_ge g 720 with h17 | h17
  · exact ch cg17 h16 h17
  rcases Nat.lt_or_ge g 755 with h18 | h18
  · exact ch cg18 h17 h18
  · omega
theorem ptR : ∀ g, g < 789 → okR g = true := by
  intro g hg
  rcases Nat.lt_or_ge g 40 with h0 | h0
  · exact ch cr0 (Nat.zero_le _) h0
  rcases Nat.lt_or_ge g 80 with h1 | h1
  · exact ch cr1 h0 h1
  rcases Nat.lt_or_ge g 120 with h2 | h2
  · exact ch cr2 h1 h2
  rcases Nat.lt_or_ge g 160 with h3 | h3
  · exact ch cr3 h2 h3
  rcases Nat.lt_or_ge g 200 with h4 | h4
  · exact ch cr4 h3 h4
  rcases Nat.lt_or_ge g 240 with h5 | h5
  · exact ch cr5 h4 h5
  rcases Nat.lt_or_ge g 280 with h6 | h6
  · exact ch cr6 h5 h6
  rcases Nat.lt_or_ge g 320 with h7 | h7
  · exact ch cr7 h6 h7
  rcases Nat.lt_or_ge g 360 with h8 | h8
  · exact ch cr8 h7 h8
  rcases Nat.lt_or_ge g 400 with h9 | h9
  · exact ch cr9 h8 h9
  rcases Nat.lt_or_ge g 440 with h10 | h10
  · exact ch cr10 h9 h10
  rcases Nat.lt_or_ge g 480 with h11 | h11
  · exact ch cr11 h10 h11
  rcases Nat.lt_or_ge g 520 with h12 | h12
  · exact ch cr12 h11 h12
  rcases Nat.lt_or_ge g 560 with h13 | h13
  · exact ch cr13 h12 h13
  rcases Nat.lt_or_ge g 600 with h14 | h14
  · exact ch cr14 h13 h14
  rcases Nat.lt_or_ge g 640 with h15 | h15
  · exact ch cr15 h14 h15
  rcases Nat.lt_or_ge g 680 with h16 | h16
  · exact ch cr16 h15 h16
  rcases Nat.lt_or_ge g 720 with h17 | h17
  · exact ch cr17 h16 h17
  rcases Nat.lt_or_ge g 760 with h18 | h18
  · exact ch cr18 h17 h18
  rcases Nat.lt_or_ge g 789 with h19 | h19
  · exact ch cr19 h18 h19
  · omega
theorem leads_eq (g : Nat) : (P.funcs[g]?).elim [] P.leadsTo = at_ leads g := by
  rcases Nat.lt_or_ge g 755 with h | h
  · exact eqN_eq (ptL g h)
  · rw [Array.getElem?_eq_none (by rw [sizeF]; exact h)]
    unfold at_
    rw [List.getElem?_eq_none (by rw [show leads.length = 755 by kernel_rfl]; exact h)]; rfl
theorem globs_eq (g : Nat) : ((P.funcs[g]?).bind (·.body)).elim [] Code.globalsNamed = at_ globs g := by
  rcases Nat.lt_or_ge g 755 with h | h
  · exact eqN_eq (ptG g h)
  · rw [Array.getElem?_eq_none (by rw [sizeF]; exact h)]
    unfold at_
    rw [List.getElem?_eq_none (by rw [show globs.length = 755 by kernel_rfl]; exact h)]; rfl
theorem closure_eq : P.closure 3 = clo := by
  unfold Program.closure
  rw [sum_eq leads_eq (by rw [sizeF]; kernel_rfl), via_eq leads_eq]
  exact eqN_eq (by kernel_rfl)
theorem laidOut : laidOutB P = true := by
  have h1 : (List.range P.types.size).all (rowFine P) = true := by
    rw [sizeT]
    exact List.all_eq_true.2 fun t ht => ptR t (List.mem_range.1 ht)
  have h2 : (P.globals.all (fun g => decide (g.type < P.types.size))) = true := by kernel_rfl
  have h3 : (P.funcs.all (fun f => f.params.all fun t => decide (t < P.types.size))) = true := by kernel_rfl
  unfold laidOutB
  rw [h1, h2, h3]; rfl
theorem inPlace : (Rows.fleetKnownRow.inPlace == P.inPlace 3) = true := by
  unfold Program.inPlace
  rw [closure_eq]
  kernel_rfl
theorem unfollowed_true : P.unfollowed 3 = true := by
  unfold Program.unfollowed
  rw [closure_eq]
  exact List.any_eq_true.2 ⟨135, List.contains_iff_mem.1 (by rw [hasN_contains]; kernel_rfl), by kernel_rfl⟩
theorem unfollowed : (Rows.fleetKnownRow.unfollowed == P.unfollowed 3) = true := by
  rw [unfollowed_true]; rfl
theorem recurses : (Rows.fleetKnownRow.recurses == P.recurses 3) = true := by
  unfold Program.recurses
  rw [unfollowed_true, Bool.true_or]; rfl
theorem named_eq : P.varsNamed 3 = (((clo.flatMap (at_ globs)).eraseDups).filterMap (fun g => (P.globals[g]?).map (·.name)) ++ clo.filterMap fun g => (P.funcs[g]?).bind fun fn => if fn.body.isNone then entryReads.lookup fn.name else none).eraseDups := by
  unfold Program.varsNamed
  have e : (fun g => ((P.funcs[g]?).bind (·.body)).elim [] Code.globalsNamed) = at_ globs := funext globs_eq
  rw [closure_eq, e]
theorem named : (Rows.fleetKnownRow.named == P.varsNamed 3) = true := by
  rw [named_eq]
  kernel_rfl
end Go.Proofs.YtggnokfchfipaaaGreatDoor.Facts
