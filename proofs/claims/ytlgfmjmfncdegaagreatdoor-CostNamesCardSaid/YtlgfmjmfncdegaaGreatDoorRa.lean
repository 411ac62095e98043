/- What the law can come to: its closure, and the row's cells out of it. No conditions. -/
import Derived.Test.YtlgfmjmfncdegaaGreatDoorVm5
import Derived.Test.YtlgfmjmfncdegaaGreatDoorRows
import Derived.Test.YtlgfmjmfncdegaaGreatDoorEb
namespace Go.Proofs.YtlgfmjmfncdegaaGreatDoor
open Go Go.Vt
theorem ln430 : (entryEnters.lookup Tryz.f430.name).isNone = true := by kernel_rfl
theorem ln420 : (entryEnters.lookup Tryz.f420.name).isNone = true := by kernel_rfl
theorem ln510 : (entryEnters.lookup Tryz.f510.name).isNone = true := by kernel_rfl
theorem ln658 : (entryEnters.lookup Tryz.f658.name).isNone = true := by kernel_rfl
theorem ln659 : (entryEnters.lookup Tryz.f659.name).isNone = true := by kernel_rfl
theorem ln660 : (entryEnters.lookup Tryz.f660.name).isNone = true := by kernel_rfl
theorem ln661 : (entryEnters.lookup Tryz.f661.name).isNone = true := by kernel_rfl
theorem ln700 : (entryEnters.lookup Tryz.f700.name).isNone = true := by kernel_rfl
theorem ln701 : (entryEnters.lookup Tryz.f701.name).isNone = true := by kernel_rfl
theorem ln702 : (entryEnters.lookup Tryz.f702.name).isNone = true := by kernel_rfl
theorem ln703 : (entryEnters.lookup Tryz.f703.name).isNone = true := by kernel_rfl
theorem ln704 : (entryEnters.lookup Tryz.f704.name).isNone = true := by kernel_rfl
theorem ln664 : (entryEnters.lookup Tryz.f664.name).isNone = true := by kernel_rfl
theorem ln663 : (entryEnters.lookup Tryz.f663.name).isNone = true := by kernel_rfl
theorem ln705 : (entryEnters.lookup Tryz.f705.name).isNone = true := by kernel_rfl
theorem ln706 : (entryEnters.lookup Tryz.f706.name).isNone = true := by kernel_rfl
theorem ln594 : (entryEnters.lookup Tryz.f594.name).isNone = true := by kernel_rfl
theorem ln397 : (entryEnters.lookup Tryz.f397.name).isNone = true := by kernel_rfl
theorem ln483 : (entryEnters.lookup Tryz.f483.name).isNone = true := by kernel_rfl
theorem ln310 : (entryEnters.lookup Tryz.f310.name).isNone = true := by kernel_rfl
theorem ln694 : (entryEnters.lookup Tryz.f694.name).isNone = true := by kernel_rfl
theorem ln695 : (entryEnters.lookup Tryz.f695.name).isNone = true := by kernel_rfl
noncomputable def nbL : List Nat := [430, 420, 510, 658, 659, 660, 661, 700, 701, 702, 703, 704, 664, 663, 705, 706, 594, 397, 483, 310, 694, 695]
theorem nbL_ok : LeadsNone Tryz.prog nbL := .cons Tryz.func430 ln430 rfl <| .cons Tryz.func420 ln420 rfl <| .cons Tryz.func510 ln510 rfl <| .cons Tryz.func658 ln658 rfl <| .cons Tryz.func659 ln659 rfl <| .cons Tryz.func660 ln660 rfl <| .cons Tryz.func661 ln661 rfl <| .cons Tryz.func700 ln700 rfl <| .cons Tryz.func701 ln701 rfl <| .cons Tryz.func702 ln702 rfl <| .cons Tryz.func703 ln703 rfl <| .cons Tryz.func704 ln704 rfl <| .cons Tryz.func664 ln664 rfl <| .cons Tryz.func663 ln663 rfl <| .cons Tryz.func705 ln705 rfl <| .cons Tryz.func706 ln706 rfl <| .cons Tryz.func594 ln594 rfl <| .cons Tryz.func397 ln397 rfl <| .cons Tryz.func483 ln483 rfl <| .cons Tryz.func310 ln310 rfl <| .cons Tryz.func694 ln694 rfl <| .cons Tryz.func695 ln695 rfl <| .nil
end Go.Proofs.YtlgfmjmfncdegaaGreatDoor
namespace Go.Proofs.YtlgfmjmfncdegaaGreatDoor
open Go Go.Vt
noncomputable def clL : List Nat := [3, 4, 9, 11, 25, 46, 78, 49, 81, 47, 29, 52, 83, 63, 135, 154, 136, 137, 239, 348, 240, 228, 337, 430, 138, 34, 60, 131, 61, 62, 133, 134, 237, 342, 346, 232, 238, 343, 344, 345, 347, 433, 132, 236, 35, 139, 140, 58, 129, 57, 141, 241, 349, 242, 215, 328, 243, 350, 434, 528, 603, 529, 435, 530, 436, 216, 329, 420, 421, 422, 516, 351, 437, 335, 244, 245, 353, 352, 247, 246, 248, 142, 143, 249, 354, 250, 251, 252, 355, 438, 301, 392, 439, 481, 356, 144, 145, 253, 357, 79, 184, 31, 55, 54, 126, 213, 325, 214, 327, 419, 514, 596, 666, 515, 597, 326, 417, 510, 418, 511, 592, 658, 659, 660, 661, 662, 700, 701, 702, 703, 704, 664, 512, 593, 663, 665, 705, 706, 513, 595, 594, 127, 128, 217, 218, 219, 220, 330, 423, 517, 424, 332, 425, 221, 331, 222, 223, 224, 225, 226, 333, 334, 426, 518, 519, 520, 524, 521, 598, 667, 599, 522, 600, 427, 523, 428, 525, 227, 336, 429, 32, 56, 303, 394, 395, 484, 302, 393, 396, 485, 33, 59, 130, 229, 231, 230, 233, 234, 339, 338, 235, 340, 431, 341, 432, 526, 527, 601, 602, 668, 669, 670, 707, 671, 708, 584, 585, 586, 651, 696, 709, 716, 710, 717, 718, 711, 719, 724, 720, 721, 262, 362, 444, 531, 532, 454, 604, 605, 533, 534, 606, 607, 673, 674, 725, 722, 672, 281, 378, 464, 555, 379, 466, 465, 467, 556, 486, 569, 487, 570, 638, 639, 571, 640, 641, 488, 572, 642, 689, 39, 64, 146, 254, 255, 147, 256, 148, 149, 27, 26, 48, 12, 28, 50, 51, 82, 186, 80, 185, 204, 321, 320, 13, 30, 53, 84, 187, 304, 305, 106, 85, 188, 86, 87, 189, 190, 306, 176, 191, 309, 308, 399, 307, 397, 398, 489, 573, 88, 89, 90, 91, 92, 93, 177, 178, 294, 295, 296, 391, 483, 192, 193, 310, 311, 400, 490, 94, 95, 73, 194, 96, 195, 97, 98, 99, 196, 100, 101, 197, 71, 14, 312, 401, 491, 267, 72, 574, 492, 575, 643, 690, 576, 644, 645, 646, 691, 402, 278, 374, 376, 461, 547, 613, 614, 680, 679, 712, 548, 615, 459, 616, 681, 200, 313, 314, 375, 460, 543, 545, 612, 546, 544, 682, 713, 462, 549, 617, 683, 550, 552, 551, 618, 619, 102, 103, 198, 104, 105, 107, 199, 108, 109, 110, 111, 21, 201, 315, 65, 150, 151, 152, 257, 258, 259, 260, 358, 440, 359, 161, 268, 269, 368, 367, 271, 318, 171, 287, 288, 289, 384, 470, 471, 558, 622, 623, 290, 407, 406, 270, 369, 370, 272, 273, 371, 456, 541, 609, 675, 542, 610, 676, 611, 677, 678, 182, 300, 274, 372, 457, 458, 275, 373, 276, 360, 441, 443, 442, 261, 361, 153, 263, 265, 264, 364, 453, 363, 445, 446, 535, 447, 536, 537, 448, 538, 539, 608, 449, 450, 451, 452, 155, 156, 157, 266, 365, 366, 455, 540, 158, 69, 67, 159, 160, 162, 277, 163, 279, 377, 463, 554, 620, 621, 280, 169, 284, 553, 164, 165, 282, 380, 381, 468, 557, 166, 168, 283, 167, 68, 170, 285, 382, 383, 469, 286, 75, 181, 298, 299, 172, 291, 386, 474, 385, 472, 559, 473, 560, 624, 179, 297, 625, 684, 626, 627, 685, 686, 714, 628, 629, 630, 631, 387, 475, 561, 632, 562, 563, 316, 404, 403, 388, 476, 564, 566, 634, 635, 687, 688, 633, 565, 567, 636, 637, 292, 389, 477, 478, 479, 480, 293, 390, 482, 568, 202, 317, 405, 493, 578, 577, 579, 647, 692, 580, 648, 693, 496, 497, 581, 494, 76, 319, 408, 495, 582, 649, 694, 650, 695, 583, 412, 409, 112, 113, 203, 114, 115, 205, 116, 206, 117, 118, 207, 208, 322, 410, 498, 499, 411, 500, 587, 652, 653, 697, 654, 698, 715, 723, 501, 588, 591, 502, 589, 655, 656, 699, 590, 657, 503, 504, 119, 120, 121, 209, 210, 323, 324, 413, 414, 505, 506, 415, 507, 508, 416, 509, 211, 122, 123, 212, 124, 125, 5, 15, 16, 36, 6, 17, 37, 18, 38, 7, 19, 20, 22, 40, 66, 41, 70, 173, 174, 175, 42, 43, 74, 180, 44, 8, 10, 23, 24, 45, 77, 183]
set_option maxRecDepth 1000000 in
theorem closB_ok : closB Tryz.prog nbL 1571 3 clL = true := by kernel_rfl
set_option maxRecDepth 1000000 in
theorem fuel_ok : fuelB Tryz.prog 1571 = true := by kernel_rfl
theorem clos : Tryz.prog.closure 3 = clL := closure_eq nbL_ok closB_ok fuel_ok
end Go.Proofs.YtlgfmjmfncdegaaGreatDoor
namespace Go.Proofs.YtlgfmjmfncdegaaGreatDoor
open Go Go.Vt
set_option maxRecDepth 1000000 in
theorem inPlaceL : Rows.costNamesRow.inPlace = inPlaceF Tryz.prog clL := by kernel_rfl
theorem rInPlace : Rows.costNamesRow.inPlace = Tryz.prog.inPlace 3 := inPlaceL.trans (inPlace_eq namedAll clos).symm
theorem unfM : clL.any (Nat.beq 154) = true := by kernel_rfl
theorem unfB : (orec false (fun c => c.unfollowed) Tryz.f154.body) = true := by kernel_rfl
theorem rUnf : Rows.costNamesRow.unfollowed = Tryz.prog.unfollowed 3 := (unfollowed_at clos unfM Tryz.func154 unfB).symm
theorem rRec : Rows.costNamesRow.recurses = Tryz.prog.recurses 3 := (recurses_of (unfollowed_at clos unfM Tryz.func154 unfB)).symm
end Go.Proofs.YtlgfmjmfncdegaaGreatDoor
namespace Go.Proofs.YtlgfmjmfncdegaaGreatDoor
open Go Go.Vt
set_option maxRecDepth 1000000 in
theorem globs_ok : (globsF Tryz.prog clL).eraseDups = [0, 6, 7, 10, 11, 5, 8, 9, 1, 2, 3, 4] := by kernel_rfl
set_option maxRecDepth 1000000 in
theorem reads_ok : readsF Tryz.prog clL = ["internal/bytealg.MaxLen"] := by kernel_rfl
theorem names_ok : (([0, 6, 7, 10, 11, 5, 8, 9, 1, 2, 3, 4] : List Nat).filterMap (fun g => (Tryz.prog.globals[g]?).map (·.name)) ++ ["internal/bytealg.MaxLen"]).eraseDups = Rows.costNamesRow.named := by kernel_rfl
theorem rNamed : Rows.costNamesRow.named = Tryz.prog.varsNamed 3 := (varsNamed_eq clos globs_ok reads_ok names_ok).symm
end Go.Proofs.YtlgfmjmfncdegaaGreatDoor
