/- What the law can come to: its closure, and the row's cells out of it. No conditions. -/
import Derived.Test.YtdmfhmnoenciaaaGreatDoorVm5
import Derived.Test.YtdmfhmnoenciaaaGreatDoorRows
import Derived.Test.YtdmfhmnoenciaaaGreatDoorEb
namespace Go.Proofs.YtdmfhmnoenciaaaGreatDoor
open Go Go.Vt
theorem ln531 : (entryEnters.lookup Tryz.f531.name).isNone = true := by kernel_rfl
theorem ln541 : (entryEnters.lookup Tryz.f541.name).isNone = true := by kernel_rfl
theorem ln618 : (entryEnters.lookup Tryz.f618.name).isNone = true := by kernel_rfl
theorem ln681 : (entryEnters.lookup Tryz.f681.name).isNone = true := by kernel_rfl
theorem ln682 : (entryEnters.lookup Tryz.f682.name).isNone = true := by kernel_rfl
theorem ln683 : (entryEnters.lookup Tryz.f683.name).isNone = true := by kernel_rfl
theorem ln684 : (entryEnters.lookup Tryz.f684.name).isNone = true := by kernel_rfl
theorem ln699 : (entryEnters.lookup Tryz.f699.name).isNone = true := by kernel_rfl
theorem ln700 : (entryEnters.lookup Tryz.f700.name).isNone = true := by kernel_rfl
theorem ln701 : (entryEnters.lookup Tryz.f701.name).isNone = true := by kernel_rfl
theorem ln702 : (entryEnters.lookup Tryz.f702.name).isNone = true := by kernel_rfl
theorem ln703 : (entryEnters.lookup Tryz.f703.name).isNone = true := by kernel_rfl
theorem ln687 : (entryEnters.lookup Tryz.f687.name).isNone = true := by kernel_rfl
theorem ln686 : (entryEnters.lookup Tryz.f686.name).isNone = true := by kernel_rfl
theorem ln704 : (entryEnters.lookup Tryz.f704.name).isNone = true := by kernel_rfl
theorem ln705 : (entryEnters.lookup Tryz.f705.name).isNone = true := by kernel_rfl
theorem ln668 : (entryEnters.lookup Tryz.f668.name).isNone = true := by kernel_rfl
theorem ln375 : (entryEnters.lookup Tryz.f375.name).isNone = true := by kernel_rfl
theorem ln275 : (entryEnters.lookup Tryz.f275.name).isNone = true := by kernel_rfl
theorem ln196 : (entryEnters.lookup Tryz.f196.name).isNone = true := by kernel_rfl
theorem ln641 : (entryEnters.lookup Tryz.f641.name).isNone = true := by kernel_rfl
theorem ln642 : (entryEnters.lookup Tryz.f642.name).isNone = true := by kernel_rfl
noncomputable def nbL : List Nat := [531, 541, 618, 681, 682, 683, 684, 699, 700, 701, 702, 703, 687, 686, 704, 705, 668, 375, 275, 196, 641, 642]
theorem nbL_ok : LeadsNone Tryz.prog nbL := .cons Tryz.func531 ln531 rfl <| .cons Tryz.func541 ln541 rfl <| .cons Tryz.func618 ln618 rfl <| .cons Tryz.func681 ln681 rfl <| .cons Tryz.func682 ln682 rfl <| .cons Tryz.func683 ln683 rfl <| .cons Tryz.func684 ln684 rfl <| .cons Tryz.func699 ln699 rfl <| .cons Tryz.func700 ln700 rfl <| .cons Tryz.func701 ln701 rfl <| .cons Tryz.func702 ln702 rfl <| .cons Tryz.func703 ln703 rfl <| .cons Tryz.func687 ln687 rfl <| .cons Tryz.func686 ln686 rfl <| .cons Tryz.func704 ln704 rfl <| .cons Tryz.func705 ln705 rfl <| .cons Tryz.func668 ln668 rfl <| .cons Tryz.func375 ln375 rfl <| .cons Tryz.func275 ln275 rfl <| .cons Tryz.func196 ln196 rfl <| .cons Tryz.func641 ln641 rfl <| .cons Tryz.func642 ln642 rfl <| .nil
end Go.Proofs.YtdmfhmnoenciaaaGreatDoor
namespace Go.Proofs.YtdmfhmnoenciaaaGreatDoor
open Go Go.Vt
noncomputable def clL : List Nat := [3, 4, 10, 19, 25, 30, 43, 104, 26, 31, 44, 105, 173, 254, 147, 255, 256, 336, 442, 337, 338, 443, 531, 257, 258, 339, 444, 340, 341, 446, 447, 533, 613, 617, 179, 534, 614, 615, 616, 588, 655, 445, 532, 342, 259, 260, 221, 307, 177, 261, 343, 286, 344, 313, 414, 345, 448, 481, 566, 640, 562, 535, 563, 536, 357, 457, 541, 542, 543, 624, 380, 476, 426, 346, 310, 269, 449, 348, 347, 349, 262, 263, 350, 450, 351, 352, 353, 451, 468, 252, 334, 537, 440, 452, 264, 265, 354, 453, 32, 45, 106, 175, 174, 266, 355, 454, 356, 456, 540, 622, 670, 689, 623, 671, 455, 538, 618, 539, 619, 666, 681, 682, 683, 684, 685, 699, 700, 701, 702, 703, 687, 620, 667, 686, 688, 704, 705, 621, 669, 668, 267, 268, 358, 359, 360, 361, 458, 544, 625, 545, 460, 546, 362, 459, 363, 364, 365, 366, 367, 461, 462, 547, 626, 486, 627, 569, 628, 644, 674, 571, 629, 672, 548, 630, 549, 631, 368, 463, 550, 107, 176, 108, 178, 180, 270, 253, 335, 181, 271, 280, 377, 472, 552, 554, 553, 555, 556, 633, 632, 557, 634, 646, 635, 673, 690, 691, 706, 707, 710, 711, 712, 715, 713, 716, 485, 487, 488, 570, 643, 717, 718, 676, 693, 694, 677, 695, 708, 696, 697, 215, 302, 402, 495, 496, 412, 578, 579, 497, 498, 580, 581, 649, 650, 709, 698, 714, 235, 321, 423, 494, 322, 425, 424, 369, 464, 272, 370, 273, 371, 465, 466, 372, 467, 469, 274, 373, 470, 551, 33, 46, 109, 182, 183, 110, 184, 111, 112, 5, 11, 20, 22, 23, 28, 29, 38, 47, 113, 114, 12, 24, 93, 143, 144, 145, 210, 211, 212, 213, 298, 398, 299, 153, 222, 223, 309, 308, 225, 205, 163, 241, 242, 243, 327, 429, 430, 520, 597, 598, 244, 288, 287, 224, 311, 312, 226, 227, 314, 415, 505, 583, 651, 506, 584, 652, 585, 653, 654, 172, 251, 228, 315, 416, 417, 229, 316, 230, 300, 399, 401, 400, 214, 301, 146, 216, 218, 217, 304, 411, 303, 403, 404, 499, 405, 500, 501, 406, 502, 503, 582, 407, 408, 409, 410, 148, 15, 149, 219, 305, 306, 413, 504, 150, 94, 95, 151, 220, 99, 168, 100, 64, 121, 122, 193, 194, 195, 278, 375, 152, 154, 231, 199, 281, 378, 473, 379, 474, 558, 636, 475, 559, 560, 561, 637, 282, 232, 317, 319, 420, 511, 587, 589, 657, 656, 678, 512, 590, 418, 591, 658, 131, 200, 201, 188, 318, 419, 507, 509, 586, 471, 510, 508, 277, 659, 679, 421, 513, 592, 660, 514, 516, 515, 593, 594, 155, 233, 320, 422, 518, 595, 596, 234, 161, 238, 517, 156, 157, 236, 323, 324, 427, 519, 158, 160, 237, 159, 96, 162, 239, 325, 326, 428, 240, 102, 171, 249, 250, 164, 245, 329, 433, 328, 431, 521, 432, 522, 599, 169, 248, 600, 661, 601, 602, 662, 663, 680, 603, 604, 605, 606, 330, 434, 523, 607, 524, 525, 203, 284, 283, 331, 435, 526, 528, 609, 610, 664, 665, 608, 527, 529, 611, 612, 246, 332, 436, 437, 438, 439, 247, 333, 441, 530, 97, 39, 98, 165, 166, 167, 40, 41, 101, 170, 42, 103, 21, 27, 34, 35, 48, 115, 186, 185, 36, 49, 37, 50, 116, 187, 73, 51, 117, 52, 53, 118, 119, 189, 120, 192, 191, 190, 275, 276, 374, 54, 55, 56, 57, 58, 59, 123, 124, 196, 197, 279, 376, 60, 61, 125, 62, 126, 63, 65, 66, 127, 67, 68, 128, 198, 69, 70, 129, 71, 72, 74, 130, 75, 76, 77, 78, 132, 202, 133, 204, 285, 381, 478, 477, 479, 564, 638, 480, 565, 639, 384, 385, 482, 382, 206, 289, 383, 483, 567, 641, 568, 642, 484, 293, 290, 79, 80, 134, 81, 82, 135, 83, 136, 84, 85, 137, 138, 207, 291, 386, 387, 292, 388, 489, 572, 573, 645, 574, 647, 675, 692, 389, 490, 493, 390, 491, 575, 576, 648, 492, 577, 391, 392, 86, 87, 88, 139, 140, 208, 209, 294, 295, 393, 394, 296, 395, 396, 297, 397, 141, 89, 90, 142, 91, 92, 6, 13, 14, 7, 16, 8, 9, 17, 18]
set_option maxRecDepth 1000000 in
theorem closB_ok : closB Tryz.prog nbL 1540 3 clL = true := by kernel_rfl
set_option maxRecDepth 1000000 in
theorem fuel_ok : fuelB Tryz.prog 1540 = true := by kernel_rfl
theorem clos : Tryz.prog.closure 3 = clL := closure_eq nbL_ok closB_ok fuel_ok
end Go.Proofs.YtdmfhmnoenciaaaGreatDoor
namespace Go.Proofs.YtdmfhmnoenciaaaGreatDoor
open Go Go.Vt
set_option maxRecDepth 1000000 in
theorem inPlaceL : Rows.wallNamesRow.inPlace = inPlaceF Tryz.prog clL := by kernel_rfl
theorem rInPlace : Rows.wallNamesRow.inPlace = Tryz.prog.inPlace 3 := inPlaceL.trans (inPlace_eq namedAll clos).symm
theorem unfM : clL.any (Nat.beq 147) = true := by kernel_rfl
theorem unfB : (orec false (fun c => c.unfollowed) Tryz.f147.body) = true := by kernel_rfl
theorem rUnf : Rows.wallNamesRow.unfollowed = Tryz.prog.unfollowed 3 := (unfollowed_at clos unfM Tryz.func147 unfB).symm
theorem rRec : Rows.wallNamesRow.recurses = Tryz.prog.recurses 3 := (recurses_of (unfollowed_at clos unfM Tryz.func147 unfB)).symm
end Go.Proofs.YtdmfhmnoenciaaaGreatDoor
namespace Go.Proofs.YtdmfhmnoenciaaaGreatDoor
open Go Go.Vt
set_option maxRecDepth 1000000 in
theorem globs_ok : (globsF Tryz.prog clL).eraseDups = [0, 8, 9, 10, 11, 5, 6, 7, 1, 2, 3, 4] := by kernel_rfl
set_option maxRecDepth 1000000 in
theorem reads_ok : readsF Tryz.prog clL = ["internal/bytealg.MaxLen"] := by kernel_rfl
theorem names_ok : (([0, 8, 9, 10, 11, 5, 6, 7, 1, 2, 3, 4] : List Nat).filterMap (fun g => (Tryz.prog.globals[g]?).map (·.name)) ++ ["internal/bytealg.MaxLen"]).eraseDups = Rows.wallNamesRow.named := by kernel_rfl
theorem rNamed : Rows.wallNamesRow.named = Tryz.prog.varsNamed 3 := (varsNamed_eq clos globs_ok reads_ok names_ok).symm
end Go.Proofs.YtdmfhmnoenciaaaGreatDoor
