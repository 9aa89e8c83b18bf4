/-
  The closure of calls of ParsersKnown, and the closed facts that are asked of it.
-/
import Derived.Test.YtjdgikpokdgapaaGreatDoorKFc
import Derived.Test.YtjdgikpokdgapaaGreatDoorKFd
set_option linter.all false
namespace Go.Proofs.YtjdgikpokdgapaaGreatDoor
open Go Go.Ab
noncomputable section
def clo : List FuncId := [5, 15, 28, 29, 13, 26, 12, 16, 6, 20, 34, 60, 61, 62, 63, 106, 178, 179, 51, 180, 52, 181, 53, 182, 183, 184, 185, 186, 187, 188, 56, 189, 64, 114, 65, 115, 116, 213, 214, 59, 113, 21, 35, 66, 67, 68, 69, 70, 71, 72, 73, 74, 75, 76, 77, 78, 79, 36, 80, 37, 38, 17, 32, 50, 54, 107, 55, 108, 57, 111, 208, 209, 325, 210, 326, 440, 534, 441, 535, 605, 211, 212, 327, 328, 442, 536, 606, 607, 652, 677, 678, 321, 437, 322, 190, 191, 308, 109, 192, 309, 193, 310, 311, 194, 200, 195, 197, 198, 312, 429, 430, 523, 598, 643, 669, 687, 688, 599, 644, 670, 645, 646, 30, 43, 88, 120, 121, 218, 217, 219, 122, 123, 220, 221, 329, 330, 671, 647, 431, 313, 432, 201, 524, 196, 199, 202, 314, 315, 316, 433, 525, 600, 648, 650, 672, 673, 674, 675, 676, 689, 649, 434, 110, 203, 206, 317, 225, 331, 318, 435, 526, 601, 530, 604, 527, 602, 438, 651, 436, 528, 603, 529, 531, 204, 145, 205, 320, 319, 207, 323, 439, 533, 532, 478, 324, 31, 44, 89, 125, 126, 223, 127, 128, 224, 226, 332, 444, 443, 537, 333, 446, 445, 538, 129, 227, 228, 334, 335, 336, 229, 337, 339, 230, 338, 340, 231, 232, 233, 341, 342, 124, 222, 90, 130, 131, 235, 234, 236, 242, 344, 448, 343, 447, 539, 540, 240, 348, 608, 653, 654, 679, 613, 541, 609, 611, 612, 610, 542, 543, 544, 238, 239, 346, 449, 347, 237, 345, 241, 45, 91, 132, 98, 144, 166, 243, 349, 450, 350, 452, 453, 454, 546, 455, 451, 545, 614, 615, 244, 351, 245, 138, 246, 247, 133, 141, 264, 394, 265, 372, 487, 397, 266, 398, 142, 267, 268, 399, 400, 499, 500, 592, 593, 143, 269, 408, 509, 594, 640, 502, 595, 507, 402, 503, 401, 501, 403, 504, 505, 404, 506, 405, 406, 508, 407, 492, 586, 140, 262, 390, 392, 495, 589, 638, 496, 591, 497, 389, 494, 590, 639, 263, 498, 391, 396, 395, 393, 92, 134, 135, 248, 352, 354, 458, 459, 547, 460, 548, 616, 549, 461, 550, 463, 462, 551, 553, 552, 617, 464, 465, 554, 466, 467, 468, 469, 470, 471, 472, 473, 555, 556, 474, 557, 618, 655, 656, 619, 558, 559, 620, 560, 561, 621, 622, 562, 563, 623, 353, 456, 457, 355, 368, 484, 369, 485, 573, 93, 94, 97, 136, 249, 137, 250, 251, 252, 356, 357, 475, 361, 480, 481, 482, 569, 570, 628, 629, 663, 682, 664, 683, 662, 627, 568, 625, 626, 661, 681, 483, 571, 572, 363, 362, 358, 366, 359, 360, 476, 365, 564, 565, 624, 657, 658, 659, 660, 680, 566, 477, 567, 479, 364, 253, 367, 254, 95, 96, 139, 255, 256, 257, 373, 370, 486, 371, 258, 374, 259, 375, 488, 575, 574, 493, 587, 588, 376, 377, 378, 379, 380, 381, 489, 576, 577, 630, 578, 579, 580, 631, 581, 632, 633, 634, 582, 635, 665, 584, 637, 583, 636, 382, 383, 384, 490, 585, 385, 386, 491, 387, 260, 388, 261, 10, 46, 47, 99, 146, 271, 270, 409, 147, 148, 272, 410, 510, 596, 642, 668, 641, 666, 684, 667, 686, 699, 685, 690, 696, 691, 700, 692, 701, 702, 693, 703, 704, 705, 694, 695, 697, 698, 511, 512, 513, 514, 164, 149, 273, 274, 150, 275, 412, 279, 411, 151, 152, 276, 153, 154, 155, 277, 156, 157, 158, 278, 159, 160, 161, 162, 100, 163, 165, 101, 167, 168, 280, 102, 169, 49, 48, 103, 170, 281, 282, 173, 172, 283, 284, 413, 516, 515, 597, 171, 104, 105, 174, 285, 414, 306, 420, 307, 422, 286, 415, 287, 416, 304, 288, 417, 418, 289, 290, 419, 517, 175, 302, 303, 291, 421, 518, 519, 423, 428, 425, 292, 293, 294, 295, 296, 424, 520, 521, 297, 298, 426, 299, 300, 301, 427, 522, 176, 177, 305, 33, 58, 112, 14, 8, 19, 18, 9, 25, 27]
set_option maxRecDepth 100000 in
theorem cloSum : 1 + ((List.range' 0 751).map fun i => (mAll i).1.length + 1).sum = 2504 := by kernel_rfl
set_option maxRecDepth 100000 in
theorem cloRun : cloM (leadsM mAll 751) 2504 [5] 0 [] = clo := by kernel_rfl
theorem cloIs : Tryz.prog.closure 5 = clo := closure_by infoAll cloSum cloRun
set_option maxRecDepth 100000 in
theorem fact10 : (fun (P : Program) (f : FuncId) (fn : Func) (s : ChangeSpec) (c : OpenClaim) => ((c.inPlace == P.inPlace f) : Bool)) Tryz.prog 5 Tryz.f5 Rows.parsersKnownSpec Rows.parsersKnownRow = true := by
  show (Rows.parsersKnownRow.inPlace == Tryz.prog.inPlace 5) = true
  rw [inPlace_by infoAll cloIs]
  kernel_rfl
set_option maxRecDepth 100000 in
theorem unf : Tryz.prog.unfollowed 5 = true := by
  unfold Program.unfollowed
  rw [cloIs]
  exact List.any_eq_true.2 ⟨60, by decide +kernel, by kernel_rfl⟩
set_option maxRecDepth 100000 in
theorem fact11 : (fun (P : Program) (f : FuncId) (fn : Func) (s : ChangeSpec) (c : OpenClaim) => ((c.unfollowed == P.unfollowed f) : Bool)) Tryz.prog 5 Tryz.f5 Rows.parsersKnownSpec Rows.parsersKnownRow = true := by
  show (Rows.parsersKnownRow.unfollowed == Tryz.prog.unfollowed 5) = true
  rw [unf]
  rfl
set_option maxRecDepth 100000 in
theorem fact12 : (fun (P : Program) (f : FuncId) (fn : Func) (s : ChangeSpec) (c : OpenClaim) => ((c.recurses == P.recurses f) : Bool)) Tryz.prog 5 Tryz.f5 Rows.parsersKnownSpec Rows.parsersKnownRow = true := by
  show (Rows.parsersKnownRow.recurses == Tryz.prog.recurses 5) = true
  unfold Program.recurses
  rw [unf]
  rfl
set_option maxRecDepth 100000 in
theorem fact13 : (fun (P : Program) (f : FuncId) (fn : Func) (s : ChangeSpec) (c : OpenClaim) => ((c.named == P.varsNamed f) : Bool)) Tryz.prog 5 Tryz.f5 Rows.parsersKnownSpec Rows.parsersKnownRow = true := by
  show (Rows.parsersKnownRow.named == Tryz.prog.varsNamed 5) = true
  rw [varsNamed_by infoAll cloIs]
  kernel_rfl
set_option maxRecDepth 100000 in
theorem fact2 : (fun (P : Program) (f : FuncId) (fn : Func) (s : ChangeSpec) (c : OpenClaim) => (laidOutB P : Bool)) Tryz.prog 5 Tryz.f5 Rows.parsersKnownSpec Rows.parsersKnownRow = true := by
  show laidOutB Tryz.prog = true
  exact laidOut_by tszF rAll (by kernel_rfl) parAll
end
end Go.Proofs.YtjdgikpokdgapaaGreatDoor
