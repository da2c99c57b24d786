/- The closed facts of the row of 'BuiltCounts' of 'YteibjeicgeophaaGreatDoor' that go over the closure of its function, by the kernel. No condition. -/
import Derived.Test.YteibjeicgeophaaGreatDoorCl
import Derived.Test.YteibjeicgeophaaGreatDoorAbs8
import Derived.Test.YteibjeicgeophaaGreatDoorTie
import Derived.Test.YteibjeicgeophaaGreatDoorCards
import Derived.SevenTiedAt
namespace Go.Proofs.YteibjeicgeophaaGreatDoor
def builtCounts_K : List Nat := [3, 4, 5, 13, 19, 30, 31, 70, 32, 71, 72, 20, 21, 33, 73, 130, 203, 131, 74, 132, 204, 133, 134, 205, 271, 235, 295, 206, 22, 34, 8, 17, 10, 7, 16, 23, 24, 35, 25, 26, 36, 75, 76, 135, 37, 38, 27, 39, 77, 136, 78, 138, 137, 139, 103, 122, 29, 69, 118, 195, 79, 126, 127, 140, 207, 196, 141, 208, 272, 274, 347, 273, 345, 400, 346, 237, 296, 297, 401, 428, 434, 398, 429, 446, 430, 423, 424, 431, 447, 448, 465, 432, 433, 435, 436, 142, 209, 210, 275, 276, 289, 277, 278, 233, 294, 169, 229, 170, 211, 212, 238, 213, 214, 143, 215, 80, 40, 81, 82, 144, 145, 216, 146, 226, 67, 128, 129, 202, 41, 83, 147, 148, 150, 220, 223, 224, 287, 266, 340, 341, 399, 427, 343, 388, 342, 222, 285, 352, 353, 402, 286, 221, 283, 284, 351, 348, 361, 157, 228, 154, 156, 149, 217, 268, 247, 218, 279, 349, 350, 151, 225, 288, 354, 355, 356, 357, 152, 219, 280, 281, 282, 42, 84, 85, 155, 153, 227, 43, 86, 121, 87, 158, 167, 234, 236, 159, 230, 290, 358, 403, 437, 449, 466, 477, 483, 484, 488, 489, 485, 486, 490, 491, 496, 497, 450, 467, 478, 451, 468, 469, 479, 487, 492, 498, 493, 494, 495, 499, 470, 480, 471, 472, 452, 453, 438, 454, 455, 359, 231, 291, 171, 360, 292, 293, 249, 308, 44, 88, 45, 89, 160, 90, 161, 46, 91, 47, 92, 48, 94, 163, 93, 162, 95, 96, 164, 165, 166, 232, 168, 49, 97, 50, 99, 173, 174, 175, 239, 298, 240, 299, 176, 241, 300, 301, 302, 303, 307, 363, 362, 98, 172, 51, 100, 177, 242, 52, 101, 178, 243, 244, 304, 179, 53, 102, 180, 245, 246, 54, 104, 181, 105, 182, 183, 248, 305, 306, 55, 28, 68, 106, 184, 250, 309, 310, 364, 313, 365, 311, 366, 404, 367, 368, 264, 338, 389, 262, 337, 186, 253, 254, 314, 369, 370, 405, 371, 372, 406, 315, 316, 373, 317, 318, 374, 376, 319, 320, 375, 407, 120, 199, 408, 409, 439, 456, 473, 457, 460, 459, 458, 461, 474, 481, 440, 462, 475, 482, 321, 377, 325, 378, 322, 323, 324, 326, 56, 108, 107, 109, 187, 255, 256, 329, 384, 415, 385, 416, 411, 331, 333, 412, 417, 332, 386, 441, 442, 418, 419, 443, 463, 476, 330, 327, 379, 410, 381, 380, 413, 414, 382, 328, 383, 188, 257, 258, 259, 334, 387, 420, 421, 444, 464, 335, 336, 261, 263, 260, 265, 339, 390, 391, 422, 392, 393, 425, 426, 445, 394, 395, 396, 397, 267, 185, 251, 252, 312, 57, 110, 189, 190, 191, 58, 111, 192, 269, 344, 59, 112, 193, 270, 60, 113, 61, 114, 194, 62, 115, 117, 116, 63, 119, 197, 198, 64, 123, 200, 65, 124, 201, 66, 125, 14, 9, 18, 11, 6, 15, 12]
set_option maxRecDepth 100000 in
theorem builtCounts_cl : Abs.ClOf Tryz.pinned.checked.prog clT 1776 3 builtCounts_K := Abs.clOf cl_tab clT_eq clN_eq (by kernel_rfl)
set_option maxRecDepth 100000 in
theorem builtCounts_fact9 : (Rows.builtCountsRow.inPlace == Tryz.pinned.checked.prog.inPlace 3) = true := Abs.beq_self_of (builtCounts_cl.inPlace (by kernel_rfl))
set_option maxRecDepth 100000 in
theorem builtCounts_fact10 : (Rows.builtCountsRow.unfollowed == Tryz.pinned.checked.prog.unfollowed 3) = true := Abs.beq_self_of (builtCounts_cl.unfollowed (by kernel_rfl))
set_option maxRecDepth 100000 in
theorem builtCounts_fact11 : (Rows.builtCountsRow.recurses == Tryz.pinned.checked.prog.recurses 3) = true := Abs.beq_self_of (builtCounts_cl.recurses (by kernel_rfl))
set_option maxRecDepth 100000 in
theorem builtCounts_fact12 : (Rows.builtCountsRow.named == Tryz.pinned.checked.prog.varsNamed 3) = true := Abs.beq_self_of (builtCounts_cl.varsNamed (gs := [1, 2, 3, 0]) (by kernel_rfl) (by kernel_rfl))
set_option maxRecDepth 100000 in
theorem builtCounts_gb : false = Rows.builtCountsRow.goesBy Tryz.pinned.checked.prog := cl_tab.goesBy (by kernel_rfl) rfl
end Go.Proofs.YteibjeicgeophaaGreatDoor
