/- The closed facts of the row of 'BuiltNone' of 'YtbjfdogcacpfiaaGreatDoor' that go over the closure of its function, by the kernel. No condition. -/
import Derived.Test.YtbjfdogcacpfiaaGreatDoorCl
import Derived.Test.YtbjfdogcacpfiaaGreatDoorTie
import Derived.Test.YtbjfdogcacpfiaaGreatDoorCards
import Derived.SevenTiedAt
namespace Go.Proofs.YtbjfdogcacpfiaaGreatDoor
def builtNone_K : List Nat := [4, 14, 27, 28, 40, 29, 30, 41, 88, 89, 155, 42, 43, 31, 44, 90, 156, 91, 158, 157, 159, 116, 134, 33, 74, 131, 148, 92, 75, 76, 160, 230, 211, 161, 77, 140, 142, 218, 141, 216, 285, 217, 254, 313, 314, 286, 358, 364, 417, 359, 419, 360, 420, 421, 361, 422, 423, 448, 362, 363, 365, 366, 162, 85, 150, 226, 151, 231, 86, 152, 227, 82, 153, 154, 228, 295, 252, 312, 229, 232, 296, 297, 306, 298, 299, 250, 311, 186, 246, 187, 233, 234, 255, 235, 236, 149, 225, 93, 45, 94, 95, 163, 80, 147, 143, 224, 72, 138, 139, 215, 46, 96, 164, 165, 167, 238, 241, 242, 304, 280, 353, 354, 418, 447, 356, 407, 355, 240, 302, 372, 373, 424, 303, 239, 300, 301, 371, 368, 381, 174, 245, 171, 173, 166, 237, 282, 219, 221, 291, 369, 370, 168, 243, 305, 374, 375, 376, 377, 169, 222, 292, 293, 289, 47, 97, 98, 172, 170, 244, 48, 99, 133, 100, 175, 184, 251, 253, 36, 176, 247, 307, 378, 425, 449, 458, 474, 485, 491, 492, 496, 497, 493, 494, 498, 499, 504, 505, 459, 475, 486, 460, 476, 477, 487, 495, 500, 506, 501, 502, 503, 507, 478, 488, 479, 480, 461, 462, 450, 463, 464, 379, 248, 308, 188, 380, 309, 310, 223, 294, 49, 101, 50, 102, 177, 103, 178, 51, 104, 52, 105, 53, 107, 180, 106, 179, 108, 109, 181, 182, 183, 249, 185, 54, 110, 55, 112, 190, 191, 192, 256, 315, 257, 316, 193, 258, 317, 318, 319, 320, 290, 367, 382, 111, 189, 56, 113, 194, 259, 57, 114, 195, 260, 261, 321, 196, 58, 115, 197, 262, 263, 59, 117, 198, 118, 199, 145, 220, 287, 288, 60, 32, 73, 119, 200, 264, 322, 323, 383, 326, 384, 324, 385, 426, 386, 387, 278, 351, 408, 276, 350, 202, 267, 268, 327, 388, 389, 427, 390, 391, 428, 328, 329, 392, 330, 331, 393, 395, 332, 333, 394, 429, 79, 146, 430, 431, 451, 465, 481, 466, 469, 468, 467, 470, 482, 489, 452, 471, 483, 490, 334, 396, 338, 397, 335, 336, 337, 339, 61, 121, 120, 122, 203, 269, 270, 342, 403, 437, 404, 438, 433, 344, 346, 434, 439, 345, 405, 453, 454, 440, 441, 455, 472, 484, 343, 340, 398, 432, 400, 399, 435, 436, 401, 341, 402, 204, 271, 272, 273, 347, 406, 442, 443, 456, 473, 348, 349, 275, 277, 274, 279, 352, 409, 410, 444, 411, 412, 445, 446, 457, 413, 414, 415, 416, 281, 201, 265, 266, 325, 62, 123, 205, 206, 207, 63, 124, 208, 283, 357, 64, 125, 209, 284, 65, 126, 66, 127, 210, 67, 128, 130, 129, 68, 132, 212, 81, 69, 135, 213, 70, 136, 214, 71, 137, 15, 34, 78, 144, 16, 17, 7, 25, 18, 19, 35, 37, 83, 84, 20, 21, 38, 13, 5, 22, 39, 87, 6, 24, 11, 8, 23, 9, 26, 12, 10]
set_option maxRecDepth 100000 in
theorem builtNone_cl : Abs.ClOf Tryz.pinned.checked.prog clT 1840 4 builtNone_K := Abs.clOf cl_tab clT_eq clN_eq (by kernel_rfl)
set_option maxRecDepth 100000 in
theorem builtNone_fact9 : (Rows.builtNoneRow.inPlace == Tryz.pinned.checked.prog.inPlace 4) = true := Abs.beq_self_of (builtNone_cl.inPlace (by kernel_rfl))
set_option maxRecDepth 100000 in
theorem builtNone_fact10 : (Rows.builtNoneRow.unfollowed == Tryz.pinned.checked.prog.unfollowed 4) = true := Abs.beq_self_of (builtNone_cl.unfollowed (by kernel_rfl))
set_option maxRecDepth 100000 in
theorem builtNone_fact11 : (Rows.builtNoneRow.recurses == Tryz.pinned.checked.prog.recurses 4) = true := Abs.beq_self_of (builtNone_cl.recurses (by kernel_rfl))
set_option maxRecDepth 100000 in
theorem builtNone_fact12 : (Rows.builtNoneRow.named == Tryz.pinned.checked.prog.varsNamed 4) = true := Abs.beq_self_of (builtNone_cl.varsNamed (gs := [1, 2, 3, 0]) (by kernel_rfl) (by kernel_rfl))
set_option maxRecDepth 100000 in
theorem builtNone_gb : false = Rows.builtNoneRow.goesBy Tryz.pinned.checked.prog := cl_tab.goesBy (by kernel_rfl) rfl
end Go.Proofs.YtbjfdogcacpfiaaGreatDoor
