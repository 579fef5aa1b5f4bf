/- What the law reaches, off tables. Conditions: none. -/
import Derived.Test.YtjdaalpcehnlbaaGreatDoorClA
import Derived.Test.YtjdaalpcehnlbaaGreatDoorClB
import Derived.Test.YtjdaalpcehnlbaaGreatDoorClC
import Derived.Test.YtjdaalpcehnlbaaGreatDoorClD
namespace Go.Proofs.YtjdaalpcehnlbaaGreatDoor
open Go
set_option maxRecDepth 100000
def walkNx (nx : Nat → List Nat) : Nat → List Nat → List Nat → List Nat
  | 0, _, seen => seen.reverse
  | _, [], seen => seen.reverse
  | n + 1, f :: todo, seen => if seen.contains f then walkNx nx n todo seen else walkNx nx n (nx f ++ todo) (f :: seen)
theorem viaWalkNx (P : Program) : ∀ (n : Nat) (todo seen : List Nat), P.closureVia n todo seen = walkNx (fun g => (P.funcs[g]?).elim [] P.leadsTo) n todo seen
  | 0, _, _ => by unfold Program.closureVia walkNx; rfl
  | n + 1, [], _ => by unfold Program.closureVia walkNx; rfl
  | n + 1, f :: todo, seen => by
    unfold Program.closureVia walkNx
    split
    · exact viaWalkNx P n todo seen
    · exact viaWalkNx P n _ _
theorem size_eq : Tryz.prog.funcs.size = 674 := by kernel_rfl
def nxT : List (List Nat) := nxT0 ++ nxT1 ++ nxT2 ++ nxT3
def gnT : List (List Nat) := gnT0 ++ gnT1 ++ gnT2 ++ gnT3
theorem range_parts : List.range 674 = List.range' 0 169 ++ List.range' 169 169 ++ List.range' 338 169 ++ List.range' 507 167 := by decide +kernel
theorem nx_all : ((List.range 674).map fun g => (Tryz.prog.funcs[g]?).elim [] Tryz.prog.leadsTo) = nxT := by
  rw [range_parts]
  simp only [List.map_append, nx0, nx1, nx2, nx3]
  rfl
theorem gn_all : ((List.range 674).map fun g => ((Tryz.prog.funcs[g]?).bind (·.body)).elim [] Code.globalsNamed) = gnT := by
  rw [range_parts]
  simp only [List.map_append, gn0, gn1, gn2, gn3]
  rfl
theorem tab_eq {f : Nat → List Nat} {t : List (List Nat)} (n : Nat) (h : (List.range n).map f = t) (ho : ∀ g, n ≤ g → f g = []) : f = fun g => t.getD g [] := by
  funext g
  subst h
  rw [List.getD_eq_getElem?_getD, List.getElem?_map]
  by_cases hg : g < n
  · rw [List.getElem?_range hg]; rfl
  · rw [List.getElem?_eq_none (by simpa using Nat.le_of_not_lt hg)]
    exact ho g (Nat.le_of_not_lt hg)
theorem nx_eq : (fun g => (Tryz.prog.funcs[g]?).elim [] Tryz.prog.leadsTo) = fun g => nxT.getD g [] :=
  tab_eq 674 nx_all fun g hg => by rw [Array.getElem?_eq_none (by rw [size_eq]; exact hg)]; rfl
theorem gn_eq : (fun g => ((Tryz.prog.funcs[g]?).bind (·.body)).elim [] Code.globalsNamed) = fun g => gnT.getD g [] :=
  tab_eq 674 gn_all fun g hg => by rw [Array.getElem?_eq_none (by rw [size_eq]; exact hg)]; rfl
theorem sum_eq : (Tryz.prog.funcs.toList.map fun g => (Tryz.prog.leadsTo g).length + 1).sum = 2095 := by
  have h : Tryz.prog.funcs.toList.map Tryz.prog.leadsTo = nxT := by
    rw [← nx_all]
    refine List.ext_getElem (by simp [size_eq]) fun i h1 h2 => ?_
    simp only [List.length_map, Array.length_toList] at h1
    simp [Array.getElem?_eq_getElem h1]
  have h2 : (Tryz.prog.funcs.toList.map fun g => (Tryz.prog.leadsTo g).length + 1) = (Tryz.prog.funcs.toList.map Tryz.prog.leadsTo).map fun l => l.length + 1 := by simp
  rw [h2, h]
  decide +kernel
def clL : List Nat := [3, 4, 10, 12, 15, 37, 22, 45, 38, 46, 79, 81, 80, 47, 48, 82, 83, 49, 50, 76, 31, 32, 59, 34, 90, 62, 39, 63, 91, 23, 51, 52, 84, 98, 110, 129, 179, 268, 357, 180, 269, 130, 131, 181, 270, 358, 26, 359, 449, 501, 546, 502, 503, 504, 547, 360, 450, 393, 394, 451, 271, 272, 361, 452, 453, 505, 548, 506, 507, 549, 586, 606, 625, 485, 626, 454, 508, 550, 509, 551, 587, 607, 608, 609, 627, 610, 628, 455, 510, 552, 512, 553, 588, 589, 611, 612, 613, 629, 554, 555, 590, 614, 419, 591, 526, 535, 580, 556, 557, 592, 615, 456, 511, 182, 273, 363, 362, 364, 366, 457, 365, 368, 460, 515, 458, 513, 459, 514, 536, 367, 183, 274, 275, 276, 369, 461, 370, 371, 383, 469, 487, 537, 581, 277, 372, 294, 295, 111, 132, 133, 184, 100, 114, 134, 185, 278, 374, 373, 186, 187, 279, 375, 462, 463, 376, 377, 378, 465, 464, 285, 188, 280, 281, 379, 466, 517, 516, 381, 518, 471, 467, 282, 380, 468, 391, 310, 382, 116, 140, 205, 300, 399, 475, 476, 400, 206, 207, 208, 301, 209, 302, 303, 402, 401, 384, 189, 304, 305, 283, 385, 386, 142, 141, 143, 210, 306, 211, 144, 212, 307, 403, 404, 341, 337, 420, 213, 308, 405, 477, 478, 527, 528, 565, 566, 479, 529, 567, 481, 568, 530, 540, 569, 570, 480, 571, 572, 387, 470, 297, 396, 519, 558, 200, 139, 573, 602, 531, 574, 482, 406, 483, 532, 178, 575, 217, 309, 407, 408, 486, 409, 576, 577, 603, 484, 533, 578, 534, 579, 99, 112, 135, 190, 136, 191, 192, 284, 89, 193, 194, 286, 195, 196, 197, 287, 198, 288, 388, 392, 289, 389, 290, 390, 291, 137, 199, 292, 293, 247, 332, 395, 296, 113, 138, 201, 204, 298, 299, 398, 474, 524, 563, 335, 601, 525, 564, 397, 472, 520, 473, 521, 559, 593, 594, 595, 596, 597, 616, 617, 618, 619, 620, 599, 522, 560, 598, 600, 621, 622, 523, 562, 561, 202, 203, 53, 78, 64, 85, 86, 101, 115, 55, 88, 104, 117, 118, 146, 214, 263, 349, 219, 174, 145, 119, 147, 215, 148, 149, 150, 216, 218, 221, 311, 410, 222, 312, 220, 151, 223, 224, 313, 411, 120, 121, 152, 102, 122, 153, 225, 226, 314, 315, 316, 154, 123, 155, 227, 317, 228, 237, 318, 229, 319, 320, 412, 488, 538, 413, 321, 261, 348, 427, 414, 489, 322, 323, 324, 415, 417, 491, 416, 490, 157, 231, 325, 232, 326, 233, 251, 254, 252, 336, 338, 339, 340, 327, 418, 346, 426, 495, 539, 582, 541, 542, 543, 583, 584, 604, 623, 624, 328, 257, 230, 235, 236, 331, 249, 330, 329, 234, 156, 158, 238, 159, 167, 256, 343, 344, 345, 425, 494, 492, 239, 240, 241, 160, 168, 162, 243, 333, 342, 421, 493, 422, 423, 424, 244, 245, 334, 242, 246, 248, 161, 163, 250, 164, 54, 87, 103, 124, 165, 170, 262, 253, 255, 166, 125, 169, 258, 260, 259, 347, 171, 126, 172, 173, 175, 264, 350, 428, 429, 430, 351, 431, 432, 433, 434, 447, 500, 499, 435, 436, 439, 438, 265, 437, 266, 352, 440, 441, 442, 496, 497, 498, 544, 545, 585, 605, 353, 443, 445, 446, 444, 354, 448, 355, 356, 127, 176, 56, 35, 60, 61, 71, 96, 95, 105, 70, 94, 65, 67, 93, 72, 14, 13, 27, 36, 28, 30, 58, 29, 33, 43, 73, 66, 11, 5, 6, 7, 8, 16, 17, 40, 41, 42, 68, 92, 69, 19, 18, 44, 74, 75, 77, 97, 106, 107, 108, 109, 128, 177, 267, 20, 21, 24, 57, 9, 25]
theorem cl : Tryz.prog.closure 3 = clL := by
  unfold Program.closure
  rw [viaWalkNx, nx_eq, sum_eq]
  kernel_rfl
end Go.Proofs.YtjdaalpcehnlbaaGreatDoor
