/- Which functions a call can come to, by a table; and what follows of it. No condition. -/
import Derived.Test.YtbooaoddioibeaaGreatDoorRows
import GoSem.Claim
import GoSem.ClaimJoined
import GoSem.ClaimMapViews
import GoSem.ClaimGoes
import GoSem.ClaimSeven
import Derived.SevenTiedAt
import Derived.ClosedOfChecked
namespace Go.Proofs.YtbooaoddioibeaaGreatDoor
open Go
set_option linter.unusedVariables false
set_option linter.unusedSimpArgs false
set_option maxRecDepth 100000
theorem via_tab {P : Program} {T : List (List Nat)} (h : P.funcs.toList.map P.leadsTo = T) (f : Nat) : (P.funcs[f]?).elim [] P.leadsTo = (T[f]?).getD [] := by
  subst h
  rw [List.getElem?_map, Array.getElem?_toList]
  cases P.funcs[f]? <;> rfl
def via (T : List (List Nat)) : Nat → List Nat → Nat → List Nat → List Nat
  | 0, _, _, seen => seen.reverse
  | _, [], _, seen => seen.reverse
  | n + 1, f :: todo, m, seen =>
    if m.testBit f then via T n todo m seen
    else via T n ((T[f]?).getD [] ++ todo) (m ||| 2 ^ f) (f :: seen)
theorem via_ok {P : Program} {T : List (List Nat)} (h : P.funcs.toList.map P.leadsTo = T) (n : Nat) :
    ∀ (todo : List Nat) (m : Nat) (seen : List Nat), (∀ g, m.testBit g = seen.contains g) → P.closureVia n todo seen = via T n todo m seen := by
  induction n with
  | zero => intro todo m seen _; unfold Program.closureVia via; rfl
  | succ n ih =>
    intro todo m seen hm
    cases todo with
    | nil => unfold Program.closureVia via; rfl
    | cons f todo =>
      unfold Program.closureVia via
      rw [hm f, via_tab h f]
      split
      · exact ih _ _ _ hm
      · refine ih _ _ _ fun g => ?_
        rw [Nat.testBit_or, hm g, Nat.testBit_two_pow, List.contains_cons, Bool.or_comm]
        congr 1
        by_cases hg : f = g
        · simp [hg]
        · have hg' : ¬ g = f := fun e => hg e.symm
          simp [hg, hg']
theorem tab_step {α β : Type} {f : α → β} {l : List α} {n : Nat} {a b : List β} (ha : (l.take n).map f = a) (hb : (l.drop n).map f = b) : l.map f = a ++ b := by
  rw [← ha, ← hb, ← List.map_append, List.take_append_drop]
theorem closure_tab {P : Program} {T : List (List Nat)} (h : P.funcs.toList.map P.leadsTo = T) (f : Nat) : P.closure f = via T (1 + (T.map fun l => l.length + 1).sum) [f] 0 [] := by
  unfold Program.closure
  rw [via_ok h _ _ 0 [] (fun g => by simp), show (P.funcs.toList.map fun g => (P.leadsTo g).length + 1) = T.map (fun l => l.length + 1) by rw [← h, List.map_map]; rfl]
def tab0 : List (List Nat) := [[], [], [1], [4, 5, 6, 7, 8, 9, 10, 7, 9, 6], [5, 11, 12], [13, 11, 11, 14, 6, 6, 9, 12], [15, 16, 17], [19, 18], [23, 18], [28, 27], [30, 18], [32, 33, 34, 32], [35], [36, 37, 38, 38], [39, 6, 9, 40, 41, 6, 9, 42], [43, 44, 45, 45], [46, 27], [48, 27], [56, 27], [20, 21, 22, 21], [51, 22, 24, 54], [], [59, 58, 57], [24, 25, 26, 21], [62, 58, 57], [64, 58, 57], [45, 66, 54], [67, 68, 68], [29], [49, 69], [31, 21], [71, 58, 57], [67, 68, 29], [67, 68, 47], [67, 68, 74, 75, 68, 76, 68], [77], [79, 80, 81, 82], [], [83], [67, 68, 84, 38, 38, 52], [85, 44], [86, 88, 87, 89, 90], [91, 27], [93, 94, 95], [96, 96, 96, 96, 96], [44, 97], [47], [98, 51, 99], [49, 40, 50, 51, 29, 52, 53, 54, 50, 55], [100, 101], [102], [], [103], [104, 105, 43, 105, 106, 107, 108], [15, 51, 47], [109, 110], [], [111], [], [60, 61], [], [113, 100, 51, 112, 29, 47, 114], [63], [29], [65], [115], [116], [], [111], [70], [], [72, 73], [117, 118], [47], [119], [51, 12, 120, 121], [122, 123], [78], [125, 124], [127, 128, 126], [129], [], [], [], [130, 105], [132, 133, 134, 131, 135], [136, 87], [], [], [96, 96], [138, 138], [92], [], [], [], [], [139, 140], [], [70], []]
def tab1 : List (List Nat) := [[], [70, 141], [142], [143, 143, 144, 145, 146], [147, 130, 148], [96, 96, 96], [], [149, 150, 149, 151, 149, 152, 153, 154, 155, 156], [], [157, 158, 159, 160, 161], [54, 162], [163, 164, 165, 166], [], [167], [115], [168, 169, 168], [170], [171], [171], [172], [119, 173, 174, 175, 176, 177], [178, 179], [49, 181, 29, 51, 182], [119, 173, 174, 183], [184, 185, 186, 187, 188, 189, 190, 191, 192, 124, 124], [193, 194], [], [195], [196], [], [197, 198], [], [], [199, 135], [135, 135, 43], [199], [137], [], [200, 202, 201], [], [140], [], [203, 204], [205, 198], [203, 204], [], [204], [], [116], [206], [207, 206], [208, 207, 209, 108, 206], [66, 108, 208, 210, 211, 214, 215, 213, 206, 106, 216, 217, 45, 206, 218], [219], [199, 219], [219], [220, 218], [221, 222, 25, 21], [31, 21], [25, 21], [222, 21], [162], [223, 220], [], [], [], [139, 224, 163, 225, 166], [168, 169], [226], [], [], [], [227], [172, 228, 79, 229, 230], [231, 81, 176, 232, 233], [234, 235, 236, 237, 238], [], [], [47], [180], [35, 110], [239], [100, 29], [111], [190], [240, 240], [241, 242], [243, 243, 243, 244], [], [190, 190, 190], [245, 245], [190, 190], [190, 190, 190, 190], [], [], [246], [], [], [247], []]
def tab2 : List (List Nat) := [[248], [249, 249, 251, 250, 252], [253, 254, 254, 254, 255], [], [], [], [], [256], [257], [258, 41, 259], [181, 260, 261, 262, 263], [212], [264, 265, 266, 265, 267], [], [], [], [190, 268, 268], [269, 270], [], [66, 206, 218], [104, 105, 66, 105, 271, 106, 272], [273], [274, 275], [276, 275], [], [], [277, 278, 279], [], [], [280, 281, 282, 284, 285, 286, 283], [288, 289, 290, 291, 287], [], [], [292, 229, 282, 293, 294], [295, 296], [297, 296], [298, 299, 300, 296, 301, 302, 299, 303, 232], [], [], [304], [190, 190], [125], [], [244], [305, 305, 305], [], [], [], [], [], [306], [], [307, 308, 309], [310, 311], [310], [], [312, 87, 89, 313, 202, 201], [314, 315], [316, 318, 317], [], [319, 320], [], [321, 263, 313], [96, 96], [323, 322], [96, 96, 96, 96], [262], [324, 146, 325], [], [], [326], [], [247], [83, 83], [327, 328], [329, 330], [171], [], [], [169], [281, 331], [333, 334, 335, 332], [336], [], [], [], [337, 264, 316], [], [], [338], [338], [338, 339], [282, 315, 92, 340, 92], [341], [342], [343, 344, 345, 344, 346, 348, 347], [302, 299], [79], [], []]
def tab3 : List (List Nat) := [[229, 292, 349, 350, 351], [353, 352, 296, 354, 296, 313, 302, 299], [313, 355], [], [356, 357, 356, 358, 357, 359], [190], [], [360, 361], [362, 363], [], [364], [365], [], [366], [282], [367, 368], [370, 371, 372, 369], [373], [374], [181, 376], [], [377, 378, 313, 202], [], [379, 380], [381], [], [384, 384, 384], [], [385], [182], [386], [387], [], [], [388, 198], [331], [], [195], [389], [390, 391], [], [], [392], [393, 394], [], [344, 395, 313], [397, 396], [], [398, 399, 400, 401, 401, 400, 401, 402, 403, 404], [405], [406, 407], [111], [408, 339, 409, 410, 412, 411, 231], [282], [413, 409, 412, 231, 414], [415, 394], [416], [], [], [417], [418], [418], [419, 419], [419, 419], [], [], [420], [], [], [], [421], [137], [], [], [375], [], [313], [], [422], [423, 424], [426, 427, 428, 425], [382, 383], [429], [323, 430, 431], [], [432, 433, 434, 435, 436, 437, 438], [], [], [], [], [195], [439], [], [440, 246, 441, 442], [111], [443, 444], [445], [], [344], [446]]
def tab4 : List (List Nat) := [[344], [446], [446], [344, 446, 344, 447], [345, 345, 446], [448, 396], [337, 314, 449, 450, 294], [314, 451, 452, 454, 453, 294], [455, 230], [96, 96, 96], [], [456], [231], [408, 338], [], [441, 457, 202, 441], [], [], [419, 419, 419], [458], [459, 460, 461, 462], [], [], [377], [463], [], [], [], [], [], [464, 379, 377], [380], [], [465], [465], [465], [466], [466], [], [], [440, 467, 468], [], [469], [470], [471, 472, 473, 474], [], [345], [343, 265, 475, 476, 477, 265], [196], [281, 478], [479, 480], [293, 481, 482, 483, 484, 485, 485, 485], [281, 486, 478], [], [], [338], [], [246, 441, 487, 488, 489], [], [], [194, 490, 491], [], [492, 493], [], [463], [171], [465, 465], [494, 495, 467, 496], [497, 440, 441, 468, 496], [], [498], [499], [499], [499, 313, 500], [499, 313, 500], [181, 376, 260, 379], [501, 502, 263], [323, 265, 503, 502], [340, 92], [316, 137, 421, 421, 421, 505, 504], [111], [341], [341], [450, 506], [507, 508, 506], [], [280], [509], [], [511, 510], [], [], [], [512, 513], [497, 514], [515], [441], [], [516, 516, 516, 516, 516, 516, 517], []]
def tab5 : List (List Nat) := [[], [518], [380, 263, 522, 313, 313, 313], [379, 321, 313], [], [], [], [264, 265, 323, 265, 265, 367, 523], [264, 265, 265, 367, 524], [525, 526, 527, 528, 525], [529, 530], [531], [], [], [440, 441], [441, 467, 496], [], [516, 516, 516, 516, 516, 516], [519, 520, 521], [522], [261, 261], [181, 261, 261], [], [532, 533], [], [534, 535, 534, 358, 357], [], [], [], [536], [537, 538, 529, 539], [540, 541], [], [542], [356], [], [], [543], [544], [546, 545], [547], [548], [549, 549, 549], [550, 551, 552, 553, 554], [555, 550, 556, 557, 552], [], [], [558, 559], [548, 548, 548, 548, 548], [], [], [], [], [], [560, 551, 561, 562, 551, 563, 564, 563, 562, 556, 552, 553], [], [], [565, 551, 566, 566], [567], [], [], [], [], [], [], [], [], [], [], [], [], [], [], [], [], [], [], [], [], [], [], [], [], [], [], [], [], [], [592], [], [], [], [], [], [], [], [], [], [], []]
def tab6 : List (List Nat) := [[], [], [], [], [], [], [], [], [], [], [], [], [], [], [], [], [], [], [], [], [], [], [], [], [], [], [], [], [], [546, 630], [], [633, 253, 254, 254, 254, 255], [636, 633], [], [635], [636, 637], [], [558], [], [636], [642], [636], [643, 644, 645], [], [], [304], [], [], [], [], [310], [511, 510], [], [], [], [], [], [], [], [], [], [], [], [], [], [], [], [], [], [], [], [], [], [], [], [], [], [], [], [], [], [139, 500, 500, 500, 500, 500, 500, 500, 500, 500, 500, 500, 500, 500, 500, 500, 500, 500, 500, 500, 500, 500]]
theorem lead0 : (Tryz.prog.funcs.toList.take 100).map Tryz.prog.leadsTo = tab0 := by kernel_rfl
theorem lead1 : ((Tryz.prog.funcs.toList.drop 100).take 100).map Tryz.prog.leadsTo = tab1 := by kernel_rfl
theorem lead2 : ((Tryz.prog.funcs.toList.drop 200).take 100).map Tryz.prog.leadsTo = tab2 := by kernel_rfl
theorem lead3 : ((Tryz.prog.funcs.toList.drop 300).take 100).map Tryz.prog.leadsTo = tab3 := by kernel_rfl
theorem lead4 : ((Tryz.prog.funcs.toList.drop 400).take 100).map Tryz.prog.leadsTo = tab4 := by kernel_rfl
theorem lead5 : ((Tryz.prog.funcs.toList.drop 500).take 100).map Tryz.prog.leadsTo = tab5 := by kernel_rfl
theorem lead6 : (Tryz.prog.funcs.toList.drop 600).map Tryz.prog.leadsTo = tab6 := by kernel_rfl
theorem leads : Tryz.prog.funcs.toList.map Tryz.prog.leadsTo = (tab0 ++ (tab1 ++ (tab2 ++ (tab3 ++ (tab4 ++ (tab5 ++ tab6)))))) :=
  tab_step lead0 (tab_step lead1 (by rw [List.drop_drop]; exact tab_step lead2 (by rw [List.drop_drop]; exact tab_step lead3 (by rw [List.drop_drop]; exact tab_step lead4 (by rw [List.drop_drop]; exact tab_step lead5 (by rw [List.drop_drop]; exact lead6))))))
def clos : List Nat := [3, 4, 5, 13, 36, 79, 127, 195, 246, 128, 196, 126, 80, 129, 81, 82, 37, 38, 83, 11, 32, 67, 68, 111, 163, 164, 165, 166, 139, 224, 225, 29, 49, 100, 101, 70, 141, 69, 33, 47, 98, 51, 99, 34, 74, 119, 172, 227, 75, 12, 35, 77, 78, 125, 193, 194, 124, 184, 190, 245, 185, 240, 186, 241, 242, 187, 243, 244, 305, 188, 189, 191, 192, 120, 173, 228, 229, 280, 281, 333, 334, 388, 198, 247, 335, 331, 387, 332, 282, 336, 284, 285, 286, 337, 264, 323, 379, 423, 377, 424, 463, 380, 426, 427, 428, 425, 322, 316, 370, 421, 371, 137, 372, 369, 283, 230, 288, 289, 338, 389, 290, 291, 339, 390, 391, 439, 287, 174, 231, 176, 232, 233, 292, 315, 367, 368, 92, 340, 293, 341, 294, 342, 392, 175, 234, 295, 343, 393, 440, 467, 494, 497, 514, 441, 495, 515, 496, 468, 442, 469, 394, 344, 345, 395, 443, 470, 498, 516, 517, 444, 471, 499, 472, 473, 313, 366, 420, 459, 460, 490, 491, 461, 462, 492, 493, 512, 513, 500, 474, 346, 397, 396, 445, 348, 398, 399, 446, 400, 401, 402, 403, 447, 265, 96, 140, 475, 181, 239, 304, 356, 416, 357, 358, 359, 417, 376, 260, 319, 320, 476, 501, 518, 519, 522, 520, 261, 521, 502, 263, 477, 503, 321, 378, 422, 202, 253, 310, 364, 311, 365, 254, 255, 404, 347, 296, 302, 355, 415, 457, 487, 509, 525, 534, 535, 526, 527, 528, 488, 489, 511, 531, 540, 547, 558, 567, 559, 541, 548, 510, 529, 536, 530, 537, 543, 550, 551, 552, 553, 554, 560, 561, 562, 563, 564, 556, 538, 544, 555, 557, 565, 566, 539, 546, 545, 299, 235, 297, 236, 298, 300, 349, 405, 448, 350, 406, 314, 449, 478, 450, 479, 505, 504, 480, 407, 451, 481, 482, 483, 506, 484, 507, 523, 532, 533, 542, 549, 508, 524, 485, 452, 486, 454, 453, 351, 301, 353, 352, 408, 455, 409, 410, 412, 411, 456, 354, 413, 414, 303, 237, 238, 177, 121, 178, 179, 180, 110, 54, 15, 43, 93, 94, 95, 44, 45, 97, 162, 223, 276, 171, 275, 329, 182, 330, 386, 220, 104, 147, 130, 197, 148, 116, 170, 105, 66, 271, 106, 272, 76, 122, 123, 183, 14, 39, 84, 52, 103, 143, 205, 144, 203, 204, 145, 146, 6, 16, 46, 27, 17, 48, 40, 85, 132, 133, 199, 135, 134, 131, 50, 102, 142, 53, 107, 149, 206, 150, 207, 256, 312, 87, 89, 201, 249, 251, 250, 306, 252, 307, 360, 418, 419, 458, 361, 308, 362, 363, 309, 151, 208, 257, 209, 258, 318, 374, 375, 317, 373, 41, 86, 136, 88, 90, 138, 200, 248, 259, 108, 152, 210, 262, 211, 212, 266, 267, 324, 381, 382, 429, 383, 430, 464, 431, 325, 214, 215, 213, 216, 268, 217, 269, 270, 326, 384, 218, 153, 219, 154, 155, 156, 55, 109, 157, 221, 273, 222, 274, 327, 328, 385, 432, 433, 465, 434, 435, 436, 466, 437, 438, 25, 64, 65, 115, 168, 226, 277, 278, 279, 169, 58, 57, 21, 158, 31, 71, 72, 117, 118, 73, 159, 160, 161, 9, 28, 42, 91, 7, 19, 20, 22, 59, 60, 61, 113, 167, 112, 114, 24, 62, 63, 18, 56, 8, 23, 26, 10, 30]
theorem clos_ok : Tryz.prog.closure 3 = clos := by rw [closure_tab leads]; kernel_rfl
def idxs {α : Type} (p : α → Bool) : List α → Nat → List Nat
  | [], _ => []
  | x :: r, k => if p x then k :: idxs p r (k + 1) else idxs p r (k + 1)
theorem idxs_ok {α : Type} (p : α → Bool) (a : List α) : ∀ (l : List α) (k : Nat), a.drop k = l → (List.range' k l.length).filter (fun i => (a[i]?).any p) = idxs p l k := by
  intro l
  induction l with
  | nil => intro k _; rfl
  | cons x r ih =>
    intro k h
    have hx : a[k]? = some x := by
      have := List.getElem?_drop (xs := a) (i := k) (j := 0)
      rw [h] at this; simpa using this.symm
    have hr : a.drop (k + 1) = r := by
      rw [← List.drop_drop, h]; rfl
    rw [List.length_cons, List.range'_succ, List.filter_cons, hx]
    unfold idxs
    rw [← ih (k + 1) hr]
    rfl
theorem funcNamed_idxs (P : Program) (name : String) : P.funcNamed name = match idxs (fun s : String => s == name) (P.funcs.toList.map (·.name)) 0 with | [i] => some i | _ => none := by
  have h := idxs_ok (fun s : String => s == name) (P.funcs.toList.map (·.name)) (P.funcs.toList.map (·.name)) 0 List.drop_zero
  unfold Program.funcNamed
  rw [← h, List.length_map, Array.length_toList, ← List.range_eq_range']
  have e : (fun i : Nat => (P.funcs[i]?).any fun x : Func => x.name == name) = fun i : Nat => ((P.funcs.toList.map fun x : Func => x.name)[i]?).any fun s => s == name := by
    funext i
    rw [List.getElem?_map, Array.getElem?_toList]
    cases P.funcs[i]? <;> rfl
  rw [e]; rfl
theorem vid : Tryz.prog.funcNamed "gosem.cut.vars" = some 681 := by rw [funcNamed_idxs]; kernel_rfl
theorem fid : Tryz.prog.funcNamed "wicketgate/wicketgatetop.TopFlows" = some 3 := by rw [funcNamed_idxs]; kernel_rfl
theorem goes_none {P : Program} (h : P.funcs.toList.any Func.goes = false) (f : Nat) : P.goes f = false := by
  have h' : ∀ x ∈ P.funcs.toList, x.goes = false := fun x hx => by
    have := (List.any_eq_false.1 h) x hx
    simpa using this
  have h1 : ((P.closure f).any fun g => (P.funcs[g]?).any Func.goes) = false := by
    rw [List.any_eq_false]
    intro g _
    cases hg : P.funcs[g]? with
    | none => simp
    | some x =>
      have : x ∈ P.funcs.toList := by rw [Array.mem_toList_iff]; exact Array.mem_of_getElem? hg
      simp [h' x this]
  have h2 : P.funcs.any Func.goes = false := by rw [← Array.any_toList]; exact h
  unfold Program.goes
  rw [h1, h2, Bool.and_false, Bool.or_false]
theorem any_step {α : Type} {p : α → Bool} {l : List α} {n : Nat} (ha : (l.take n).any p = false) (hb : (l.drop n).any p = false) : l.any p = false := by
  rw [← List.take_append_drop n l, List.any_append, ha, hb]; rfl
theorem go0 : (Tryz.prog.funcs.toList.take 100).any Func.goes = false := by kernel_rfl
theorem go1 : ((Tryz.prog.funcs.toList.drop 100).take 100).any Func.goes = false := by kernel_rfl
theorem go2 : ((Tryz.prog.funcs.toList.drop 200).take 100).any Func.goes = false := by kernel_rfl
theorem go3 : ((Tryz.prog.funcs.toList.drop 300).take 100).any Func.goes = false := by kernel_rfl
theorem go4 : ((Tryz.prog.funcs.toList.drop 400).take 100).any Func.goes = false := by kernel_rfl
theorem go5 : ((Tryz.prog.funcs.toList.drop 500).take 100).any Func.goes = false := by kernel_rfl
theorem go6 : (Tryz.prog.funcs.toList.drop 600).any Func.goes = false := by kernel_rfl
theorem no_goes (f : Nat) : Tryz.prog.goes f = false := goes_none (any_step go0 (any_step go1 (by rw [List.drop_drop]; exact any_step go2 (by rw [List.drop_drop]; exact any_step go3 (by rw [List.drop_drop]; exact any_step go4 (by rw [List.drop_drop]; exact any_step go5 (by rw [List.drop_drop]; exact go6))))))) f
theorem jg1 : Tryz.pinned.checked.prog.inPlace 3 = Rows.topFlowsRow.inPlace := by
  show Tryz.prog.inPlace 3 = _
  unfold Program.inPlace; rw [clos_ok]; kernel_rfl
theorem jg2' : Tryz.prog.unfollowed 3 = true := by unfold Program.unfollowed; rw [clos_ok]; kernel_rfl
theorem jg2 : Tryz.pinned.checked.prog.unfollowed 3 = Rows.topFlowsRow.unfollowed := jg2'
theorem jg3 : Tryz.pinned.checked.prog.recurses 3 = Rows.topFlowsRow.recurses := by
  show Tryz.prog.recurses 3 = true
  unfold Program.recurses; rw [jg2']; rfl
theorem jg4 : Tryz.pinned.checked.prog.varsNamed 3 = Rows.topFlowsRow.named := by
  show Tryz.prog.varsNamed 3 = _
  unfold Program.varsNamed; rw [clos_ok]; kernel_rfl
theorem jg5 : false = Rows.topFlowsRow.goesBy Tryz.pinned.checked.prog := by
  have h : Tryz.prog.goesFrom "wicketgate/wicketgatetop.TopFlows" = false := by unfold Program.goesFrom; rw [fid, Option.any_some]; exact no_goes 3
  have c : Tryz.pinned.checked.prog.goesFrom Rows.topFlowsRow.func = Tryz.prog.goesFrom "wicketgate/wicketgatetop.TopFlows" := by kernel_rfl
  unfold OpenClaim.goesBy Program.goesAt; rw [c, h]; rfl
end Go.Proofs.YtbooaoddioibeaaGreatDoor
