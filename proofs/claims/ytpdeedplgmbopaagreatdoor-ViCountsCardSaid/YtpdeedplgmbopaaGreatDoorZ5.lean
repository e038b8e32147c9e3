import Derived.Test.YtpdeedplgmbopaaGreatDoorZ4
import Derived.Test.YtpdeedplgmbopaaGreatDoorProg
import Derived.Test.YtpdeedplgmbopaaGreatDoorRows
import Derived.Test.YtpdeedplgmbopaaGreatDoorTie
import Derived.Test.YtpdeedplgmbopaaGreatDoorZ3
set_option linter.unusedSimpArgs false
set_option linter.unusedVariables false
/- Texts of mine, joined, their names in short: Tab LaidT Laid Equal Slices. -/
section
namespace Go.Proofs.YtpdeedplgmbopaaGreatDoor
open Go.RowKit
open _root_.Go.Proofs.Tryz
def mQ (r : Int) : Bool := decide (0 ≤ r ∧ r < 55296 ∨ 57343 < r ∧ r ≤ 1114111)
def lD (r : Int) : Bool := decide (0 ≤ r ∧ r < 32 ∨ 127 ≤ r ∧ r ≤ 159)
def within (r : Int) (T : List (Int × Int)) : Bool := T.any fun x => decide (x.1 ≤ r ∧ r ≤ x.2)
def Vj : List (Int × Int) := [(768, 879), (1155, 1161), (1425, 1469), (1552, 1562), (1611, 1631), (3633, 3633), (3636, 3642), (3655, 3662), (6832, 6911), (7616, 7679), (8203, 8207), (8400, 8447), (12441, 12442), (65024, 65039), (65056, 65071)]
def Vk : List (Int × Int) := [(4352, 4447), (11904, 12350), (12353, 13311), (13312, 19903), (19968, 40959), (40960, 42191), (44032, 55203), (63744, 64255), (65072, 65135), (65280, 65376), (65504, 65510), (127744, 128591), (129280, 129535), (131072, 262141)]
def Dh (r : Int) : Int := if !mQ r || lD r || within r Vj then 0 else if within r Vk then 2 else 1
def dZ (r : Int) : Bool :=
  if r < 192 then decide (48 ≤ r ∧ r ≤ 57 ∨ 65 ≤ r ∧ r ≤ 90 ∨ 97 ≤ r ∧ r ≤ 122)
  else if r = 215 ∨ r = 247 ∨ r = 65533 ∨ 8192 ≤ r ∧ r ≤ 8303 ∨ 12288 ≤ r ∧ r ≤ 12351 ∨ 65280 ≤ r ∧ r ≤ 65295 then false
  else mQ r && decide (0 < Dh r)
theorem V.cell {w0 w : World} {F : HP} (H : V w0 w F) {a : Addr} {v : Value} (h : w0.cell? a = some v) : w.cell? a = some v := (H.base.cell (World.block_lt_of_cell? _ _ h)).trans h
theorem WE {w : World} {b o : Nat} {u v : Value} (h : w.cell? ⟨b, o, none⟩ = some u) (k : w.cell? ⟨b, o + 1, none⟩ = some v) : ∀ (j : Nat) x, ([u, v] : List Value)[j]? = some x → w.cell? ⟨b, o + j, none⟩ = some x := by
  intro j x hj
  match j, hj with
  | 0, hj => cases hj; exact h
  | 1, hj => cases hj; exact k
  | j + 2, hj => simp at hj
def vI (T : List (Int × Int)) : List Value := T.flatMap fun x => [.int .i32 x.1, .int .i32 x.2]
structure Ae (w : World) : Prop where
  adS : Rd w 2 (.slice (some ⟨0, 0, none⟩) 15 15) 15 (vI Vj)
  adT : Rd w 2 (.slice (some ⟨1, 0, none⟩) 14 14) 14 (vI Vk)
section
variable {w0 w : World} {F : HP} {r : Int}
theorem WG : iI prog 145 #[.int .i32 r] w fun v w' => v = .bool (mQ r) ∧ w = w' := by
 refine jr func145 ntmps145 ?_
 refine jR O (aO (aY (bT O (Z (sG O O) (jJ O (fun h1 => ?_) (fun h1 => ?_))))))
 ·(try simp only [aA] at h1)
  try (exfalso; first | contradiction | omega)
  all_goals
   refine bg (bP O (bg (Z (gB O O) (jh O O (fP O (bH O (fun h2 => ?_) (fun h2 => ?_)))))))
   ·(try simp only [aA] at h2)
    try (exfalso; first | contradiction | omega)
    all_goals
     refine jP O (aT (aB (dK rM O ?_)))
     refine ⟨?_, O⟩; congr 1; first | (symm; rw [mQ, decide_eq_true_eq]; omega) | (symm; rw [mQ, decide_eq_false_iff_not]; omega) | (rw [mQ, decide_eq_decide]; omega)
   ·(try simp only [aA] at h2)
    try (exfalso; first | contradiction | omega)
    all_goals
     refine bT O (Z (gB O O) (jJ O (fun h3 => ?_) (fun h3 => ?_)))
     ·(try simp only [aA] at h3)
      try (exfalso; first | contradiction | omega)
      all_goals
       refine bg (bP O (bg (Z (sG O O) (jh O O (fP O (bH O (fun h4 => ?_) (fun h4 => ?_)))))))
       ·(try simp only [aA] at h4)
        try (exfalso; first | contradiction | omega)
        all_goals
         refine jP O (aT (aB (dK rM O ?_)))
         refine ⟨?_, O⟩; congr 1; first | (symm; rw [mQ, decide_eq_true_eq]; omega) | (symm; rw [mQ, decide_eq_false_iff_not]; omega) | (rw [mQ, decide_eq_decide]; omega)
       ·(try simp only [aA] at h4)
        try (exfalso; first | contradiction | omega)
        all_goals
         refine dn (aK (aW (jP O (dK rM O ?_))))
         refine ⟨?_, O⟩; congr 1; first | (symm; rw [mQ, decide_eq_true_eq]; omega) | (symm; rw [mQ, decide_eq_false_iff_not]; omega) | (rw [mQ, decide_eq_decide]; omega)
     ·(try simp only [aA] at h3)
      try (exfalso; first | contradiction | omega)
      all_goals
       refine bF (bF (ig O O (fP O (qH (dn (aK (aW (jP O (dK rM O ?_)))))))))
       refine ⟨?_, O⟩; congr 1; first | (symm; rw [mQ, decide_eq_true_eq]; omega) | (symm; rw [mQ, decide_eq_false_iff_not]; omega) | (rw [mQ, decide_eq_decide]; omega)
 ·(try simp only [aA] at h1)
  try (exfalso; first | contradiction | omega)
  all_goals
   refine bF (bF (ig O O (fP O (qH (bT O (Z (gB O O) (jJ O (fun h5 => ?_) (fun h5 => ?_))))))))
   ·(try simp only [aA] at h5)
    try (exfalso; first | contradiction | omega)
    all_goals
     refine bg (bP O (bg (Z (sG O O) (jh O O (fP O (bH O (fun h6 => ?_) (fun h6 => ?_)))))))
     ·(try simp only [aA] at h6)
      try (exfalso; first | contradiction | omega)
      all_goals
       refine jP O (aT (aB (dK rM O ?_)))
       refine ⟨?_, O⟩; congr 1; first | (symm; rw [mQ, decide_eq_true_eq]; omega) | (symm; rw [mQ, decide_eq_false_iff_not]; omega) | (rw [mQ, decide_eq_decide]; omega)
     ·(try simp only [aA] at h6)
      try (exfalso; first | contradiction | omega)
      all_goals
       refine dn (aK (aW (jP O (dK rM O ?_))))
       refine ⟨?_, O⟩; congr 1; first | (symm; rw [mQ, decide_eq_true_eq]; omega) | (symm; rw [mQ, decide_eq_false_iff_not]; omega) | (rw [mQ, decide_eq_decide]; omega)
   ·(try simp only [aA] at h5)
    try (exfalso; first | contradiction | omega)
    all_goals
     refine bF (bF (ig O O (fP O (qH (dn (aK (aW (jP O (dK rM O ?_)))))))))
     refine ⟨?_, O⟩; congr 1; first | (symm; rw [mQ, decide_eq_true_eq]; omega) | (symm; rw [mQ, decide_eq_false_iff_not]; omega) | (rw [mQ, decide_eq_decide]; omega)
theorem wK : iI prog 103 #[.int .i32 r] w fun v w' => v = .bool (mQ r) ∧ w = w' := by
  refine jr func103 ntmps103 ?_
  refine jR O (bT O (dS O func145 (WG) ?_))
  rintro _ _ ⟨rfl, rfl⟩
  refine fC O (dK results103 O ?_)
  exact ⟨O, O⟩
theorem Qm : iI prog 146 #[.int .i32 r] w fun v w' => v = .bool (lD r) ∧ w = w' := by
  refine jr func146 ntmps146 ?_
  refine jR O (bT O (Z (mX O O) (jJ O (fun h1 => ?_) (fun h1 => ?_))))
  · (try simp only [aA] at h1)
    try (exfalso; first | contradiction | omega)
    all_goals
      refine bg (bP O (bg (Z (gB O O) (jh O O (jJ O (fun h2 => ?_) (fun h2 => ?_))))))
      · (try simp only [aA] at h2)
        try (exfalso; first | contradiction | omega)
        all_goals
          refine bF (bF (bF (mY (mY (bF (jh O O (fC O (dK results146 O ?_))))))))
          refine ⟨?_, O⟩; congr 1; first | (symm; rw [lD, decide_eq_true_eq]; omega) | (symm; rw [lD, decide_eq_false_iff_not]; omega) | (rw [lD, decide_eq_decide]; omega)
      · (try simp only [aA] at h2)
        try (exfalso; first | contradiction | omega)
        all_goals
          refine bg (bP O (bg (Z (mX O O) (bg (jJ O (fun h3 => ?_) (fun h3 => ?_))))))
          · (try simp only [aA] at h3)
            try (exfalso; first | contradiction | omega)
            all_goals
              refine bg (bP O (bg (Z (sG O O) (bg (jh O O (ig O O (fC O (dK results146 O ?_))))))))
              refine ⟨?_, O⟩; congr 1; first | (symm; rw [lD, decide_eq_true_eq]; omega) | (symm; rw [lD, decide_eq_false_iff_not]; omega) | (rw [lD, decide_eq_decide]; omega)
          · (try simp only [aA] at h3)
            try (exfalso; first | contradiction | omega)
            all_goals
              refine bF (bF (bg (ig O O (ig O O (fC O (dK results146 O ?_))))))
              refine ⟨?_, O⟩; congr 1; first | (symm; rw [lD, decide_eq_true_eq]; omega) | (symm; rw [lD, decide_eq_false_iff_not]; omega) | (rw [lD, decide_eq_decide]; omega)
  · (try simp only [aA] at h1)
    try (exfalso; first | contradiction | omega)
    all_goals
      refine bF (bF (ig O O (bP O (bg (bP O (bg (Z (mX O O) (bg (jJ O (fun h4 => ?_) (fun h4 => ?_))))))))))
      · (try simp only [aA] at h4)
        try (exfalso; first | contradiction | omega)
        all_goals
          refine bg (bP O (bg (Z (sG O O) (bg (jh O O (ig O O (fC O (dK results146 O ?_))))))))
          refine ⟨?_, O⟩; congr 1; first | (symm; rw [lD, decide_eq_true_eq]; omega) | (symm; rw [lD, decide_eq_false_iff_not]; omega) | (rw [lD, decide_eq_decide]; omega)
      · (try simp only [aA] at h4)
        try (exfalso; first | contradiction | omega)
        all_goals
          refine bF (bF (bg (ig O O (ig O O (fC O (dK results146 O ?_))))))
          refine ⟨?_, O⟩; congr 1; first | (symm; rw [lD, decide_eq_true_eq]; omega) | (symm; rw [lD, decide_eq_false_iff_not]; omega) | (rw [lD, decide_eq_decide]; omega)
theorem OC (T : List (Int × Int)) : (vI T).length = T.length * 2 := by
  induction T with
  | nil => rfl
  | cons x r ih => simp only [vI, List.flatMap_cons, List.length_append] at *; simp [ih]; omega
theorem JW (T : List (Int × Int)) (k : Nat) (h : k < T.length) : (vI T).getD (k * 2) undef = .int .i32 (T.getD k (0, 0)).1 ∧ (vI T).getD (k * 2 + 1) undef = .int .i32 (T.getD k (0, 0)).2 := by
  induction T generalizing k with
  | nil => simp at h
  | cons x r ih =>
    cases k with
    | zero => exact ⟨rfl, rfl⟩
    | succ k =>
      have := ih k (by simpa using h)
      rw [show (k + 1) * 2 = k * 2 + 2 from by omega, show k * 2 + 2 + 1 = (k * 2 + 1) + 2 from by omega]
      simpa [vI, List.getD_eq_getElem?_getD] using this
theorem IU {r : Int} {T : List (Int × Int)} {k : Nat} (h : k < T.length) : within r (T.take (k + 1)) = (within r (T.take k) || decide ((T.getD k (0, 0)).1 ≤ r ∧ r ≤ (T.getD k (0, 0)).2)) := by
  unfold within
  rw [List.take_succ_eq_append_getElem h, List.any_append]
  simp [List.getD_eq_getElem?_getD, h]
theorem TD {r : Int} {T : List (Int × Int)} {k : Nat} (h : k < T.length) (hk : (T.getD k (0, 0)).1 ≤ r ∧ r ≤ (T.getD k (0, 0)).2) : within r T = true := by
  unfold within
  rw [List.any_eq_true]
  refine ⟨T.getD k (0, 0), ?_, by simpa using hk⟩
  rw [List.getD_eq_getElem?_getD, List.getElem?_eq_getElem h]
  exact List.getElem_mem h
theorem JX {v : Value} {T : List (Int × Int)} (H : V w0 w F) (hr : Rd w0 2 v T.length (vI T)) (hT : T.length < 1000000) :
  iI prog 147 #[.int .i32 r, v] w fun v w' => v = .bool (within r T) ∧ V w0 w' F := by
 obtain ⟨hlen, a, c, rfl, hc1, hc2, hcell⟩ := hr
 refine oN func147 ntmps147 ?_
 refine jR O (aO (bT O (Z (jc underlying211 O) (bP O (iL (aY ?_))))))
 refine gV [(0, _), (7, _), (8, _)] (fun (k : Nat) => [(9, .int .i64 (k : Int))]) (fun (k : Nat) W => k ≤ T.length ∧ within r (T.take k) = false ∧ V w0 W F) (fun (k : Nat) => T.length - k) (0) vZ mG ⟨by omega, O, H⟩ ?_
 rintro k w1 ⟨hk, hno, HL⟩
 dsimp only [List.cons_append, List.nil_append]
 refine iV (Z (gB O O) (qR (bH O (fun h1 => ?_) (fun h1 => ?_))))
 ·(try simp only [aA] at h1)
  try (exfalso; first | contradiction | omega)
  all_goals
   refine gQ (aO (aY (aO ?_)))
   have hk1 : k < T.length := by omega
   obtain ⟨b0, o, rfl, hq⟩ := hcell (by omega)
   have hq0 := hq (k * 2) (by omega)
   have hq1 := hq (k * 2 + 1) (by omega)
   rw [(JW T k hk1).1] at hq0
   rw [(JW T k hk1).2] at hq1
   rw [← Nat.add_assoc] at hq1
   refine aC (Z (dP underlying211 sizeOf213 O O (by omega)) ?_)
   refine Z (Bl (cs := [.int .i32 (T.getD k (0, 0)).1, .int .i32 (T.getD k (0, 0)).2]) (by rw [underlying213]; rfl) (Qd underlying213 O) sizeOf213 O O (WE (by rw [show ((k : Int).toNat * 2) = k * 2 from by omega]; exact HL.cell hq0) (by rw [show ((k : Int).toNat * 2) = k * 2 from by omega]; exact HL.cell hq1))) ?_
   refine jV (zN HL zeroValue213) ?_
   rintro _ w2 ⟨b2, rfl, H2⟩
   refine aI (gK (cs := #[.int .i32 (T.getD k (0, 0)).1, .int .i32 (T.getD k (0, 0)).2]) H2 sizeOf213 O O O O (by simp [Value.oneCell'])) ?_
   rintro _ w3 H3
   have HN := H3.right
   refine rZ O (bJ 0 underlying213 O bV O (fV bG O H3.get.2 O (Z (mX O O) (jJ O (fun h2 => ?_) (fun h2 => ?_)))))
   ·(try simp only [aA] at h2)
    try (exfalso; first | contradiction | omega)
    all_goals
     refine bg (bP O (bg (bJ 1 underlying213 O bV O (bg (fV bG O H3.get.2 O (bg (Z (sG O O) (jh O O (jL O (fun h3 => ?_) (fun h3 => ?_))))))))))
     ·(try simp only [aA] at h3)
      try (exfalso; first | contradiction | omega)
      all_goals
       refine jP O (aT (aB (aB (aT (aB (dK results147 O ?_))))))
       exact ⟨by rw [TD hk1 (by omega)], HN⟩
     ·(try simp only [aA] at h3)
      try (exfalso; first | contradiction | omega)
      all_goals
       refine dn (aK (aW (aC (Z (fO O O (by omega)) (bP O (bY ?_))))))
       refine dU (k + 1) ?_ ?_ ?_ ?_
       ·exact mG
       ·exact vZ
       ·(try dsimp only)
        first | done | exact ⟨by omega, by rw [IU hk1, hno, Bool.false_or, decide_eq_false_iff_not]; omega, HN⟩
       ·(try dsimp only); omega
   ·(try simp only [aA] at h2)
    try (exfalso; first | contradiction | omega)
    all_goals
     refine bF (bF (bF (bF (ig O O (iL (qH (dn (aK (aW (aC (Z (fO O O (by omega)) (bP O (bY ?_)))))))))))))
     refine dU (k + 1) ?_ ?_ ?_ ?_
     ·exact mG
     ·exact vZ
     ·(try dsimp only)
      first | done | exact ⟨by omega, by rw [IU hk1, hno, Bool.false_or, decide_eq_false_iff_not]; omega, HN⟩
     ·(try dsimp only); omega
 ·(try simp only [aA] at h1)
  try (exfalso; first | contradiction | omega)
  all_goals
   refine dO (aN (aN (bn (aW (jP O (dK results147 O ?_))))))
   exact ⟨by rw [← hno, List.take_of_length_le (by omega)], HL⟩
theorem oq (H : V w0 w F) (hT : Ae w0) : iI prog 104 #[.int .i32 r] w fun v w' => v = .int .i64 (Dh r) ∧ V w0 w' F := by
 refine jr func104 ntmps104 ?_
 refine jR O (aO (aY (bT O (dS O func103 (wK) ?_))))
 rintro _ _ ⟨rfl, rfl⟩
 refine Z (lC O) (jJ O (fun h1 => ?_) (fun h1 => ?_))
 ·(try simp only [aA] at h1)
  try (exfalso; first | contradiction | omega)
  all_goals
   refine bF (bF (jh O O (bP O (bF (bF (bF (jh O O (fP O (C9 (jP O (aT (aB (dK results104 O ?_)))))))))))))
   exact ⟨by unfold Dh; simp [*], H⟩
 ·(try simp only [aA] at h1)
  try (exfalso; first | contradiction | omega)
  all_goals
   refine bg (bP O (bg (dS O func146 (Qm) ?_)))
   rintro _ _ ⟨rfl, rfl⟩
   refine ig O O (jJ O (fun h2 => ?_) (fun h2 => ?_))
   ·(try simp only [aA] at h2)
    try (exfalso; first | contradiction | omega)
    all_goals
     refine bF (bF (bF (jh O O (fP O (C9 (jP O (aT (aB (dK results104 O ?_)))))))))
     exact ⟨by unfold Dh; simp [*], H⟩
   ·(try simp only [aA] at h2)
    try (exfalso; first | contradiction | omega)
    all_goals
     refine bg (bP O (bg (Z (IQ underlying214 sizeOf213 O) ?_)))
     refine bg (dS O func147 (JX (T := Vj) H hT.adS (by decide)) ?_)
     rintro _ w3 ⟨rfl, H3⟩
     refine ig O O (fP O (bH O (fun h3 => ?_) (fun h3 => ?_)))
     ·(try simp only [aA] at h3)
      try (exfalso; first | contradiction | omega)
      all_goals
       refine jP O (aT (aB (dK results104 O ?_)))
       exact ⟨by unfold Dh; simp [*], H3⟩
     ·(try simp only [aA] at h3)
      try (exfalso; first | contradiction | omega)
      all_goals
       refine bT O (Z (IQ underlying215 sizeOf213 O) ?_)
       refine dS O func147 (JX (T := Vk) H3 hT.adT (by decide)) ?_
       rintro _ w4 ⟨rfl, H4⟩
       refine fP O (bH O (fun h4 => ?_) (fun h4 => ?_))
       ·(try simp only [aA] at h4)
        try (exfalso; first | contradiction | omega)
        all_goals
         refine jP O (aT (aB (dK results104 O ?_)))
         exact ⟨by unfold Dh; simp [*], H4⟩
       ·(try simp only [aA] at h4)
        try (exfalso; first | contradiction | omega)
        all_goals
         refine dn (aK (aW (jP O (dK results104 O ?_))))
         exact ⟨by unfold Dh; simp [*], H4⟩
theorem TF (H : V w0 w F) (hT : Ae w0) : iI prog 47 #[.int .i32 r] w fun v w' => v = .bool (dZ r) ∧ V w0 w' F := by
 refine jr func47 ntmps47 ?_
 refine jR O (aO (bT O (Z (gB O O) (jL O (fun h1 => ?_) (fun h1 => ?_)))))
 ·(try simp only [aA] at h1)
  try (exfalso; first | contradiction | omega)
  all_goals
   refine bT O (Z (mX O O) (jJ O (fun h2 => ?_) (fun h2 => ?_)))
   ·(try simp only [aA] at h2)
    try (exfalso; first | contradiction | omega)
    all_goals
     refine bg (bP O (bg (Z (sG O O) (jh O O (jJ O (fun h3 => ?_) (fun h3 => ?_))))))
     ·(try simp only [aA] at h3)
      try (exfalso; first | contradiction | omega)
      all_goals
       refine bF (bF (bF (mY (mY (bF (jh O O (bP O (bF (bF (bF (mY (mY (bF (jh O O (fC O (aB (dK dB O ?_)))))))))))))))))
       refine ⟨?_, H⟩; congr 1; rw [dZ, if_pos (by omega)]; first | (symm; rw [decide_eq_true_eq]; omega) | (symm; rw [decide_eq_false_iff_not]; omega) | (rw [decide_eq_decide]; omega)
     ·(try simp only [aA] at h3)
      try (exfalso; first | contradiction | omega)
      all_goals
       refine bg (bP O (bg (Z (mX O O) (bg (jJ O (fun h4 => ?_) (fun h4 => ?_))))))
       ·(try simp only [aA] at h4)
        try (exfalso; first | contradiction | omega)
        all_goals
         refine bg (bP O (bg (Z (sG O O) (bg (jh O O (ig O O (jJ O (fun h5 => ?_) (fun h5 => ?_))))))))
         ·(try simp only [aA] at h5)
          try (exfalso; first | contradiction | omega)
          all_goals
           refine bF (bF (bF (mY (mY (bF (jh O O (fC O (aB (dK dB O ?_)))))))))
           refine ⟨?_, H⟩; congr 1; rw [dZ, if_pos (by omega)]; first | (symm; rw [decide_eq_true_eq]; omega) | (symm; rw [decide_eq_false_iff_not]; omega) | (rw [decide_eq_decide]; omega)
         ·(try simp only [aA] at h5)
          try (exfalso; first | contradiction | omega)
          all_goals
           refine bg (bP O (bg (Z (mX O O) (bg (jJ O (fun h6 => ?_) (fun h6 => ?_))))))
           ·(try simp only [aA] at h6)
            try (exfalso; first | contradiction | omega)
            all_goals
             refine bg (bP O (bg (Z (sG O O) (bg (jh O O (ig O O (fC O (aB (dK dB O ?_)))))))))
             refine ⟨?_, H⟩; congr 1; rw [dZ, if_pos (by omega)]; first | (symm; rw [decide_eq_true_eq]; omega) | (symm; rw [decide_eq_false_iff_not]; omega) | (rw [decide_eq_decide]; omega)
           ·(try simp only [aA] at h6)
            try (exfalso; first | contradiction | omega)
            all_goals
             refine bF (bF (bg (ig O O (ig O O (fC O (aB (dK dB O ?_)))))))
             refine ⟨?_, H⟩; congr 1; rw [dZ, if_pos (by omega)]; first | (symm; rw [decide_eq_true_eq]; omega) | (symm; rw [decide_eq_false_iff_not]; omega) | (rw [decide_eq_decide]; omega)
       ·(try simp only [aA] at h4)
        try (exfalso; first | contradiction | omega)
        all_goals
         refine bF (bF (bg (ig O O (ig O O (bP O (bg (bP O (bg (Z (mX O O) (bg (jJ O (fun h7 => ?_) (fun h7 => ?_))))))))))))
         ·(try simp only [aA] at h7)
          try (exfalso; first | contradiction | omega)
          all_goals
           refine bg (bP O (bg (Z (sG O O) (bg (jh O O (ig O O (fC O (aB (dK dB O ?_)))))))))
           refine ⟨?_, H⟩; congr 1; rw [dZ, if_pos (by omega)]; first | (symm; rw [decide_eq_true_eq]; omega) | (symm; rw [decide_eq_false_iff_not]; omega) | (rw [decide_eq_decide]; omega)
         ·(try simp only [aA] at h7)
          try (exfalso; first | contradiction | omega)
          all_goals
           refine bF (bF (bg (ig O O (ig O O (fC O (aB (dK dB O ?_)))))))
           refine ⟨?_, H⟩; congr 1; rw [dZ, if_pos (by omega)]; first | (symm; rw [decide_eq_true_eq]; omega) | (symm; rw [decide_eq_false_iff_not]; omega) | (rw [decide_eq_decide]; omega)
   ·(try simp only [aA] at h2)
    try (exfalso; first | contradiction | omega)
    all_goals
     refine bF (bF (ig O O (bP O (bg (bP O (bg (Z (mX O O) (bg (jJ O (fun h8 => ?_) (fun h8 => ?_))))))))))
     ·(try simp only [aA] at h8)
      try (exfalso; first | contradiction | omega)
      all_goals
       refine bg (bP O (bg (Z (sG O O) (bg (jh O O (ig O O (jJ O (fun h9 => ?_) (fun h9 => ?_))))))))
       ·(try simp only [aA] at h9)
        try (exfalso; first | contradiction | omega)
        all_goals
         refine bF (bF (bF (mY (mY (bF (jh O O (fC O (aB (dK dB O ?_)))))))))
         refine ⟨?_, H⟩; congr 1; rw [dZ, if_pos (by omega)]; first | (symm; rw [decide_eq_true_eq]; omega) | (symm; rw [decide_eq_false_iff_not]; omega) | (rw [decide_eq_decide]; omega)
       ·(try simp only [aA] at h9)
        try (exfalso; first | contradiction | omega)
        all_goals
         refine bg (bP O (bg (Z (mX O O) (bg (jJ O (fun h10 => ?_) (fun h10 => ?_))))))
         ·(try simp only [aA] at h10)
          try (exfalso; first | contradiction | omega)
          all_goals
           refine bg (bP O (bg (Z (sG O O) (bg (jh O O (ig O O (fC O (aB (dK dB O ?_)))))))))
           refine ⟨?_, H⟩; congr 1; rw [dZ, if_pos (by omega)]; first | (symm; rw [decide_eq_true_eq]; omega) | (symm; rw [decide_eq_false_iff_not]; omega) | (rw [decide_eq_decide]; omega)
         ·(try simp only [aA] at h10)
          try (exfalso; first | contradiction | omega)
          all_goals
           refine bF (bF (bg (ig O O (ig O O (fC O (aB (dK dB O ?_)))))))
           refine ⟨?_, H⟩; congr 1; rw [dZ, if_pos (by omega)]; first | (symm; rw [decide_eq_true_eq]; omega) | (symm; rw [decide_eq_false_iff_not]; omega) | (rw [decide_eq_decide]; omega)
     ·(try simp only [aA] at h8)
      try (exfalso; first | contradiction | omega)
      all_goals
       refine bF (bF (bg (ig O O (ig O O (bP O (bg (bP O (bg (Z (mX O O) (bg (jJ O (fun h11 => ?_) (fun h11 => ?_))))))))))))
       ·(try simp only [aA] at h11)
        try (exfalso; first | contradiction | omega)
        all_goals
         refine bg (bP O (bg (Z (sG O O) (bg (jh O O (ig O O (fC O (aB (dK dB O ?_)))))))))
         refine ⟨?_, H⟩; congr 1; rw [dZ, if_pos (by omega)]; first | (symm; rw [decide_eq_true_eq]; omega) | (symm; rw [decide_eq_false_iff_not]; omega) | (rw [decide_eq_decide]; omega)
       ·(try simp only [aA] at h11)
        try (exfalso; first | contradiction | omega)
        all_goals
         refine bF (bF (bg (ig O O (ig O O (fC O (aB (dK dB O ?_)))))))
         refine ⟨?_, H⟩; congr 1; rw [dZ, if_pos (by omega)]; first | (symm; rw [decide_eq_true_eq]; omega) | (symm; rw [decide_eq_false_iff_not]; omega) | (rw [decide_eq_decide]; omega)
 ·(try simp only [aA] at h1)
  try (exfalso; first | contradiction | omega)
  all_goals
   refine gQ (aO (aY (aO (bT O (Z (dX O O) (jJ O (fun h12 => ?_) (fun h12 => ?_)))))))
   ·(try simp only [aA] at h12)
    try (exfalso; first | contradiction | omega)
    all_goals
     refine bF (bF (jh O O (bP O (bF (bF (jh O O (fP O (C9 (gQ (C9 (jP O (aT (aB (dK dB O ?_))))))))))))))
     refine ⟨?_, H⟩; congr 1; rw [dZ, if_neg (by omega), if_pos (by omega)]
   ·(try simp only [aA] at h12)
    try (exfalso; first | contradiction | omega)
    all_goals
     refine bg (bP O (bg (Z (dX O O) (ig O O (jJ O (fun h13 => ?_) (fun h13 => ?_))))))
     ·(try simp only [aA] at h13)
      try (exfalso; first | contradiction | omega)
      all_goals
       refine bF (bF (jh O O (fP O (C9 (gQ (C9 (jP O (aT (aB (dK dB O ?_))))))))))
       refine ⟨?_, H⟩; congr 1; rw [dZ, if_neg (by omega), if_pos (by omega)]
     ·(try simp only [aA] at h13)
      try (exfalso; first | contradiction | omega)
      all_goals
       refine bg (bP O (bg (Z (dX O O) (ig O O (fP O (bH O (fun h14 => ?_) (fun h14 => ?_)))))))
       ·(try simp only [aA] at h14)
        try (exfalso; first | contradiction | omega)
        all_goals
         refine gQ (bH O (fun h15 => ?_) (fun h15 => ?_))
         ·(try simp only [aA] at h15)
          try (exfalso; first | contradiction | omega)
          all_goals
           refine jP O (aT (aB (dK dB O ?_)))
           refine ⟨?_, H⟩; congr 1; rw [dZ, if_neg (by omega), if_pos (by omega)]
         ·(try simp only [aA] at h15)
          try (exfalso; first | contradiction | omega)
          all_goals
           refine dn (aK (aW (bT O (dS O func103 (wK) ?_))))
           rintro _ _ ⟨rfl, rfl⟩
           refine jJ O (fun h16 => ?_) (fun h16 => ?_)
           ·(try simp only [aA] at h16)
            try (exfalso; first | contradiction | omega)
            all_goals
             refine bg (bP O (bg (dS O func104 (oq H hT) ?_)))
             rintro _ w2 ⟨rfl, H2⟩
             refine bg (Z (dY O O) (jh O O (fC O (dK dB O ?_))))
             refine ⟨?_, H2⟩; congr 1; rw [dZ, if_neg (by omega), if_neg (by omega)]; simp [*]
           ·(try simp only [aA] at h16)
            try (exfalso; first | contradiction | omega)
            all_goals
             refine bF (bF (bF (ig O O (fC O (dK dB O ?_)))))
             refine ⟨?_, H⟩; congr 1; rw [dZ, if_neg (by omega), if_neg (by omega)]; simp [*]
       ·(try simp only [aA] at h14)
        try (exfalso; first | contradiction | omega)
        all_goals
         refine bT O (Z (mX O O) (jJ O (fun h17 => ?_) (fun h17 => ?_)))
         ·(try simp only [aA] at h17)
          try (exfalso; first | contradiction | omega)
          all_goals
           refine bg (bP O (bg (Z (sG O O) (jh O O (fP O (bH O (fun h18 => ?_) (fun h18 => ?_)))))))
           ·(try simp only [aA] at h18)
            try (exfalso; first | contradiction | omega)
            all_goals
             refine gQ (bH O (fun h19 => ?_) (fun h19 => ?_))
             ·(try simp only [aA] at h19)
              try (exfalso; first | contradiction | omega)
              all_goals
               refine jP O (aT (aB (dK dB O ?_)))
               refine ⟨?_, H⟩; congr 1; rw [dZ, if_neg (by omega), if_pos (by omega)]
             ·(try simp only [aA] at h19)
              try (exfalso; first | contradiction | omega)
              all_goals
               refine dn (aK (aW (bT O (dS O func103 (wK) ?_))))
               rintro _ _ ⟨rfl, rfl⟩
               refine jJ O (fun h20 => ?_) (fun h20 => ?_)
               ·(try simp only [aA] at h20)
                try (exfalso; first | contradiction | omega)
                all_goals
                 refine bg (bP O (bg (dS O func104 (oq H hT) ?_)))
                 rintro _ w4 ⟨rfl, H4⟩
                 refine bg (Z (dY O O) (jh O O (fC O (dK dB O ?_))))
                 refine ⟨?_, H4⟩; congr 1; rw [dZ, if_neg (by omega), if_neg (by omega)]; simp [*]
               ·(try simp only [aA] at h20)
                try (exfalso; first | contradiction | omega)
                all_goals
                 refine bF (bF (bF (ig O O (fC O (dK dB O ?_)))))
                 refine ⟨?_, H⟩; congr 1; rw [dZ, if_neg (by omega), if_neg (by omega)]; simp [*]
           ·(try simp only [aA] at h18)
            try (exfalso; first | contradiction | omega)
            all_goals
             refine bT O (Z (mX O O) (jJ O (fun h21 => ?_) (fun h21 => ?_)))
             ·(try simp only [aA] at h21)
              try (exfalso; first | contradiction | omega)
              all_goals
               refine bg (bP O (bg (Z (sG O O) (jh O O (fP O (bH O (fun h22 => ?_) (fun h22 => ?_)))))))
               ·(try simp only [aA] at h22)
                try (exfalso; first | contradiction | omega)
                all_goals
                 refine gQ (bH O (fun h23 => ?_) (fun h23 => ?_))
                 ·(try simp only [aA] at h23)
                  try (exfalso; first | contradiction | omega)
                  all_goals
                   refine jP O (aT (aB (dK dB O ?_)))
                   refine ⟨?_, H⟩; congr 1; rw [dZ, if_neg (by omega), if_pos (by omega)]
                 ·(try simp only [aA] at h23)
                  try (exfalso; first | contradiction | omega)
                  all_goals
                   refine dn (aK (aW (bT O (dS O func103 (wK) ?_))))
                   rintro _ _ ⟨rfl, rfl⟩
                   refine jJ O (fun h24 => ?_) (fun h24 => ?_)
                   ·(try simp only [aA] at h24)
                    try (exfalso; first | contradiction | omega)
                    all_goals
                     refine bg (bP O (bg (dS O func104 (oq H hT) ?_)))
                     rintro _ w6 ⟨rfl, H6⟩
                     refine bg (Z (dY O O) (jh O O (fC O (dK dB O ?_))))
                     refine ⟨?_, H6⟩; congr 1; rw [dZ, if_neg (by omega), if_neg (by omega)]; simp [*]
                   ·(try simp only [aA] at h24)
                    try (exfalso; first | contradiction | omega)
                    all_goals
                     refine bF (bF (bF (ig O O (fC O (dK dB O ?_)))))
                     refine ⟨?_, H⟩; congr 1; rw [dZ, if_neg (by omega), if_neg (by omega)]; simp [*]
               ·(try simp only [aA] at h22)
                try (exfalso; first | contradiction | omega)
                all_goals
                 refine aC (bP O (Z (mX O O) (jJ O (fun h25 => ?_) (fun h25 => ?_))))
                 ·(try simp only [aA] at h25)
                  try (exfalso; first | contradiction | omega)
                  all_goals
                   refine bg (bP O (bg (Z (sG O O) (jh O O (fP O (bH O (fun h26 => ?_) (fun h26 => ?_)))))))
                   ·(try simp only [aA] at h26)
                    try (exfalso; first | contradiction | omega)
                    all_goals
                     refine jP O (aT (aB (dK dB O ?_)))
                     refine ⟨?_, H⟩; congr 1; rw [dZ, if_neg (by omega), if_pos (by omega)]
                   ·(try simp only [aA] at h26)
                    try (exfalso; first | contradiction | omega)
                    all_goals
                     refine dn (aK (aW (bT O (dS O func103 (wK) ?_))))
                     rintro _ _ ⟨rfl, rfl⟩
                     refine jJ O (fun h27 => ?_) (fun h27 => ?_)
                     ·(try simp only [aA] at h27)
                      try (exfalso; first | contradiction | omega)
                      all_goals
                       refine bg (bP O (bg (dS O func104 (oq H hT) ?_)))
                       rintro _ w8 ⟨rfl, H8⟩
                       refine bg (Z (dY O O) (jh O O (fC O (dK dB O ?_))))
                       refine ⟨?_, H8⟩; congr 1; rw [dZ, if_neg (by omega), if_neg (by omega)]; simp [*]
                     ·(try simp only [aA] at h27)
                      try (exfalso; first | contradiction | omega)
                      all_goals
                       refine bF (bF (bF (ig O O (fC O (dK dB O ?_)))))
                       refine ⟨?_, H⟩; congr 1; rw [dZ, if_neg (by omega), if_neg (by omega)]; simp [*]
                 ·(try simp only [aA] at h25)
                  try (exfalso; first | contradiction | omega)
                  all_goals
                   refine bF (bF (ig O O (fP O (qH (dn (aK (aW (bT O (dS O func103 (wK) ?_)))))))))
                   rintro _ _ ⟨rfl, rfl⟩
                   refine jJ O (fun h28 => ?_) (fun h28 => ?_)
                   ·(try simp only [aA] at h28)
                    try (exfalso; first | contradiction | omega)
                    all_goals
                     refine bg (bP O (bg (dS O func104 (oq H hT) ?_)))
                     rintro _ w10 ⟨rfl, pW⟩
                     refine bg (Z (dY O O) (jh O O (fC O (dK dB O ?_))))
                     refine ⟨?_, pW⟩; congr 1; rw [dZ, if_neg (by omega), if_neg (by omega)]; simp [*]
                   ·(try simp only [aA] at h28)
                    try (exfalso; first | contradiction | omega)
                    all_goals
                     refine bF (bF (bF (ig O O (fC O (dK dB O ?_)))))
                     refine ⟨?_, H⟩; congr 1; rw [dZ, if_neg (by omega), if_neg (by omega)]; simp [*]
             ·(try simp only [aA] at h21)
              try (exfalso; first | contradiction | omega)
              all_goals
               refine bF (bF (ig O O (fP O (qH (aC (bP O (Z (mX O O) (jJ O (fun h29 => ?_) (fun h29 => ?_)))))))))
               ·(try simp only [aA] at h29)
                try (exfalso; first | contradiction | omega)
                all_goals
                 refine bg (bP O (bg (Z (sG O O) (jh O O (fP O (bH O (fun h30 => ?_) (fun h30 => ?_)))))))
                 ·(try simp only [aA] at h30)
                  try (exfalso; first | contradiction | omega)
                  all_goals
                   refine jP O (aT (aB (dK dB O ?_)))
                   refine ⟨?_, H⟩; congr 1; rw [dZ, if_neg (by omega), if_pos (by omega)]
                 ·(try simp only [aA] at h30)
                  try (exfalso; first | contradiction | omega)
                  all_goals
                   refine dn (aK (aW (bT O (dS O func103 (wK) ?_))))
                   rintro _ _ ⟨rfl, rfl⟩
                   refine jJ O (fun h31 => ?_) (fun h31 => ?_)
                   ·(try simp only [aA] at h31)
                    try (exfalso; first | contradiction | omega)
                    all_goals
                     refine bg (bP O (bg (dS O func104 (oq H hT) ?_)))
                     rintro _ w12 ⟨rfl, wL⟩
                     refine bg (Z (dY O O) (jh O O (fC O (dK dB O ?_))))
                     refine ⟨?_, wL⟩; congr 1; rw [dZ, if_neg (by omega), if_neg (by omega)]; simp [*]
                   ·(try simp only [aA] at h31)
                    try (exfalso; first | contradiction | omega)
                    all_goals
                     refine bF (bF (bF (ig O O (fC O (dK dB O ?_)))))
                     refine ⟨?_, H⟩; congr 1; rw [dZ, if_neg (by omega), if_neg (by omega)]; simp [*]
               ·(try simp only [aA] at h29)
                try (exfalso; first | contradiction | omega)
                all_goals
                 refine bF (bF (ig O O (fP O (qH (dn (aK (aW (bT O (dS O func103 (wK) ?_)))))))))
                 rintro _ _ ⟨rfl, rfl⟩
                 refine jJ O (fun h32 => ?_) (fun h32 => ?_)
                 ·(try simp only [aA] at h32)
                  try (exfalso; first | contradiction | omega)
                  all_goals
                   refine bg (bP O (bg (dS O func104 (oq H hT) ?_)))
                   rintro _ P6 ⟨rfl, Az⟩
                   refine bg (Z (dY O O) (jh O O (fC O (dK dB O ?_))))
                   refine ⟨?_, Az⟩; congr 1; rw [dZ, if_neg (by omega), if_neg (by omega)]; simp [*]
                 ·(try simp only [aA] at h32)
                  try (exfalso; first | contradiction | omega)
                  all_goals
                   refine bF (bF (bF (ig O O (fC O (dK dB O ?_)))))
                   refine ⟨?_, H⟩; congr 1; rw [dZ, if_neg (by omega), if_neg (by omega)]; simp [*]
         ·(try simp only [aA] at h17)
          try (exfalso; first | contradiction | omega)
          all_goals
           refine bF (bF (ig O O (fP O (qH (bT O (Z (mX O O) (jJ O (fun h33 => ?_) (fun h33 => ?_))))))))
           ·(try simp only [aA] at h33)
            try (exfalso; first | contradiction | omega)
            all_goals
             refine bg (bP O (bg (Z (sG O O) (jh O O (fP O (bH O (fun h34 => ?_) (fun h34 => ?_)))))))
             ·(try simp only [aA] at h34)
              try (exfalso; first | contradiction | omega)
              all_goals
               refine gQ (bH O (fun h35 => ?_) (fun h35 => ?_))
               ·(try simp only [aA] at h35)
                try (exfalso; first | contradiction | omega)
                all_goals
                 refine jP O (aT (aB (dK dB O ?_)))
                 refine ⟨?_, H⟩; congr 1; rw [dZ, if_neg (by omega), if_pos (by omega)]
               ·(try simp only [aA] at h35)
                try (exfalso; first | contradiction | omega)
                all_goals
                 refine dn (aK (aW (bT O (dS O func103 (wK) ?_))))
                 rintro _ _ ⟨rfl, rfl⟩
                 refine jJ O (fun h36 => ?_) (fun h36 => ?_)
                 ·(try simp only [aA] at h36)
                  try (exfalso; first | contradiction | omega)
                  all_goals
                   refine bg (bP O (bg (dS O func104 (oq H hT) ?_)))
                   rintro _ w16 ⟨rfl, uY⟩
                   refine bg (Z (dY O O) (jh O O (fC O (dK dB O ?_))))
                   refine ⟨?_, uY⟩; congr 1; rw [dZ, if_neg (by omega), if_neg (by omega)]; simp [*]
                 ·(try simp only [aA] at h36)
                  try (exfalso; first | contradiction | omega)
                  all_goals
                   refine bF (bF (bF (ig O O (fC O (dK dB O ?_)))))
                   refine ⟨?_, H⟩; congr 1; rw [dZ, if_neg (by omega), if_neg (by omega)]; simp [*]
             ·(try simp only [aA] at h34)
              try (exfalso; first | contradiction | omega)
              all_goals
               refine aC (bP O (Z (mX O O) (jJ O (fun h37 => ?_) (fun h37 => ?_))))
               ·(try simp only [aA] at h37)
                try (exfalso; first | contradiction | omega)
                all_goals
                 refine bg (bP O (bg (Z (sG O O) (jh O O (fP O (bH O (fun h38 => ?_) (fun h38 => ?_)))))))
                 ·(try simp only [aA] at h38)
                  try (exfalso; first | contradiction | omega)
                  all_goals
                   refine jP O (aT (aB (dK dB O ?_)))
                   refine ⟨?_, H⟩; congr 1; rw [dZ, if_neg (by omega), if_pos (by omega)]
                 ·(try simp only [aA] at h38)
                  try (exfalso; first | contradiction | omega)
                  all_goals
                   refine dn (aK (aW (bT O (dS O func103 (wK) ?_))))
                   rintro _ _ ⟨rfl, rfl⟩
                   refine jJ O (fun h39 => ?_) (fun h39 => ?_)
                   ·(try simp only [aA] at h39)
                    try (exfalso; first | contradiction | omega)
                    all_goals
                     refine bg (bP O (bg (dS O func104 (oq H hT) ?_)))
                     rintro _ Ym ⟨rfl, Eb⟩
                     refine bg (Z (dY O O) (jh O O (fC O (dK dB O ?_))))
                     refine ⟨?_, Eb⟩; congr 1; rw [dZ, if_neg (by omega), if_neg (by omega)]; simp [*]
                   ·(try simp only [aA] at h39)
                    try (exfalso; first | contradiction | omega)
                    all_goals
                     refine bF (bF (bF (ig O O (fC O (dK dB O ?_)))))
                     refine ⟨?_, H⟩; congr 1; rw [dZ, if_neg (by omega), if_neg (by omega)]; simp [*]
               ·(try simp only [aA] at h37)
                try (exfalso; first | contradiction | omega)
                all_goals
                 refine bF (bF (ig O O (fP O (qH (dn (aK (aW (bT O (dS O func103 (wK) ?_)))))))))
                 rintro _ _ ⟨rfl, rfl⟩
                 refine jJ O (fun h40 => ?_) (fun h40 => ?_)
                 ·(try simp only [aA] at h40)
                  try (exfalso; first | contradiction | omega)
                  all_goals
                   refine bg (bP O (bg (dS O func104 (oq H hT) ?_)))
                   rintro _ w20 ⟨rfl, Di⟩
                   refine bg (Z (dY O O) (jh O O (fC O (dK dB O ?_))))
                   refine ⟨?_, Di⟩; congr 1; rw [dZ, if_neg (by omega), if_neg (by omega)]; simp [*]
                 ·(try simp only [aA] at h40)
                  try (exfalso; first | contradiction | omega)
                  all_goals
                   refine bF (bF (bF (ig O O (fC O (dK dB O ?_)))))
                   refine ⟨?_, H⟩; congr 1; rw [dZ, if_neg (by omega), if_neg (by omega)]; simp [*]
           ·(try simp only [aA] at h33)
            try (exfalso; first | contradiction | omega)
            all_goals
             refine bF (bF (ig O O (fP O (qH (aC (bP O (Z (mX O O) (jJ O (fun h41 => ?_) (fun h41 => ?_)))))))))
             ·(try simp only [aA] at h41)
              try (exfalso; first | contradiction | omega)
              all_goals
               refine bg (bP O (bg (Z (sG O O) (jh O O (fP O (bH O (fun h42 => ?_) (fun h42 => ?_)))))))
               ·(try simp only [aA] at h42)
                try (exfalso; first | contradiction | omega)
                all_goals
                 refine jP O (aT (aB (dK dB O ?_)))
                 refine ⟨?_, H⟩; congr 1; rw [dZ, if_neg (by omega), if_pos (by omega)]
               ·(try simp only [aA] at h42)
                try (exfalso; first | contradiction | omega)
                all_goals
                 refine dn (aK (aW (bT O (dS O func103 (wK) ?_))))
                 rintro _ _ ⟨rfl, rfl⟩
                 refine jJ O (fun h43 => ?_) (fun h43 => ?_)
                 ·(try simp only [aA] at h43)
                  try (exfalso; first | contradiction | omega)
                  all_goals
                   refine bg (bP O (bg (dS O func104 (oq H hT) ?_)))
                   rintro _ w22 ⟨rfl, Gg⟩
                   refine bg (Z (dY O O) (jh O O (fC O (dK dB O ?_))))
                   refine ⟨?_, Gg⟩; congr 1; rw [dZ, if_neg (by omega), if_neg (by omega)]; simp [*]
                 ·(try simp only [aA] at h43)
                  try (exfalso; first | contradiction | omega)
                  all_goals
                   refine bF (bF (bF (ig O O (fC O (dK dB O ?_)))))
                   refine ⟨?_, H⟩; congr 1; rw [dZ, if_neg (by omega), if_neg (by omega)]; simp [*]
             ·(try simp only [aA] at h41)
              try (exfalso; first | contradiction | omega)
              all_goals
               refine bF (bF (ig O O (fP O (qH (dn (aK (aW (bT O (dS O func103 (wK) ?_)))))))))
               rintro _ _ ⟨rfl, rfl⟩
               refine jJ O (fun h44 => ?_) (fun h44 => ?_)
               ·(try simp only [aA] at h44)
                try (exfalso; first | contradiction | omega)
                all_goals
                 refine bg (bP O (bg (dS O func104 (oq H hT) ?_)))
                 rintro _ w24 ⟨rfl, JY⟩
                 refine bg (Z (dY O O) (jh O O (fC O (dK dB O ?_))))
                 refine ⟨?_, JY⟩; congr 1; rw [dZ, if_neg (by omega), if_neg (by omega)]; simp [*]
               ·(try simp only [aA] at h44)
                try (exfalso; first | contradiction | omega)
                all_goals
                 refine bF (bF (bF (ig O O (fC O (dK dB O ?_)))))
                 refine ⟨?_, H⟩; congr 1; rw [dZ, if_neg (by omega), if_neg (by omega)]; simp [*]
end
end Go.Proofs.YtpdeedplgmbopaaGreatDoor
end
section
set_option maxRecDepth 100000
namespace Go.Proofs.YtpdeedplgmbopaaGreatDoor
open Go.ChangeShapes Go.WideShapes Go.ChangeAt Go.RowKit
def Vl (x : Int × Int) : DataW Unit := .agg [.lit (.int .i32 x.1), .lit (.int .i32 x.2)]
section
variable {enc : TypeId × Value → Unit} {w : World} {base : Nat} {spare : Nat → Bool} {held : Bool} {fuel : Nat} {ps : List MemPlace}
theorem aaJ {cs : List Value} {x : Int × Int} (h : DataW.trod enc Tryz.prog w base spare held fuel 213 cs = some (Vl x, ps)) : cs = [.int .i32 x.1, .int .i32 x.2] := by
  obtain ⟨xs, n, -, hx, hl, hl2, hf⟩ := DataW.trod_struct Tryz.underlying213 h
  rw [show Tryz.prog.cellsOf 213 = 2 from by kernel_rfl] at hl
  simp only [Prod.mk.injEq, Vl, DataW.agg.injEq] at hx
  match xs, hl2, hx, cs, hl with
  | [y0, y1], _, hx, [c0, c1], _ =>
    have h0 : DataW.trod enc Tryz.prog w base spare held n 21 (([c0, c1].drop 0).take (Tryz.prog.cellsOf 21)) = some y0 := hf 0 _ rfl
    have h1 : DataW.trod enc Tryz.prog w base spare held n 21 (([c0, c1].drop 1).take (Tryz.prog.cellsOf 21)) = some y1 := hf 1 _ rfl
    simp only [List.map_cons, List.map_nil, List.cons.injEq] at hx
    obtain ⟨n0, e0, d0, -⟩ := DataW.trod_int Tryz.underlying21 h0
    obtain ⟨n1, e1, d1, -⟩ := DataW.trod_int Tryz.underlying21 h1
    rw [show Tryz.prog.cellsOf 21 = 1 from by kernel_rfl] at e0 e1
    simp at e0 e1
    rw [d0, d1] at hx
    simp at hx
    subst e0; subst e1
    rw [hx.1.1, hx.1.2]
theorem Yn {t n : Nat} {cs : List Value} {T : List (Int × Int)} (ht : Tryz.prog.underlying t = some (.array n 213)) (hc : Tryz.prog.cellsOf t = n * 2) (h : DataW.trod enc Tryz.prog w base spare held fuel t cs = some (.agg (T.map Vl), ps)) : cs = vI T := by
  obtain ⟨xs, m, -, hx, hl, hl2, hel⟩ := DataW.trod_array ht h
  simp only [Prod.mk.injEq, DataW.agg.injEq] at hx
  rw [hc] at hl
  have hTn : T.length = n := by have := congrArg List.length hx.1; simpa [hl2] using this
  have hv := OC T
  apply List.ext_getElem?
  intro j
  by_cases hj : j < n * 2
  · have hk : j / 2 < n := by omega
    have h1 := hel (j / 2) hk
    rw [show Tryz.prog.cellsOf 213 = 2 from by kernel_rfl, List.getElem?_eq_getElem (by omega)] at h1
    have h2 : xs[j / 2].1 = Vl (T.getD (j / 2) (0, 0)) := by
      have := congrArg (fun l => l[j / 2]?) hx.1
      simp [List.getElem?_eq_getElem (show j / 2 < T.length by omega), List.getElem?_eq_getElem (show j / 2 < xs.length by omega)] at this
      rw [List.getD_eq_getElem?_getD, List.getElem?_eq_getElem (show j / 2 < T.length by omega), Option.getD_some, this]
    have h3 := aaJ (x := T.getD (j / 2) (0, 0)) (ps := xs[j / 2].2) (by rw [h1, ← h2])
    obtain ⟨e0, e1⟩ := JW T (j / 2) (by omega)
    have hq : (vI T)[j]? = some ((vI T).getD j undef) := by rw [List.getD_eq_getElem?_getD, List.getElem?_eq_getElem (by omega)]; rfl
    rw [hq]
    rcases (show j = j / 2 * 2 ∨ j = j / 2 * 2 + 1 by omega) with hj2 | hj2
    · have := congrArg (fun l => l[0]?) h3
      simp [List.getElem?_drop] at this
      rw [show j / 2 * 2 = j from by omega] at this e0
      rw [this, e0]; simp [List.getD_eq_getElem?_getD]
    · have := congrArg (fun l => l[1]?) h3
      simp [List.getElem?_take, List.getElem?_drop] at this
      rw [show j / 2 * 2 + 1 = j from by omega] at this e1
      rw [this, e1]; simp [List.getD_eq_getElem?_getD]
  · rw [List.getElem?_eq_none (by omega), List.getElem?_eq_none (by omega)]
end
end Go.Proofs.YtpdeedplgmbopaaGreatDoor
end
section
namespace Go.Proofs.YtpdeedplgmbopaaGreatDoor
open Go.ChangeShapes Go.WideShapes Go.ChangeAt Go.RowKit
theorem adU : Tryz.prog.globalNamed "lanyard/ucell.none" = some 0 := by kernel_rfl
theorem adV : Tryz.prog.globalNamed "lanyard/ucell.wide" = some 1 := by kernel_rfl
theorem adW : (Tryz.prog.globals[0]?).map (·.type) = some 214 := by kernel_rfl
theorem adX : (Tryz.prog.globals[1]?).map (·.type) = some 215 := by kernel_rfl
abbrev Vm : List (String × DataW Unit) := [("lanyard/ucell.none", Rows.laid_lanyard_ucell_none), ("lanyard/ucell.wide", Rows.laid_lanyard_ucell_wide)]
theorem aaK {W : World} (h : laidMetH Tryz.prog Vm W) : Ae W := by
  rw [MakeChecks.laidMetH_plain _ _ _ (by kernel_rfl)] at h
  obtain ⟨ps, ⟨g0, t0, cs0, f0, p0, q0, hg0, ht0, hv0, hd0, ⟨g1, t1, cs1, f1, p1, q1, hg1, ht1, hv1, hd1, _, _⟩, _⟩, _, _⟩ := h
  obtain rfl := Option.some.inj (adU.symm.trans hg0)
  obtain rfl := Option.some.inj (adV.symm.trans hg1)
  obtain rfl := Option.some.inj (adW.symm.trans ht0)
  obtain rfl := Option.some.inj (adX.symm.trans ht1)
  have e0 := Yn (T := Vj) Tryz.underlying214 (by kernel_rfl) hd0
  have e1 := Yn (T := Vk) Tryz.underlying215 (by kernel_rfl) hd1
  refine ⟨⟨by decide, _, 15, rfl, by decide, by decide, fun _ => ⟨0, 0, rfl, fun j hj => ?_⟩⟩, ⟨by decide, _, 14, rfl, by decide, by decide, fun _ => ⟨1, 0, rfl, fun j hj => ?_⟩⟩⟩
  · rw [Nat.zero_add, World.var?_cell hg0 hv0 j, ← Array.getElem?_toList, e0, List.getD_eq_getElem?_getD, List.getElem?_eq_getElem (by rw [OC]; exact hj)]; rfl
  · rw [Nat.zero_add, World.var?_cell hg1 hv1 j, ← Array.getElem?_toList, e1, List.getD_eq_getElem?_getD, List.getElem?_eq_getElem (by rw [OC]; exact hj)]; rfl
theorem Yo (os : Os) (args : Array Value) : laidMetH Tryz.prog Vm ((World.doorLaid Tryz.prog 400 os).forCall (fun _ _ => 0) ⟨#[], args, []⟩).memory :=
  laidMetH_of_parts3 (fuel := 8) (laidMet_of_run' 8 (by kernel_rfl) (by kernel_rfl)) (by kernel_rfl) (by kernel_rfl)
end Go.Proofs.YtpdeedplgmbopaaGreatDoor
end
section
namespace Go.Proofs.YtpdeedplgmbopaaGreatDoor
open Go.RowKit
open _root_.Go.Proofs.Tryz
theorem OD {l m : List Int} {i : Nat} (h1 : i < l.length) (h2 : i < m.length) (h : l.take i = m.take i) (e : l.getD i 0 = m.getD i 0) : l.take (i + 1) = m.take (i + 1) := by
  rw [List.take_succ_eq_append_getElem h1, List.take_succ_eq_append_getElem h2, h]
  simp [List.getD_eq_getElem?_getD, h1, h2] at e
  rw [e]
theorem Ec (w : World) (v1 v2 : Value) (l1 l2 : List Int) (h1 : gJ w .i32 v1 l1) (h2 : gJ w .i32 v2 l2) :
  iI prog 27 #[v1, v2] w fun v w' => v = .bool (l1 == l2) ∧ zH w w' := by
 obtain ⟨a1, c1, rfl, hc1, hm1, hr1⟩ := h1.open
 obtain ⟨a2, c2, rfl, hc2, hm2, hr2⟩ := h2.open
 clear h1 h2
 refine oN func27 ntmps27 ?_
 refine jR O (aO (bT O (Z (jc aj O) (bP O (Z (jc aj O) (Z (iM O O) (jL O (fun h1 => ?_) (fun h1 => ?_))))))))
 ·(try simp only [aA] at h1)
  refine jP O (aB (dK results27 O ?_))
  exact ⟨by rw [show (l1 == l2) = false from beq_eq_false_iff_ne.2 (by rintro rfl; exact h1 rfl)], zH.refl _⟩
 ·(try simp only [aA] at h1)
  refine gQ (aO (bT O (Z (jc aj O) (bP O (iL (aY ?_))))))
  refine gV [(0, _), (1, _), (12, _)] (fun (k : Nat) => [(13, .int .i64 (k : Int))]) (fun (k : Nat) W => k ≤ l1.length ∧ l1.length = l2.length ∧ l1.take k = l2.take k ∧ zH w W) (fun (k : Nat) => l1.length - k) (0) vZ mG ⟨by omega, by omega, by simp, zH.refl _⟩ ?_
  rintro k w1 ⟨hk, hl, ht, hD⟩
  dsimp only [List.cons_append, List.nil_append]
  refine iV (Z (gB O O) (qR (bH O (fun h2 => ?_) (fun h2 => ?_))))
  ·(try simp only [aA] at h2)
   refine gQ (aO (aY (bT O (vY O ?_))))
   obtain ⟨b1, o1, rfl, hq1⟩ := hr1 (by omega)
   obtain ⟨b2, o2, rfl, hq2⟩ := hr2 (by omega)
   have hc1 := hq1 k (by omega)
   have hc2 := hq2 k (by omega)
   refine qG (n := 9) [0, 1, 2, 3, 4, 5, 6, 7, 8] (fun W => W.heap = w1.heap) (by kernel_rfl) (by kernel_rfl) O ?_
   have hS0 : (fun W => W.heap = w1.heap) (w1.drew) := rfl
   refine iU 0 O hS0 O (iU 1 O hS0 O (jB 2 O hS0 (fun _ => dP aj bV O O (by omega)) ?_))
   refine jQ 3 O hS0 (fun W hW => fG (dA bG O) O (by rw [Hr (hW.trans hD.heap)]; simpa using hc1)) ?_
   refine iU 4 O hS0 O (iU 5 O hS0 O (jB 6 O hS0 (fun _ => dP aj bV O O (by omega)) ?_))
   refine jQ 7 O hS0 (fun W hW => fG (dA bG O) O (by rw [Hr (hW.trans hD.heap)]; simpa using hc2)) ?_
   refine jB 8 O hS0 (fun _ => iM O O) (ru (aW (bH O (fun h3 => ?_) (fun h3 => ?_))))
   ·(try simp only [aA] at h3)
    refine jP O (aT (aB (aB (aT (aB (dK results27 O ?_))))))
    exact ⟨by rw [show (l1 == l2) = false from beq_eq_false_iff_ne.2 (by rintro rfl; exact h3 rfl)], hD.drew⟩
   ·(try simp only [aA] at h3)
    refine dn (aK (aW (aC (Z (fO O O (by omega)) (bP O (bY ?_))))))
    refine dU (k + 1) ?_ ?_ ?_ ?_
    ·exact mG
    ·exact vZ
    ·(try dsimp only)
     first | done | exact ⟨by omega, by omega, OD (by omega) (by omega) ht (by simpa using h3), hD.drew⟩
    ·(try dsimp only); omega
  ·(try simp only [aA] at h2)
   refine dO (aN (aN (bn (aW (jP O (dK results27 O ?_))))))
   exact ⟨by rw [show (l1 == l2) = true from beq_iff_eq.2 (by rw [List.take_of_length_le (by omega), List.take_of_length_le (by omega)] at ht; exact ht)], hD⟩
theorem Dj : (prog.info? 21).map (fun i => (i.zero, i.size, i.bytes)) = some (some (.int .i32 0), 1, 4) := by kernel_rfl
theorem oz {w0 w : World} {F : HP} {v : Value} {l : List Int} (H : V w0 w F) (hr : jE w0 F .i32 v l) (hb : l.length * 4 ≤ 140737488355328) :
    iI prog 71 #[v] w fun v' w' => V w0 w' (jW 21 .i32 v' l • F) := by
  obtain ⟨a, c, rfl, h1, h2, h3⟩ := (hr w H).open
  refine jr func71 ntmps71 ?_
  refine jR O (aO (bT O (Z (CX aj O O) ?_)))
  refine jL O (fun h1 => ?_) (fun h1 => ?_)
  · (try simp only [aA] at h1)
    refine jP O (aB (dK results71 O ?_))
    obtain rfl : a = none := by simpa using h1
    obtain rfl : l = [] := by
      cases l with
      | nil => rfl
      | cons x l => obtain ⟨b, o, e, _⟩ := h3 (by simp); cases e
    exact H.jw none
  · (try simp only [aA] at h1)
    refine gQ (iV (jV (kZ (vs := []) H aj bV oJ O O O (by decide) (by simp)) ?_))
    rintro _ w1 H1
    refine bP O (jV (nG (l := []) H1 (hr.under _ H1) aj Dj O O (by simp; omega) (by simpa using hb)) ?_)
    rintro _ w2 H2
    refine fC O (dK results71 O ?_)
    exact H2
theorem Yp {w0 w : World} {F : HP} {n : Int} (H : V w0 w F) (h0 : 0 ≤ n) (hb : n ≤ 70368744177664) :
  iI prog 195 #[.slice none 0 0, .int .i64 n] w fun v' w' => V w0 w' (jW 21 .i32 v' [] • F) := by
 refine oN func195 ntmps195 ?_
 refine jR O (aO (bT O (Z (gB O O) (iL (TB O (fun h1 => ?_))))))
 (try simp only [aA] at h1)
 refine gQ (aO (bT O (bP O (Z (abN aj O) (bP O (Z (jc aj O) (Z (iZ O O (by omega)) (Z (iZ O O (by omega)) (fP O (bT O (Z (dY O O) (jL O (fun h2 => ?_) (fun h2 => ?_)))))))))))))
 ·(try simp only [aA] at h2)
  refine aC (jO O O (Z (abN aj O) (Z (wV aj bV O O O (by omega)) ?_)))
  refine bP O (jV (JU H aj aH Dj O O (by omega) (by omega) (by omega)) ?_)
  rintro _ w1 ⟨g, c, cur, rfl, hc1, hc2, hc3, H1⟩
  refine bP O (Z (jc aj O) (Z (wV aj bV O O O (by omega)) ?_))
  refine fP O (bT O (fC O (dK results195 O ?_)))
  exact H1.Ad (o := 0) (by simp) (NC 1 0 g 0 _ c) (by simp) hc2 (by simpa using hc3) (by simp)
 ·(try simp only [aA] at h2)
  refine gQ (bT O (fC O (dK results195 O ?_)))
  exact H.jw none
theorem TG {w0 w : World} {F : HP} {v : Value} {vs : List Value} {ls : List (List Int)} (H : V w0 w F) (hv : Wy w0 F 1 v ls.length vs) (hls : ∀ k, k < ls.length → jE w0 F .i32 (vs.getD k undef) (ls.getD k [])) (hb : ls.flatten.length * 4 ≤ 140737488355328) :
  iI prog 172 #[v] w fun v' w' => V w0 w' (jW 21 .i32 v' ls.flatten • F) := by
 obtain ⟨_, a, c, rfl, hc1, hc2, _⟩ := hv w H
 refine jr func172 ntmps172 ?_
 refine jR O (jR O (aO (bT O (Z (jc iC O) (bP O (iL (aY ?_)))))))
 refine gV [(0, _), (9, _), (10, _)] (fun (k : Nat) => [(3, .int .i64 ((ls.take k).flatten.length : Int)), (11, .int .i64 (k : Int))]) (fun (k : Nat) W => k ≤ ls.length ∧ V w0 W F) (fun (k : Nat) => ls.length - k) (0) vZ (Sub.jG O (by simp) (Sub.jG O (O) (Sub.nil _))) ⟨by omega, H⟩ ?_
 rintro k w1 ⟨hk, HL⟩
 dsimp only [List.cons_append, List.nil_append]
 refine iV (Z (gB O O) (qR (bH O (fun h1 => ?_) (fun h1 => ?_))))
 ·(try simp only [aA] at h1)
  refine gQ (aO (aY (aO ?_)))
  have hk1 : k < ls.length := by omega
  obtain ⟨b, o, rfl, hc⟩ := hv.cell HL (j := k) (by omega)
  obtain ⟨ak, ck, ek, hk2, hk3, _⟩ := (hls k hk1 _ HL).open
  rw [ek] at hc
  have hfl := Ov ls (k + 1)
  rw [D9 ls hk1, List.length_append] at hfl
  refine aC (Z (dP iC dh O O (by omega)) ?_)
  refine Z (fG (dA aj O) O (by rw [show ((k : Int).toNat * 1) = k from by omega]; exact hc)) ?_
  refine fP O (bT O (bP O (Z (jc aj O) (Z (fO O O (by omega)) (fP O (bT O (Z (gB O O) (iL (TB O (fun h2 => ?_))))))))))
  (try simp only [aA] at h2)
  refine dn (aK (aW (aC (Z (fO O O (by omega)) (bP O (bY ?_))))))
  refine dU (k + 1) ?_ ?_ ?_ ?_
  ·exact (Sub.jG O (by rw [D9 ls hk1, List.length_append, Int.natCast_add]) mG)
  ·exact vZ
  ·(try dsimp only)
   first | done | exact ⟨by omega, HL⟩
  ·(try dsimp only); omega
 ·(try simp only [aA] at h1)
  refine dO (aN (aN (bn (aW (bT O (dS O func195 (Yp HL (by omega) (by have := Ov ls k; omega)) ?_))))))
  rintro vg w2 H2
  refine vY O (bT O (Z (jc iC O) (bP O (iL (aY ?_)))))
  refine gV [(25, _), (26, _)] (fun (⟨k, u⟩ : Nat × Value) => [(6, u), (27, .int .i64 (k : Int))]) (fun (⟨k, u⟩ : Nat × Value) W => k ≤ ls.length ∧ V w0 W (jW 21 .i32 u (ls.take k).flatten • F)) (fun (⟨k, u⟩ : Nat × Value) => ls.length - k) ((0, vg)) ug ug ⟨by omega, H2⟩ ?_
  rintro ⟨k, u⟩ w3 ⟨hk, HM⟩
  dsimp only [List.cons_append, List.nil_append]
  refine iV (Z (gB O O) (qR (bH O (fun h3 => ?_) (fun h3 => ?_))))
  ·(try simp only [aA] at h3)
   refine gQ (aO (aY (aO ?_)))
   have hk1 : k < ls.length := by omega
   obtain ⟨b, o, rfl, hc⟩ := hv.cell HM.right (j := k) (by omega)
   have hrk := hls k hk1
   have hfl := Ov ls (k + 1)
   rw [D9 ls hk1, List.length_append] at hfl
   refine aC (Z (dP iC dh O O (by omega)) ?_)
   refine Z (fG (dA aj O) O (by rw [show ((k : Int).toNat * 1) = k from by omega]; exact hc)) ?_
   refine fP O (aC (jO O O (jV (nG HM (hrk _ HM.right) aj Dj O O (by omega) (by omega)) ?_)))
   rintro va w4 H4
   refine iJ O (bY (aK (aW (aC (Z (fO O O (by omega)) (bP O (bY ?_)))))))
   refine dU ((k + 1, va)) ?_ ?_ ?_ ?_
   ·exact ug
   ·exact ug
   ·(try dsimp only)
    first | done | exact ⟨by omega, by rw [D9 ls hk1]; exact H4⟩
   ·(try dsimp only); omega
  ·(try simp only [aA] at h3)
   refine dO (aN (aN (bn (aW (bT O (fC O (dK results172 O ?_)))))))
   rw [List.take_of_length_le (by omega)] at HM; exact HM
theorem Dk {w0 w : World} {F : HP} {b : Nat} {T : TypeId} {u1 u2 : Value} {l1 l2 : List Int} (H : V w0 w (dW b (.cells #[u1, u2] T (0, 0)) • F)) (h1 : jE w0 (dW b (.cells #[u1, u2] T (0, 0)) • F) .i32 u1 l1) (h2 : jE w0 (dW b (.cells #[u1, u2] T (0, 0)) • F) .i32 u2 l2)
    (hb : (l1.length + l2.length) * 4 ≤ 140737488355328) :
    iI prog 172 #[.slice (some ⟨b, 0, none⟩) 2 2] w fun v' w' => V w0 w' (jW 21 .i32 v' (l1 ++ l2) • dW b (.cells #[u1, u2] T (0, 0)) • F) := by
  have := TG (ls := [l1, l2]) (vs := [u1, u2]) (v := .slice (some ⟨b, 0, none⟩) 2 2) H (fun W HW => ⟨rfl, _, 2, rfl, by simp, by decide, fun _ => ⟨b, 0, rfl, fun j hj => ?_⟩⟩) (fun k hk => ?_) (by simpa using hb)
  · simpa using this
  · refine kC HW.get.2 ?_
    simp at hj
    match j, hj with
    | 0, _ => rfl
    | 1, _ => rfl
  · simp at hk
    match k, hk with
    | 0, _ => exact h1
    | 1, _ => exact h2
end Go.Proofs.YtpdeedplgmbopaaGreatDoor
end
