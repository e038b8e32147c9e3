import Derived.Test.YtpdeedplgmbopaaGreatDoorZ4
import Derived.Test.YtpdeedplgmbopaaGreatDoorProg
import Derived.Test.YtpdeedplgmbopaaGreatDoorRows
import Derived.Test.YtpdeedplgmbopaaGreatDoorTie
import Derived.Test.YtpdeedplgmbopaaGreatDoorZ3
set_option linter.unusedSimpArgs false
set_option linter.unusedVariables false
/- Texts of mine, joined, their names in short: Tab LaidT Laid Equal Slices. -/
section
namespace Go.Proofs.YtpdeedplgmbopaaGreatDoor
open Go.RowKit
open _root_.Go.Proofs.Tryz
def mV (r : Int) : Bool := decide (0 ≤ r ∧ r < 55296 ∨ 57343 < r ∧ r ≤ 1114111)
def lF (r : Int) : Bool := decide (0 ≤ r ∧ r < 32 ∨ 127 ≤ r ∧ r ≤ 159)
def within (r : Int) (T : List (Int × Int)) : Bool := T.any fun x => decide (x.1 ≤ r ∧ r ≤ x.2)
def Vw : List (Int × Int) := [(768, 879), (1155, 1161), (1425, 1469), (1552, 1562), (1611, 1631), (3633, 3633), (3636, 3642), (3655, 3662), (6832, 6911), (7616, 7679), (8203, 8207), (8400, 8447), (12441, 12442), (65024, 65039), (65056, 65071)]
def Vx : List (Int × Int) := [(4352, 4447), (11904, 12350), (12353, 13311), (13312, 19903), (19968, 40959), (40960, 42191), (44032, 55203), (63744, 64255), (65072, 65135), (65280, 65376), (65504, 65510), (127744, 128591), (129280, 129535), (131072, 262141)]
def Dt (r : Int) : Int := if !mV r || lF r || within r Vw then 0 else if within r Vx then 2 else 1
def eG (r : Int) : Bool :=
  if r < 192 then decide (48 ≤ r ∧ r ≤ 57 ∨ 65 ≤ r ∧ r ≤ 90 ∨ 97 ≤ r ∧ r ≤ 122)
  else if r = 215 ∨ r = 247 ∨ r = 65533 ∨ 8192 ≤ r ∧ r ≤ 8303 ∨ 12288 ≤ r ∧ r ≤ 12351 ∨ 65280 ≤ r ∧ r ≤ 65295 then false
  else mV r && decide (0 < Dt r)
theorem V.cell {w0 w : World} {F : HP} (H : V w0 w F) {a : Addr} {v : Value} (h : w0.cell? a = some v) : w.cell? a = some v := (H.base.cell (World.block_lt_of_cell? _ _ h)).trans h
theorem WR {w : World} {b o : Nat} {u v : Value} (h : w.cell? ⟨b, o, none⟩ = some u) (k : w.cell? ⟨b, o + 1, none⟩ = some v) : ∀ (j : Nat) x, ([u, v] : List Value)[j]? = some x → w.cell? ⟨b, o + j, none⟩ = some x := by
  intro j x hj
  match j, hj with
  | 0, hj => cases hj; exact h
  | 1, hj => cases hj; exact k
  | j + 2, hj => simp at hj
def vM (T : List (Int × Int)) : List Value := T.flatMap fun x => [.int .i32 x.1, .int .i32 x.2]
structure Aq (w : World) : Prop where
  ad9 : Rd w 2 (.slice (some ⟨0, 0, none⟩) 15 15) 15 (vM Vw)
  aea : Rd w 2 (.slice (some ⟨1, 0, none⟩) 14 14) 14 (vM Vx)
section
variable {w0 w : World} {F : HP} {r : Int}
theorem WS : iE prog 145 #[.int .i32 r] w fun v w' => v = .bool (mV r) ∧ w = w' := by
 refine iZ func145 ntmps145 ?_
 refine jQ O (aN (aY (bQ O (Z (sS O O) (jG O (fun h1 => ?_) (fun h1 => ?_))))))
 ·(try simp only [aA] at h1)
  try (exfalso; first | contradiction | omega)
  all_goals
   refine bg (bT O (bg (Z (fZ O O) (iU O O (fG O (bD O (fun h2 => ?_) (fun h2 => ?_)))))))
   ·(try simp only [aA] at h2)
    try (exfalso; first | contradiction | omega)
    all_goals
     refine jM O (aT (aB (dL rP O ?_)))
     refine ⟨?_, O⟩; congr 1; first | (symm; rw [mV, decide_eq_true_eq]; omega) | (symm; rw [mV, decide_eq_false_iff_not]; omega) | (rw [mV, decide_eq_decide]; omega)
   ·(try simp only [aA] at h2)
    try (exfalso; first | contradiction | omega)
    all_goals
     refine bQ O (Z (fZ O O) (jG O (fun h3 => ?_) (fun h3 => ?_)))
     ·(try simp only [aA] at h3)
      try (exfalso; first | contradiction | omega)
      all_goals
       refine bg (bT O (bg (Z (sS O O) (iU O O (fG O (bD O (fun h4 => ?_) (fun h4 => ?_)))))))
       ·(try simp only [aA] at h4)
        try (exfalso; first | contradiction | omega)
        all_goals
         refine jM O (aT (aB (dL rP O ?_)))
         refine ⟨?_, O⟩; congr 1; first | (symm; rw [mV, decide_eq_true_eq]; omega) | (symm; rw [mV, decide_eq_false_iff_not]; omega) | (rw [mV, decide_eq_decide]; omega)
       ·(try simp only [aA] at h4)
        try (exfalso; first | contradiction | omega)
        all_goals
         refine cZ (aK (aX (jM O (dL rP O ?_))))
         refine ⟨?_, O⟩; congr 1; first | (symm; rw [mV, decide_eq_true_eq]; omega) | (symm; rw [mV, decide_eq_false_iff_not]; omega) | (rw [mV, decide_eq_decide]; omega)
     ·(try simp only [aA] at h3)
      try (exfalso; first | contradiction | omega)
      all_goals
       refine bF (bF (iH O O (fG O (qo (cZ (aK (aX (jM O (dL rP O ?_)))))))))
       refine ⟨?_, O⟩; congr 1; first | (symm; rw [mV, decide_eq_true_eq]; omega) | (symm; rw [mV, decide_eq_false_iff_not]; omega) | (rw [mV, decide_eq_decide]; omega)
 ·(try simp only [aA] at h1)
  try (exfalso; first | contradiction | omega)
  all_goals
   refine bF (bF (iH O O (fG O (qo (bQ O (Z (fZ O O) (jG O (fun h5 => ?_) (fun h5 => ?_))))))))
   ·(try simp only [aA] at h5)
    try (exfalso; first | contradiction | omega)
    all_goals
     refine bg (bT O (bg (Z (sS O O) (iU O O (fG O (bD O (fun h6 => ?_) (fun h6 => ?_)))))))
     ·(try simp only [aA] at h6)
      try (exfalso; first | contradiction | omega)
      all_goals
       refine jM O (aT (aB (dL rP O ?_)))
       refine ⟨?_, O⟩; congr 1; first | (symm; rw [mV, decide_eq_true_eq]; omega) | (symm; rw [mV, decide_eq_false_iff_not]; omega) | (rw [mV, decide_eq_decide]; omega)
     ·(try simp only [aA] at h6)
      try (exfalso; first | contradiction | omega)
      all_goals
       refine cZ (aK (aX (jM O (dL rP O ?_))))
       refine ⟨?_, O⟩; congr 1; first | (symm; rw [mV, decide_eq_true_eq]; omega) | (symm; rw [mV, decide_eq_false_iff_not]; omega) | (rw [mV, decide_eq_decide]; omega)
   ·(try simp only [aA] at h5)
    try (exfalso; first | contradiction | omega)
    all_goals
     refine bF (bF (iH O O (fG O (qo (cZ (aK (aX (jM O (dL rP O ?_)))))))))
     refine ⟨?_, O⟩; congr 1; first | (symm; rw [mV, decide_eq_true_eq]; omega) | (symm; rw [mV, decide_eq_false_iff_not]; omega) | (rw [mV, decide_eq_decide]; omega)
theorem wI : iE prog 103 #[.int .i32 r] w fun v w' => v = .bool (mV r) ∧ w = w' := by
  refine iZ func103 ntmps103 ?_
  refine jQ O (bQ O (dS O func145 (WS) ?_))
  rintro _ _ ⟨rfl, rfl⟩
  refine fB O (dL results103 O ?_)
  exact ⟨O, O⟩
theorem Qx : iE prog 146 #[.int .i32 r] w fun v w' => v = .bool (lF r) ∧ w = w' := by
  refine iZ func146 ntmps146 ?_
  refine jQ O (bQ O (Z (lV O O) (jG O (fun h1 => ?_) (fun h1 => ?_))))
  · (try simp only [aA] at h1)
    try (exfalso; first | contradiction | omega)
    all_goals
      refine bg (bT O (bg (Z (fZ O O) (iU O O (jG O (fun h2 => ?_) (fun h2 => ?_))))))
      · (try simp only [aA] at h2)
        try (exfalso; first | contradiction | omega)
        all_goals
          refine bF (bF (bF (ng (ng (bF (iU O O (fB O (dL results146 O ?_))))))))
          refine ⟨?_, O⟩; congr 1; first | (symm; rw [lF, decide_eq_true_eq]; omega) | (symm; rw [lF, decide_eq_false_iff_not]; omega) | (rw [lF, decide_eq_decide]; omega)
      · (try simp only [aA] at h2)
        try (exfalso; first | contradiction | omega)
        all_goals
          refine bg (bT O (bg (Z (lV O O) (bg (jG O (fun h3 => ?_) (fun h3 => ?_))))))
          · (try simp only [aA] at h3)
            try (exfalso; first | contradiction | omega)
            all_goals
              refine bg (bT O (bg (Z (sS O O) (bg (iU O O (iH O O (fB O (dL results146 O ?_))))))))
              refine ⟨?_, O⟩; congr 1; first | (symm; rw [lF, decide_eq_true_eq]; omega) | (symm; rw [lF, decide_eq_false_iff_not]; omega) | (rw [lF, decide_eq_decide]; omega)
          · (try simp only [aA] at h3)
            try (exfalso; first | contradiction | omega)
            all_goals
              refine bF (bF (bg (iH O O (iH O O (fB O (dL results146 O ?_))))))
              refine ⟨?_, O⟩; congr 1; first | (symm; rw [lF, decide_eq_true_eq]; omega) | (symm; rw [lF, decide_eq_false_iff_not]; omega) | (rw [lF, decide_eq_decide]; omega)
  · (try simp only [aA] at h1)
    try (exfalso; first | contradiction | omega)
    all_goals
      refine bF (bF (iH O O (bT O (bg (bT O (bg (Z (lV O O) (bg (jG O (fun h4 => ?_) (fun h4 => ?_))))))))))
      · (try simp only [aA] at h4)
        try (exfalso; first | contradiction | omega)
        all_goals
          refine bg (bT O (bg (Z (sS O O) (bg (iU O O (iH O O (fB O (dL results146 O ?_))))))))
          refine ⟨?_, O⟩; congr 1; first | (symm; rw [lF, decide_eq_true_eq]; omega) | (symm; rw [lF, decide_eq_false_iff_not]; omega) | (rw [lF, decide_eq_decide]; omega)
      · (try simp only [aA] at h4)
        try (exfalso; first | contradiction | omega)
        all_goals
          refine bF (bF (bg (iH O O (iH O O (fB O (dL results146 O ?_))))))
          refine ⟨?_, O⟩; congr 1; first | (symm; rw [lF, decide_eq_true_eq]; omega) | (symm; rw [lF, decide_eq_false_iff_not]; omega) | (rw [lF, decide_eq_decide]; omega)
theorem OO (T : List (Int × Int)) : (vM T).length = T.length * 2 := by
  induction T with
  | nil => rfl
  | cons x r ih => simp only [vM, List.flatMap_cons, List.length_append] at *; simp [ih]; omega
theorem JX (T : List (Int × Int)) (k : Nat) (h : k < T.length) : (vM T).getD (k * 2) undef = .int .i32 (T.getD k (0, 0)).1 ∧ (vM T).getD (k * 2 + 1) undef = .int .i32 (T.getD k (0, 0)).2 := by
  induction T generalizing k with
  | nil => simp at h
  | cons x r ih =>
    cases k with
    | zero => exact ⟨rfl, rfl⟩
    | succ k =>
      have := ih k (by simpa using h)
      rw [show (k + 1) * 2 = k * 2 + 2 from by omega, show k * 2 + 2 + 1 = (k * 2 + 1) + 2 from by omega]
      simpa [vM, List.getD_eq_getElem?_getD] using this
theorem IU {r : Int} {T : List (Int × Int)} {k : Nat} (h : k < T.length) : within r (T.take (k + 1)) = (within r (T.take k) || decide ((T.getD k (0, 0)).1 ≤ r ∧ r ≤ (T.getD k (0, 0)).2)) := by
  unfold within
  rw [List.take_succ_eq_append_getElem h, List.any_append]
  simp [List.getD_eq_getElem?_getD, h]
theorem TP {r : Int} {T : List (Int × Int)} {k : Nat} (h : k < T.length) (hk : (T.getD k (0, 0)).1 ≤ r ∧ r ≤ (T.getD k (0, 0)).2) : within r T = true := by
  unfold within
  rw [List.any_eq_true]
  refine ⟨T.getD k (0, 0), ?_, by simpa using hk⟩
  rw [List.getD_eq_getElem?_getD, List.getElem?_eq_getElem h]
  exact List.getElem_mem h
theorem JY {v : Value} {T : List (Int × Int)} (H : V w0 w F) (hr : Rd w0 2 v T.length (vM T)) (hT : T.length < 1000000) :
  iE prog 147 #[.int .i32 r, v] w fun v w' => v = .bool (within r T) ∧ V w0 w' F := by
 obtain ⟨hlen, a, c, rfl, hc1, hc2, hcell⟩ := hr
 refine oV func147 ntmps147 ?_
 refine jQ O (aN (bQ O (Z (jd underlying211 O) (bT O (iJ (aY ?_))))))
 refine gW [(0, _), (7, _), (8, _)] (fun (k : Nat) => [(9, .int .i64 (k : Int))]) (fun (k : Nat) W => k ≤ T.length ∧ within r (T.take k) = false ∧ V w0 W F) (fun (k : Nat) => T.length - k) (0) uK lU ⟨by omega, O, H⟩ ?_
 rintro k w1 ⟨hk, hno, HL⟩
 dsimp only [List.cons_append, List.nil_append]
 refine iR (Z (fZ O O) (qQ (bD O (fun h1 => ?_) (fun h1 => ?_))))
 ·(try simp only [aA] at h1)
  try (exfalso; first | contradiction | omega)
  all_goals
   refine gG (aN (aY (aN ?_)))
   have hk1 : k < T.length := by omega
   obtain ⟨b0, o, rfl, hq⟩ := hcell (by omega)
   have hq0 := hq (k * 2) (by omega)
   have hq1 := hq (k * 2 + 1) (by omega)
   rw [(JX T k hk1).1] at hq0
   rw [(JX T k hk1).2] at hq1
   rw [← Nat.add_assoc] at hq1
   refine aC (Z (dP underlying211 sizeOf213 O O (by omega)) ?_)
   refine Z (BI (cs := [.int .i32 (T.getD k (0, 0)).1, .int .i32 (T.getD k (0, 0)).2]) (by rw [underlying213]; rfl) (Qo underlying213 O) sizeOf213 O O (WR (by rw [show ((k : Int).toNat * 2) = k * 2 from by omega]; exact HL.cell hq0) (by rw [show ((k : Int).toNat * 2) = k * 2 from by omega]; exact HL.cell hq1))) ?_
   refine kD (Ac HL zeroValue213) ?_
   rintro _ w2 ⟨b2, rfl, H2⟩
   refine aJ (gQ (cs := #[.int .i32 (T.getD k (0, 0)).1, .int .i32 (T.getD k (0, 0)).2]) H2 sizeOf213 O O O O (by simp [Value.oneCell'])) ?_
   rintro _ w3 H3
   have HN := H3.right
   refine rG O (bJ 0 underlying213 O bZ O (fM bG O H3.get.2 O (Z (lV O O) (jG O (fun h2 => ?_) (fun h2 => ?_)))))
   ·(try simp only [aA] at h2)
    try (exfalso; first | contradiction | omega)
    all_goals
     refine bg (bT O (bg (bJ 1 underlying213 O bZ O (bg (fM bG O H3.get.2 O (bg (Z (sS O O) (iU O O (jB O (fun h3 => ?_) (fun h3 => ?_))))))))))
     ·(try simp only [aA] at h3)
      try (exfalso; first | contradiction | omega)
      all_goals
       refine jM O (aT (aB (aB (aT (aB (dL results147 O ?_))))))
       exact ⟨by rw [TP hk1 (by omega)], HN⟩
     ·(try simp only [aA] at h3)
      try (exfalso; first | contradiction | omega)
      all_goals
       refine cZ (aK (aX (aC (Z (fJ O O (by omega)) (bT O (bW ?_))))))
       refine dV (k + 1) ?_ ?_ ?_ ?_
       ·exact lU
       ·exact uK
       ·(try dsimp only)
        first | done | exact ⟨by omega, by rw [IU hk1, hno, Bool.false_or, decide_eq_false_iff_not]; omega, HN⟩
       ·(try dsimp only); omega
   ·(try simp only [aA] at h2)
    try (exfalso; first | contradiction | omega)
    all_goals
     refine bF (bF (bF (bF (iH O O (iJ (qo (cZ (aK (aX (aC (Z (fJ O O (by omega)) (bT O (bW ?_)))))))))))))
     refine dV (k + 1) ?_ ?_ ?_ ?_
     ·exact lU
     ·exact uK
     ·(try dsimp only)
      first | done | exact ⟨by omega, by rw [IU hk1, hno, Bool.false_or, decide_eq_false_iff_not]; omega, HN⟩
     ·(try dsimp only); omega
 ·(try simp only [aA] at h1)
  try (exfalso; first | contradiction | omega)
  all_goals
   refine dO (aO (aO (bI (aX (jM O (dL results147 O ?_))))))
   exact ⟨by rw [← hno, List.take_of_length_le (by omega)], HL⟩
theorem oJ (H : V w0 w F) (hT : Aq w0) : iE prog 104 #[.int .i32 r] w fun v w' => v = .int .i64 (Dt r) ∧ V w0 w' F := by
 refine iZ func104 ntmps104 ?_
 refine jQ O (aN (aY (bQ O (dS O func103 (wI) ?_))))
 rintro _ _ ⟨rfl, rfl⟩
 refine Z (lJ O) (jG O (fun h1 => ?_) (fun h1 => ?_))
 ·(try simp only [aA] at h1)
  try (exfalso; first | contradiction | omega)
  all_goals
   refine bF (bF (iU O O (bT O (bF (bF (bF (iU O O (fG O (CP (jM O (aT (aB (dL results104 O ?_)))))))))))))
   exact ⟨by unfold Dt; simp [*], H⟩
 ·(try simp only [aA] at h1)
  try (exfalso; first | contradiction | omega)
  all_goals
   refine bg (bT O (bg (dS O func146 (Qx) ?_)))
   rintro _ _ ⟨rfl, rfl⟩
   refine iH O O (jG O (fun h2 => ?_) (fun h2 => ?_))
   ·(try simp only [aA] at h2)
    try (exfalso; first | contradiction | omega)
    all_goals
     refine bF (bF (bF (iU O O (fG O (CP (jM O (aT (aB (dL results104 O ?_)))))))))
     exact ⟨by unfold Dt; simp [*], H⟩
   ·(try simp only [aA] at h2)
    try (exfalso; first | contradiction | omega)
    all_goals
     refine bg (bT O (bg (Z (IQ underlying214 sizeOf213 O) ?_)))
     refine bg (dS O func147 (JY (T := Vw) H hT.ad9 (by decide)) ?_)
     rintro _ w3 ⟨rfl, H3⟩
     refine iH O O (fG O (bD O (fun h3 => ?_) (fun h3 => ?_)))
     ·(try simp only [aA] at h3)
      try (exfalso; first | contradiction | omega)
      all_goals
       refine jM O (aT (aB (dL results104 O ?_)))
       exact ⟨by unfold Dt; simp [*], H3⟩
     ·(try simp only [aA] at h3)
      try (exfalso; first | contradiction | omega)
      all_goals
       refine bQ O (Z (IQ underlying215 sizeOf213 O) ?_)
       refine dS O func147 (JY (T := Vx) H3 hT.aea (by decide)) ?_
       rintro _ w4 ⟨rfl, H4⟩
       refine fG O (bD O (fun h4 => ?_) (fun h4 => ?_))
       ·(try simp only [aA] at h4)
        try (exfalso; first | contradiction | omega)
        all_goals
         refine jM O (aT (aB (dL results104 O ?_)))
         exact ⟨by unfold Dt; simp [*], H4⟩
       ·(try simp only [aA] at h4)
        try (exfalso; first | contradiction | omega)
        all_goals
         refine cZ (aK (aX (jM O (dL results104 O ?_))))
         exact ⟨by unfold Dt; simp [*], H4⟩
theorem TQ (H : V w0 w F) (hT : Aq w0) : iE prog 47 #[.int .i32 r] w fun v w' => v = .bool (eG r) ∧ V w0 w' F := by
 refine iZ func47 ntmps47 ?_
 refine jQ O (aN (bQ O (Z (fZ O O) (jB O (fun h1 => ?_) (fun h1 => ?_)))))
 ·(try simp only [aA] at h1)
  try (exfalso; first | contradiction | omega)
  all_goals
   refine bQ O (Z (lV O O) (jG O (fun h2 => ?_) (fun h2 => ?_)))
   ·(try simp only [aA] at h2)
    try (exfalso; first | contradiction | omega)
    all_goals
     refine bg (bT O (bg (Z (sS O O) (iU O O (jG O (fun h3 => ?_) (fun h3 => ?_))))))
     ·(try simp only [aA] at h3)
      try (exfalso; first | contradiction | omega)
      all_goals
       refine bF (bF (bF (ng (ng (bF (iU O O (bT O (bF (bF (bF (ng (ng (bF (iU O O (fB O (aB (dL dF O ?_)))))))))))))))))
       refine ⟨?_, H⟩; congr 1; rw [eG, if_pos (by omega)]; first | (symm; rw [decide_eq_true_eq]; omega) | (symm; rw [decide_eq_false_iff_not]; omega) | (rw [decide_eq_decide]; omega)
     ·(try simp only [aA] at h3)
      try (exfalso; first | contradiction | omega)
      all_goals
       refine bg (bT O (bg (Z (lV O O) (bg (jG O (fun h4 => ?_) (fun h4 => ?_))))))
       ·(try simp only [aA] at h4)
        try (exfalso; first | contradiction | omega)
        all_goals
         refine bg (bT O (bg (Z (sS O O) (bg (iU O O (iH O O (jG O (fun h5 => ?_) (fun h5 => ?_))))))))
         ·(try simp only [aA] at h5)
          try (exfalso; first | contradiction | omega)
          all_goals
           refine bF (bF (bF (ng (ng (bF (iU O O (fB O (aB (dL dF O ?_)))))))))
           refine ⟨?_, H⟩; congr 1; rw [eG, if_pos (by omega)]; first | (symm; rw [decide_eq_true_eq]; omega) | (symm; rw [decide_eq_false_iff_not]; omega) | (rw [decide_eq_decide]; omega)
         ·(try simp only [aA] at h5)
          try (exfalso; first | contradiction | omega)
          all_goals
           refine bg (bT O (bg (Z (lV O O) (bg (jG O (fun h6 => ?_) (fun h6 => ?_))))))
           ·(try simp only [aA] at h6)
            try (exfalso; first | contradiction | omega)
            all_goals
             refine bg (bT O (bg (Z (sS O O) (bg (iU O O (iH O O (fB O (aB (dL dF O ?_)))))))))
             refine ⟨?_, H⟩; congr 1; rw [eG, if_pos (by omega)]; first | (symm; rw [decide_eq_true_eq]; omega) | (symm; rw [decide_eq_false_iff_not]; omega) | (rw [decide_eq_decide]; omega)
           ·(try simp only [aA] at h6)
            try (exfalso; first | contradiction | omega)
            all_goals
             refine bF (bF (bg (iH O O (iH O O (fB O (aB (dL dF O ?_)))))))
             refine ⟨?_, H⟩; congr 1; rw [eG, if_pos (by omega)]; first | (symm; rw [decide_eq_true_eq]; omega) | (symm; rw [decide_eq_false_iff_not]; omega) | (rw [decide_eq_decide]; omega)
       ·(try simp only [aA] at h4)
        try (exfalso; first | contradiction | omega)
        all_goals
         refine bF (bF (bg (iH O O (iH O O (bT O (bg (bT O (bg (Z (lV O O) (bg (jG O (fun h7 => ?_) (fun h7 => ?_))))))))))))
         ·(try simp only [aA] at h7)
          try (exfalso; first | contradiction | omega)
          all_goals
           refine bg (bT O (bg (Z (sS O O) (bg (iU O O (iH O O (fB O (aB (dL dF O ?_)))))))))
           refine ⟨?_, H⟩; congr 1; rw [eG, if_pos (by omega)]; first | (symm; rw [decide_eq_true_eq]; omega) | (symm; rw [decide_eq_false_iff_not]; omega) | (rw [decide_eq_decide]; omega)
         ·(try simp only [aA] at h7)
          try (exfalso; first | contradiction | omega)
          all_goals
           refine bF (bF (bg (iH O O (iH O O (fB O (aB (dL dF O ?_)))))))
           refine ⟨?_, H⟩; congr 1; rw [eG, if_pos (by omega)]; first | (symm; rw [decide_eq_true_eq]; omega) | (symm; rw [decide_eq_false_iff_not]; omega) | (rw [decide_eq_decide]; omega)
   ·(try simp only [aA] at h2)
    try (exfalso; first | contradiction | omega)
    all_goals
     refine bF (bF (iH O O (bT O (bg (bT O (bg (Z (lV O O) (bg (jG O (fun h8 => ?_) (fun h8 => ?_))))))))))
     ·(try simp only [aA] at h8)
      try (exfalso; first | contradiction | omega)
      all_goals
       refine bg (bT O (bg (Z (sS O O) (bg (iU O O (iH O O (jG O (fun h9 => ?_) (fun h9 => ?_))))))))
       ·(try simp only [aA] at h9)
        try (exfalso; first | contradiction | omega)
        all_goals
         refine bF (bF (bF (ng (ng (bF (iU O O (fB O (aB (dL dF O ?_)))))))))
         refine ⟨?_, H⟩; congr 1; rw [eG, if_pos (by omega)]; first | (symm; rw [decide_eq_true_eq]; omega) | (symm; rw [decide_eq_false_iff_not]; omega) | (rw [decide_eq_decide]; omega)
       ·(try simp only [aA] at h9)
        try (exfalso; first | contradiction | omega)
        all_goals
         refine bg (bT O (bg (Z (lV O O) (bg (jG O (fun h10 => ?_) (fun h10 => ?_))))))
         ·(try simp only [aA] at h10)
          try (exfalso; first | contradiction | omega)
          all_goals
           refine bg (bT O (bg (Z (sS O O) (bg (iU O O (iH O O (fB O (aB (dL dF O ?_)))))))))
           refine ⟨?_, H⟩; congr 1; rw [eG, if_pos (by omega)]; first | (symm; rw [decide_eq_true_eq]; omega) | (symm; rw [decide_eq_false_iff_not]; omega) | (rw [decide_eq_decide]; omega)
         ·(try simp only [aA] at h10)
          try (exfalso; first | contradiction | omega)
          all_goals
           refine bF (bF (bg (iH O O (iH O O (fB O (aB (dL dF O ?_)))))))
           refine ⟨?_, H⟩; congr 1; rw [eG, if_pos (by omega)]; first | (symm; rw [decide_eq_true_eq]; omega) | (symm; rw [decide_eq_false_iff_not]; omega) | (rw [decide_eq_decide]; omega)
     ·(try simp only [aA] at h8)
      try (exfalso; first | contradiction | omega)
      all_goals
       refine bF (bF (bg (iH O O (iH O O (bT O (bg (bT O (bg (Z (lV O O) (bg (jG O (fun h11 => ?_) (fun h11 => ?_))))))))))))
       ·(try simp only [aA] at h11)
        try (exfalso; first | contradiction | omega)
        all_goals
         refine bg (bT O (bg (Z (sS O O) (bg (iU O O (iH O O (fB O (aB (dL dF O ?_)))))))))
         refine ⟨?_, H⟩; congr 1; rw [eG, if_pos (by omega)]; first | (symm; rw [decide_eq_true_eq]; omega) | (symm; rw [decide_eq_false_iff_not]; omega) | (rw [decide_eq_decide]; omega)
       ·(try simp only [aA] at h11)
        try (exfalso; first | contradiction | omega)
        all_goals
         refine bF (bF (bg (iH O O (iH O O (fB O (aB (dL dF O ?_)))))))
         refine ⟨?_, H⟩; congr 1; rw [eG, if_pos (by omega)]; first | (symm; rw [decide_eq_true_eq]; omega) | (symm; rw [decide_eq_false_iff_not]; omega) | (rw [decide_eq_decide]; omega)
 ·(try simp only [aA] at h1)
  try (exfalso; first | contradiction | omega)
  all_goals
   refine gG (aN (aY (aN (bQ O (Z (dX O O) (jG O (fun h12 => ?_) (fun h12 => ?_)))))))
   ·(try simp only [aA] at h12)
    try (exfalso; first | contradiction | omega)
    all_goals
     refine bF (bF (iU O O (bT O (bF (bF (iU O O (fG O (CP (gG (CP (jM O (aT (aB (dL dF O ?_))))))))))))))
     refine ⟨?_, H⟩; congr 1; rw [eG, if_neg (by omega), if_pos (by omega)]
   ·(try simp only [aA] at h12)
    try (exfalso; first | contradiction | omega)
    all_goals
     refine bg (bT O (bg (Z (dX O O) (iH O O (jG O (fun h13 => ?_) (fun h13 => ?_))))))
     ·(try simp only [aA] at h13)
      try (exfalso; first | contradiction | omega)
      all_goals
       refine bF (bF (iU O O (fG O (CP (gG (CP (jM O (aT (aB (dL dF O ?_))))))))))
       refine ⟨?_, H⟩; congr 1; rw [eG, if_neg (by omega), if_pos (by omega)]
     ·(try simp only [aA] at h13)
      try (exfalso; first | contradiction | omega)
      all_goals
       refine bg (bT O (bg (Z (dX O O) (iH O O (fG O (bD O (fun h14 => ?_) (fun h14 => ?_)))))))
       ·(try simp only [aA] at h14)
        try (exfalso; first | contradiction | omega)
        all_goals
         refine gG (bD O (fun h15 => ?_) (fun h15 => ?_))
         ·(try simp only [aA] at h15)
          try (exfalso; first | contradiction | omega)
          all_goals
           refine jM O (aT (aB (dL dF O ?_)))
           refine ⟨?_, H⟩; congr 1; rw [eG, if_neg (by omega), if_pos (by omega)]
         ·(try simp only [aA] at h15)
          try (exfalso; first | contradiction | omega)
          all_goals
           refine cZ (aK (aX (bQ O (dS O func103 (wI) ?_))))
           rintro _ _ ⟨rfl, rfl⟩
           refine jG O (fun h16 => ?_) (fun h16 => ?_)
           ·(try simp only [aA] at h16)
            try (exfalso; first | contradiction | omega)
            all_goals
             refine bg (bT O (bg (dS O func104 (oJ H hT) ?_)))
             rintro _ w2 ⟨rfl, H2⟩
             refine bg (Z (dY O O) (iU O O (fB O (dL dF O ?_))))
             refine ⟨?_, H2⟩; congr 1; rw [eG, if_neg (by omega), if_neg (by omega)]; simp [*]
           ·(try simp only [aA] at h16)
            try (exfalso; first | contradiction | omega)
            all_goals
             refine bF (bF (bF (iH O O (fB O (dL dF O ?_)))))
             refine ⟨?_, H⟩; congr 1; rw [eG, if_neg (by omega), if_neg (by omega)]; simp [*]
       ·(try simp only [aA] at h14)
        try (exfalso; first | contradiction | omega)
        all_goals
         refine bQ O (Z (lV O O) (jG O (fun h17 => ?_) (fun h17 => ?_)))
         ·(try simp only [aA] at h17)
          try (exfalso; first | contradiction | omega)
          all_goals
           refine bg (bT O (bg (Z (sS O O) (iU O O (fG O (bD O (fun h18 => ?_) (fun h18 => ?_)))))))
           ·(try simp only [aA] at h18)
            try (exfalso; first | contradiction | omega)
            all_goals
             refine gG (bD O (fun h19 => ?_) (fun h19 => ?_))
             ·(try simp only [aA] at h19)
              try (exfalso; first | contradiction | omega)
              all_goals
               refine jM O (aT (aB (dL dF O ?_)))
               refine ⟨?_, H⟩; congr 1; rw [eG, if_neg (by omega), if_pos (by omega)]
             ·(try simp only [aA] at h19)
              try (exfalso; first | contradiction | omega)
              all_goals
               refine cZ (aK (aX (bQ O (dS O func103 (wI) ?_))))
               rintro _ _ ⟨rfl, rfl⟩
               refine jG O (fun h20 => ?_) (fun h20 => ?_)
               ·(try simp only [aA] at h20)
                try (exfalso; first | contradiction | omega)
                all_goals
                 refine bg (bT O (bg (dS O func104 (oJ H hT) ?_)))
                 rintro _ w4 ⟨rfl, H4⟩
                 refine bg (Z (dY O O) (iU O O (fB O (dL dF O ?_))))
                 refine ⟨?_, H4⟩; congr 1; rw [eG, if_neg (by omega), if_neg (by omega)]; simp [*]
               ·(try simp only [aA] at h20)
                try (exfalso; first | contradiction | omega)
                all_goals
                 refine bF (bF (bF (iH O O (fB O (dL dF O ?_)))))
                 refine ⟨?_, H⟩; congr 1; rw [eG, if_neg (by omega), if_neg (by omega)]; simp [*]
           ·(try simp only [aA] at h18)
            try (exfalso; first | contradiction | omega)
            all_goals
             refine bQ O (Z (lV O O) (jG O (fun h21 => ?_) (fun h21 => ?_)))
             ·(try simp only [aA] at h21)
              try (exfalso; first | contradiction | omega)
              all_goals
               refine bg (bT O (bg (Z (sS O O) (iU O O (fG O (bD O (fun h22 => ?_) (fun h22 => ?_)))))))
               ·(try simp only [aA] at h22)
                try (exfalso; first | contradiction | omega)
                all_goals
                 refine gG (bD O (fun h23 => ?_) (fun h23 => ?_))
                 ·(try simp only [aA] at h23)
                  try (exfalso; first | contradiction | omega)
                  all_goals
                   refine jM O (aT (aB (dL dF O ?_)))
                   refine ⟨?_, H⟩; congr 1; rw [eG, if_neg (by omega), if_pos (by omega)]
                 ·(try simp only [aA] at h23)
                  try (exfalso; first | contradiction | omega)
                  all_goals
                   refine cZ (aK (aX (bQ O (dS O func103 (wI) ?_))))
                   rintro _ _ ⟨rfl, rfl⟩
                   refine jG O (fun h24 => ?_) (fun h24 => ?_)
                   ·(try simp only [aA] at h24)
                    try (exfalso; first | contradiction | omega)
                    all_goals
                     refine bg (bT O (bg (dS O func104 (oJ H hT) ?_)))
                     rintro _ w6 ⟨rfl, H6⟩
                     refine bg (Z (dY O O) (iU O O (fB O (dL dF O ?_))))
                     refine ⟨?_, H6⟩; congr 1; rw [eG, if_neg (by omega), if_neg (by omega)]; simp [*]
                   ·(try simp only [aA] at h24)
                    try (exfalso; first | contradiction | omega)
                    all_goals
                     refine bF (bF (bF (iH O O (fB O (dL dF O ?_)))))
                     refine ⟨?_, H⟩; congr 1; rw [eG, if_neg (by omega), if_neg (by omega)]; simp [*]
               ·(try simp only [aA] at h22)
                try (exfalso; first | contradiction | omega)
                all_goals
                 refine aC (bT O (Z (lV O O) (jG O (fun h25 => ?_) (fun h25 => ?_))))
                 ·(try simp only [aA] at h25)
                  try (exfalso; first | contradiction | omega)
                  all_goals
                   refine bg (bT O (bg (Z (sS O O) (iU O O (fG O (bD O (fun h26 => ?_) (fun h26 => ?_)))))))
                   ·(try simp only [aA] at h26)
                    try (exfalso; first | contradiction | omega)
                    all_goals
                     refine jM O (aT (aB (dL dF O ?_)))
                     refine ⟨?_, H⟩; congr 1; rw [eG, if_neg (by omega), if_pos (by omega)]
                   ·(try simp only [aA] at h26)
                    try (exfalso; first | contradiction | omega)
                    all_goals
                     refine cZ (aK (aX (bQ O (dS O func103 (wI) ?_))))
                     rintro _ _ ⟨rfl, rfl⟩
                     refine jG O (fun h27 => ?_) (fun h27 => ?_)
                     ·(try simp only [aA] at h27)
                      try (exfalso; first | contradiction | omega)
                      all_goals
                       refine bg (bT O (bg (dS O func104 (oJ H hT) ?_)))
                       rintro _ w8 ⟨rfl, H8⟩
                       refine bg (Z (dY O O) (iU O O (fB O (dL dF O ?_))))
                       refine ⟨?_, H8⟩; congr 1; rw [eG, if_neg (by omega), if_neg (by omega)]; simp [*]
                     ·(try simp only [aA] at h27)
                      try (exfalso; first | contradiction | omega)
                      all_goals
                       refine bF (bF (bF (iH O O (fB O (dL dF O ?_)))))
                       refine ⟨?_, H⟩; congr 1; rw [eG, if_neg (by omega), if_neg (by omega)]; simp [*]
                 ·(try simp only [aA] at h25)
                  try (exfalso; first | contradiction | omega)
                  all_goals
                   refine bF (bF (iH O O (fG O (qo (cZ (aK (aX (bQ O (dS O func103 (wI) ?_)))))))))
                   rintro _ _ ⟨rfl, rfl⟩
                   refine jG O (fun h28 => ?_) (fun h28 => ?_)
                   ·(try simp only [aA] at h28)
                    try (exfalso; first | contradiction | omega)
                    all_goals
                     refine bg (bT O (bg (dS O func104 (oJ H hT) ?_)))
                     rintro _ w10 ⟨rfl, pR⟩
                     refine bg (Z (dY O O) (iU O O (fB O (dL dF O ?_))))
                     refine ⟨?_, pR⟩; congr 1; rw [eG, if_neg (by omega), if_neg (by omega)]; simp [*]
                   ·(try simp only [aA] at h28)
                    try (exfalso; first | contradiction | omega)
                    all_goals
                     refine bF (bF (bF (iH O O (fB O (dL dF O ?_)))))
                     refine ⟨?_, H⟩; congr 1; rw [eG, if_neg (by omega), if_neg (by omega)]; simp [*]
             ·(try simp only [aA] at h21)
              try (exfalso; first | contradiction | omega)
              all_goals
               refine bF (bF (iH O O (fG O (qo (aC (bT O (Z (lV O O) (jG O (fun h29 => ?_) (fun h29 => ?_)))))))))
               ·(try simp only [aA] at h29)
                try (exfalso; first | contradiction | omega)
                all_goals
                 refine bg (bT O (bg (Z (sS O O) (iU O O (fG O (bD O (fun h30 => ?_) (fun h30 => ?_)))))))
                 ·(try simp only [aA] at h30)
                  try (exfalso; first | contradiction | omega)
                  all_goals
                   refine jM O (aT (aB (dL dF O ?_)))
                   refine ⟨?_, H⟩; congr 1; rw [eG, if_neg (by omega), if_pos (by omega)]
                 ·(try simp only [aA] at h30)
                  try (exfalso; first | contradiction | omega)
                  all_goals
                   refine cZ (aK (aX (bQ O (dS O func103 (wI) ?_))))
                   rintro _ _ ⟨rfl, rfl⟩
                   refine jG O (fun h31 => ?_) (fun h31 => ?_)
                   ·(try simp only [aA] at h31)
                    try (exfalso; first | contradiction | omega)
                    all_goals
                     refine bg (bT O (bg (dS O func104 (oJ H hT) ?_)))
                     rintro _ w12 ⟨rfl, vZ⟩
                     refine bg (Z (dY O O) (iU O O (fB O (dL dF O ?_))))
                     refine ⟨?_, vZ⟩; congr 1; rw [eG, if_neg (by omega), if_neg (by omega)]; simp [*]
                   ·(try simp only [aA] at h31)
                    try (exfalso; first | contradiction | omega)
                    all_goals
                     refine bF (bF (bF (iH O O (fB O (dL dF O ?_)))))
                     refine ⟨?_, H⟩; congr 1; rw [eG, if_neg (by omega), if_neg (by omega)]; simp [*]
               ·(try simp only [aA] at h29)
                try (exfalso; first | contradiction | omega)
                all_goals
                 refine bF (bF (iH O O (fG O (qo (cZ (aK (aX (bQ O (dS O func103 (wI) ?_)))))))))
                 rintro _ _ ⟨rfl, rfl⟩
                 refine jG O (fun h32 => ?_) (fun h32 => ?_)
                 ·(try simp only [aA] at h32)
                  try (exfalso; first | contradiction | omega)
                  all_goals
                   refine bg (bT O (bg (dS O func104 (oJ H hT) ?_)))
                   rintro _ OQ ⟨rfl, AZ⟩
                   refine bg (Z (dY O O) (iU O O (fB O (dL dF O ?_))))
                   refine ⟨?_, AZ⟩; congr 1; rw [eG, if_neg (by omega), if_neg (by omega)]; simp [*]
                 ·(try simp only [aA] at h32)
                  try (exfalso; first | contradiction | omega)
                  all_goals
                   refine bF (bF (bF (iH O O (fB O (dL dF O ?_)))))
                   refine ⟨?_, H⟩; congr 1; rw [eG, if_neg (by omega), if_neg (by omega)]; simp [*]
         ·(try simp only [aA] at h17)
          try (exfalso; first | contradiction | omega)
          all_goals
           refine bF (bF (iH O O (fG O (qo (bQ O (Z (lV O O) (jG O (fun h33 => ?_) (fun h33 => ?_))))))))
           ·(try simp only [aA] at h33)
            try (exfalso; first | contradiction | omega)
            all_goals
             refine bg (bT O (bg (Z (sS O O) (iU O O (fG O (bD O (fun h34 => ?_) (fun h34 => ?_)))))))
             ·(try simp only [aA] at h34)
              try (exfalso; first | contradiction | omega)
              all_goals
               refine gG (bD O (fun h35 => ?_) (fun h35 => ?_))
               ·(try simp only [aA] at h35)
                try (exfalso; first | contradiction | omega)
                all_goals
                 refine jM O (aT (aB (dL dF O ?_)))
                 refine ⟨?_, H⟩; congr 1; rw [eG, if_neg (by omega), if_pos (by omega)]
               ·(try simp only [aA] at h35)
                try (exfalso; first | contradiction | omega)
                all_goals
                 refine cZ (aK (aX (bQ O (dS O func103 (wI) ?_))))
                 rintro _ _ ⟨rfl, rfl⟩
                 refine jG O (fun h36 => ?_) (fun h36 => ?_)
                 ·(try simp only [aA] at h36)
                  try (exfalso; first | contradiction | omega)
                  all_goals
                   refine bg (bT O (bg (dS O func104 (oJ H hT) ?_)))
                   rintro _ w16 ⟨rfl, vw⟩
                   refine bg (Z (dY O O) (iU O O (fB O (dL dF O ?_))))
                   refine ⟨?_, vw⟩; congr 1; rw [eG, if_neg (by omega), if_neg (by omega)]; simp [*]
                 ·(try simp only [aA] at h36)
                  try (exfalso; first | contradiction | omega)
                  all_goals
                   refine bF (bF (bF (iH O O (fB O (dL dF O ?_)))))
                   refine ⟨?_, H⟩; congr 1; rw [eG, if_neg (by omega), if_neg (by omega)]; simp [*]
             ·(try simp only [aA] at h34)
              try (exfalso; first | contradiction | omega)
              all_goals
               refine aC (bT O (Z (lV O O) (jG O (fun h37 => ?_) (fun h37 => ?_))))
               ·(try simp only [aA] at h37)
                try (exfalso; first | contradiction | omega)
                all_goals
                 refine bg (bT O (bg (Z (sS O O) (iU O O (fG O (bD O (fun h38 => ?_) (fun h38 => ?_)))))))
                 ·(try simp only [aA] at h38)
                  try (exfalso; first | contradiction | omega)
                  all_goals
                   refine jM O (aT (aB (dL dF O ?_)))
                   refine ⟨?_, H⟩; congr 1; rw [eG, if_neg (by omega), if_pos (by omega)]
                 ·(try simp only [aA] at h38)
                  try (exfalso; first | contradiction | omega)
                  all_goals
                   refine cZ (aK (aX (bQ O (dS O func103 (wI) ?_))))
                   rintro _ _ ⟨rfl, rfl⟩
                   refine jG O (fun h39 => ?_) (fun h39 => ?_)
                   ·(try simp only [aA] at h39)
                    try (exfalso; first | contradiction | omega)
                    all_goals
                     refine bg (bT O (bg (dS O func104 (oJ H hT) ?_)))
                     rintro _ YD ⟨rfl, EN⟩
                     refine bg (Z (dY O O) (iU O O (fB O (dL dF O ?_))))
                     refine ⟨?_, EN⟩; congr 1; rw [eG, if_neg (by omega), if_neg (by omega)]; simp [*]
                   ·(try simp only [aA] at h39)
                    try (exfalso; first | contradiction | omega)
                    all_goals
                     refine bF (bF (bF (iH O O (fB O (dL dF O ?_)))))
                     refine ⟨?_, H⟩; congr 1; rw [eG, if_neg (by omega), if_neg (by omega)]; simp [*]
               ·(try simp only [aA] at h37)
                try (exfalso; first | contradiction | omega)
                all_goals
                 refine bF (bF (iH O O (fG O (qo (cZ (aK (aX (bQ O (dS O func103 (wI) ?_)))))))))
                 rintro _ _ ⟨rfl, rfl⟩
                 refine jG O (fun h40 => ?_) (fun h40 => ?_)
                 ·(try simp only [aA] at h40)
                  try (exfalso; first | contradiction | omega)
                  all_goals
                   refine bg (bT O (bg (dS O func104 (oJ H hT) ?_)))
                   rintro _ w20 ⟨rfl, F9⟩
                   refine bg (Z (dY O O) (iU O O (fB O (dL dF O ?_))))
                   refine ⟨?_, F9⟩; congr 1; rw [eG, if_neg (by omega), if_neg (by omega)]; simp [*]
                 ·(try simp only [aA] at h40)
                  try (exfalso; first | contradiction | omega)
                  all_goals
                   refine bF (bF (bF (iH O O (fB O (dL dF O ?_)))))
                   refine ⟨?_, H⟩; congr 1; rw [eG, if_neg (by omega), if_neg (by omega)]; simp [*]
           ·(try simp only [aA] at h33)
            try (exfalso; first | contradiction | omega)
            all_goals
             refine bF (bF (iH O O (fG O (qo (aC (bT O (Z (lV O O) (jG O (fun h41 => ?_) (fun h41 => ?_)))))))))
             ·(try simp only [aA] at h41)
              try (exfalso; first | contradiction | omega)
              all_goals
               refine bg (bT O (bg (Z (sS O O) (iU O O (fG O (bD O (fun h42 => ?_) (fun h42 => ?_)))))))
               ·(try simp only [aA] at h42)
                try (exfalso; first | contradiction | omega)
                all_goals
                 refine jM O (aT (aB (dL dF O ?_)))
                 refine ⟨?_, H⟩; congr 1; rw [eG, if_neg (by omega), if_pos (by omega)]
               ·(try simp only [aA] at h42)
                try (exfalso; first | contradiction | omega)
                all_goals
                 refine cZ (aK (aX (bQ O (dS O func103 (wI) ?_))))
                 rintro _ _ ⟨rfl, rfl⟩
                 refine jG O (fun h43 => ?_) (fun h43 => ?_)
                 ·(try simp only [aA] at h43)
                  try (exfalso; first | contradiction | omega)
                  all_goals
                   refine bg (bT O (bg (dS O func104 (oJ H hT) ?_)))
                   rintro _ w22 ⟨rfl, Jv⟩
                   refine bg (Z (dY O O) (iU O O (fB O (dL dF O ?_))))
                   refine ⟨?_, Jv⟩; congr 1; rw [eG, if_neg (by omega), if_neg (by omega)]; simp [*]
                 ·(try simp only [aA] at h43)
                  try (exfalso; first | contradiction | omega)
                  all_goals
                   refine bF (bF (bF (iH O O (fB O (dL dF O ?_)))))
                   refine ⟨?_, H⟩; congr 1; rw [eG, if_neg (by omega), if_neg (by omega)]; simp [*]
             ·(try simp only [aA] at h41)
              try (exfalso; first | contradiction | omega)
              all_goals
               refine bF (bF (iH O O (fG O (qo (cZ (aK (aX (bQ O (dS O func103 (wI) ?_)))))))))
               rintro _ _ ⟨rfl, rfl⟩
               refine jG O (fun h44 => ?_) (fun h44 => ?_)
               ·(try simp only [aA] at h44)
                try (exfalso; first | contradiction | omega)
                all_goals
                 refine bg (bT O (bg (dS O func104 (oJ H hT) ?_)))
                 rintro _ w24 ⟨rfl, Qy⟩
                 refine bg (Z (dY O O) (iU O O (fB O (dL dF O ?_))))
                 refine ⟨?_, Qy⟩; congr 1; rw [eG, if_neg (by omega), if_neg (by omega)]; simp [*]
               ·(try simp only [aA] at h44)
                try (exfalso; first | contradiction | omega)
                all_goals
                 refine bF (bF (bF (iH O O (fB O (dL dF O ?_)))))
                 refine ⟨?_, H⟩; congr 1; rw [eG, if_neg (by omega), if_neg (by omega)]; simp [*]
end
end Go.Proofs.YtpdeedplgmbopaaGreatDoor
end
section
set_option maxRecDepth 100000
namespace Go.Proofs.YtpdeedplgmbopaaGreatDoor
open Go.ChangeShapes Go.WideShapes Go.ChangeAt Go.RowKit
def Vy (x : Int × Int) : DataW Unit := .agg [.lit (.int .i32 x.1), .lit (.int .i32 x.2)]
section
variable {enc : TypeId × Value → Unit} {w : World} {base : Nat} {spare : Nat → Bool} {held : Bool} {fuel : Nat} {ps : List MemPlace}
theorem aaX {cs : List Value} {x : Int × Int} (h : DataW.trod enc Tryz.prog w base spare held fuel 213 cs = some (Vy x, ps)) : cs = [.int .i32 x.1, .int .i32 x.2] := by
  obtain ⟨xs, n, -, hx, hl, hl2, hf⟩ := DataW.trod_struct Tryz.underlying213 h
  rw [show Tryz.prog.cellsOf 213 = 2 from by kernel_rfl] at hl
  simp only [Prod.mk.injEq, Vy, DataW.agg.injEq] at hx
  match xs, hl2, hx, cs, hl with
  | [y0, y1], _, hx, [c0, c1], _ =>
    have h0 : DataW.trod enc Tryz.prog w base spare held n 21 (([c0, c1].drop 0).take (Tryz.prog.cellsOf 21)) = some y0 := hf 0 _ rfl
    have h1 : DataW.trod enc Tryz.prog w base spare held n 21 (([c0, c1].drop 1).take (Tryz.prog.cellsOf 21)) = some y1 := hf 1 _ rfl
    simp only [List.map_cons, List.map_nil, List.cons.injEq] at hx
    obtain ⟨n0, e0, d0, -⟩ := DataW.trod_int Tryz.underlying21 h0
    obtain ⟨n1, e1, d1, -⟩ := DataW.trod_int Tryz.underlying21 h1
    rw [show Tryz.prog.cellsOf 21 = 1 from by kernel_rfl] at e0 e1
    simp at e0 e1
    rw [d0, d1] at hx
    simp at hx
    subst e0; subst e1
    rw [hx.1.1, hx.1.2]
theorem YE {t n : Nat} {cs : List Value} {T : List (Int × Int)} (ht : Tryz.prog.underlying t = some (.array n 213)) (hc : Tryz.prog.cellsOf t = n * 2) (h : DataW.trod enc Tryz.prog w base spare held fuel t cs = some (.agg (T.map Vy), ps)) : cs = vM T := by
  obtain ⟨xs, m, -, hx, hl, hl2, hel⟩ := DataW.trod_array ht h
  simp only [Prod.mk.injEq, DataW.agg.injEq] at hx
  rw [hc] at hl
  have hTn : T.length = n := by have := congrArg List.length hx.1; simpa [hl2] using this
  have hv := OO T
  apply List.ext_getElem?
  intro j
  by_cases hj : j < n * 2
  · have hk : j / 2 < n := by omega
    have h1 := hel (j / 2) hk
    rw [show Tryz.prog.cellsOf 213 = 2 from by kernel_rfl, List.getElem?_eq_getElem (by omega)] at h1
    have h2 : xs[j / 2].1 = Vy (T.getD (j / 2) (0, 0)) := by
      have := congrArg (fun l => l[j / 2]?) hx.1
      simp [List.getElem?_eq_getElem (show j / 2 < T.length by omega), List.getElem?_eq_getElem (show j / 2 < xs.length by omega)] at this
      rw [List.getD_eq_getElem?_getD, List.getElem?_eq_getElem (show j / 2 < T.length by omega), Option.getD_some, this]
    have h3 := aaX (x := T.getD (j / 2) (0, 0)) (ps := xs[j / 2].2) (by rw [h1, ← h2])
    obtain ⟨e0, e1⟩ := JX T (j / 2) (by omega)
    have hq : (vM T)[j]? = some ((vM T).getD j undef) := by rw [List.getD_eq_getElem?_getD, List.getElem?_eq_getElem (by omega)]; rfl
    rw [hq]
    rcases (show j = j / 2 * 2 ∨ j = j / 2 * 2 + 1 by omega) with hj2 | hj2
    · have := congrArg (fun l => l[0]?) h3
      simp [List.getElem?_drop] at this
      rw [show j / 2 * 2 = j from by omega] at this e0
      rw [this, e0]; simp [List.getD_eq_getElem?_getD]
    · have := congrArg (fun l => l[1]?) h3
      simp [List.getElem?_take, List.getElem?_drop] at this
      rw [show j / 2 * 2 + 1 = j from by omega] at this e1
      rw [this, e1]; simp [List.getD_eq_getElem?_getD]
  · rw [List.getElem?_eq_none (by omega), List.getElem?_eq_none (by omega)]
end
end Go.Proofs.YtpdeedplgmbopaaGreatDoor
end
section
namespace Go.Proofs.YtpdeedplgmbopaaGreatDoor
open Go.ChangeShapes Go.WideShapes Go.ChangeAt Go.RowKit
theorem aeb : Tryz.prog.globalNamed "lanyard/ucell.none" = some 0 := by kernel_rfl
theorem aec : Tryz.prog.globalNamed "lanyard/ucell.wide" = some 1 := by kernel_rfl
theorem aed : (Tryz.prog.globals[0]?).map (·.type) = some 214 := by kernel_rfl
theorem aee : (Tryz.prog.globals[1]?).map (·.type) = some 215 := by kernel_rfl
abbrev Vz : List (String × DataW Unit) := [("lanyard/ucell.none", Rows.laid_lanyard_ucell_none), ("lanyard/ucell.wide", Rows.laid_lanyard_ucell_wide)]
theorem aaY {W : World} (h : laidMetH Tryz.prog Vz W) : Aq W := by
  rw [MakeChecks.laidMetH_plain _ _ _ (by kernel_rfl)] at h
  obtain ⟨ps, ⟨g0, t0, cs0, f0, p0, q0, hg0, ht0, hv0, hd0, ⟨g1, t1, cs1, f1, p1, q1, hg1, ht1, hv1, hd1, _, _⟩, _⟩, _, _⟩ := h
  obtain rfl := Option.some.inj (aeb.symm.trans hg0)
  obtain rfl := Option.some.inj (aec.symm.trans hg1)
  obtain rfl := Option.some.inj (aed.symm.trans ht0)
  obtain rfl := Option.some.inj (aee.symm.trans ht1)
  have e0 := YE (T := Vw) Tryz.underlying214 (by kernel_rfl) hd0
  have e1 := YE (T := Vx) Tryz.underlying215 (by kernel_rfl) hd1
  refine ⟨⟨by decide, _, 15, rfl, by decide, by decide, fun _ => ⟨0, 0, rfl, fun j hj => ?_⟩⟩, ⟨by decide, _, 14, rfl, by decide, by decide, fun _ => ⟨1, 0, rfl, fun j hj => ?_⟩⟩⟩
  · rw [Nat.zero_add, World.var?_cell hg0 hv0 j, ← Array.getElem?_toList, e0, List.getD_eq_getElem?_getD, List.getElem?_eq_getElem (by rw [OO]; exact hj)]; rfl
  · rw [Nat.zero_add, World.var?_cell hg1 hv1 j, ← Array.getElem?_toList, e1, List.getD_eq_getElem?_getD, List.getElem?_eq_getElem (by rw [OO]; exact hj)]; rfl
theorem YF (os : Os) (args : Array Value) : laidMetH Tryz.prog Vz ((World.doorLaid Tryz.prog 400 os).forCall (fun _ _ => 0) ⟨#[], args, []⟩).memory :=
  laidMetH_of_parts3 (fuel := 8) (laidMet_of_run' 8 (by kernel_rfl) (by kernel_rfl)) (by kernel_rfl) (by kernel_rfl)
end Go.Proofs.YtpdeedplgmbopaaGreatDoor
end
section
namespace Go.Proofs.YtpdeedplgmbopaaGreatDoor
open Go.RowKit
open _root_.Go.Proofs.Tryz
theorem OT {l m : List Int} {i : Nat} (h1 : i < l.length) (h2 : i < m.length) (h : l.take i = m.take i) (e : l.getD i 0 = m.getD i 0) : l.take (i + 1) = m.take (i + 1) := by
  rw [List.take_succ_eq_append_getElem h1, List.take_succ_eq_append_getElem h2, h]
  simp [List.getD_eq_getElem?_getD, h1, h2] at e
  rw [e]
theorem WT (w : World) (v1 v2 : Value) (l1 l2 : List Int) (h1 : gJ w .i32 v1 l1) (h2 : gJ w .i32 v2 l2) :
  iE prog 27 #[v1, v2] w fun v w' => v = .bool (l1 == l2) ∧ zS w w' := by
 obtain ⟨a1, c1, rfl, hc1, hm1, hr1⟩ := h1.open
 obtain ⟨a2, c2, rfl, hc2, hm2, hr2⟩ := h2.open
 clear h1 h2
 refine oV func27 ntmps27 ?_
 refine jQ O (aN (bQ O (Z (jd aj O) (bT O (Z (jd aj O) (Z (ig O O) (jB O (fun h1 => ?_) (fun h1 => ?_))))))))
 ·(try simp only [aA] at h1)
  refine jM O (aB (dL results27 O ?_))
  exact ⟨by rw [show (l1 == l2) = false from beq_eq_false_iff_ne.2 (by rintro rfl; exact h1 rfl)], zS.refl _⟩
 ·(try simp only [aA] at h1)
  refine gG (aN (bQ O (Z (jd aj O) (bT O (iJ (aY ?_))))))
  refine gW [(0, _), (1, _), (12, _)] (fun (k : Nat) => [(13, .int .i64 (k : Int))]) (fun (k : Nat) W => k ≤ l1.length ∧ l1.length = l2.length ∧ l1.take k = l2.take k ∧ zS w W) (fun (k : Nat) => l1.length - k) (0) uK lU ⟨by omega, by omega, by simp, zS.refl _⟩ ?_
  rintro k w1 ⟨hk, hl, ht, hD⟩
  dsimp only [List.cons_append, List.nil_append]
  refine iR (Z (fZ O O) (qQ (bD O (fun h2 => ?_) (fun h2 => ?_))))
  ·(try simp only [aA] at h2)
   refine gG (aN (aY (bQ O (uZ O ?_))))
   obtain ⟨b1, o1, rfl, hq1⟩ := hr1 (by omega)
   obtain ⟨b2, o2, rfl, hq2⟩ := hr2 (by omega)
   have hc1 := hq1 k (by omega)
   have hc2 := hq2 k (by omega)
   refine qM (n := 9) [0, 1, 2, 3, 4, 5, 6, 7, 8] (fun W => W.heap = w1.heap) (by kernel_rfl) (by kernel_rfl) O ?_
   have hS0 : (fun W => W.heap = w1.heap) (w1.drew) := rfl
   refine iQ 0 O hS0 O (iQ 1 O hS0 O (jC 2 O hS0 (fun _ => dP aj bZ O O (by omega)) ?_))
   refine jO 3 O hS0 (fun W hW => fK (dA bG O) O (by rw [Ht (hW.trans hD.heap)]; simpa using hc1)) ?_
   refine iQ 4 O hS0 O (iQ 5 O hS0 O (jC 6 O hS0 (fun _ => dP aj bZ O O (by omega)) ?_))
   refine jO 7 O hS0 (fun W hW => fK (dA bG O) O (by rw [Ht (hW.trans hD.heap)]; simpa using hc2)) ?_
   refine jC 8 O hS0 (fun _ => ig O O) (qV (aX (bD O (fun h3 => ?_) (fun h3 => ?_))))
   ·(try simp only [aA] at h3)
    refine jM O (aT (aB (aB (aT (aB (dL results27 O ?_))))))
    exact ⟨by rw [show (l1 == l2) = false from beq_eq_false_iff_ne.2 (by rintro rfl; exact h3 rfl)], hD.drew⟩
   ·(try simp only [aA] at h3)
    refine cZ (aK (aX (aC (Z (fJ O O (by omega)) (bT O (bW ?_))))))
    refine dV (k + 1) ?_ ?_ ?_ ?_
    ·exact lU
    ·exact uK
    ·(try dsimp only)
     first | done | exact ⟨by omega, by omega, OT (by omega) (by omega) ht (by simpa using h3), hD.drew⟩
    ·(try dsimp only); omega
  ·(try simp only [aA] at h2)
   refine dO (aO (aO (bI (aX (jM O (dL results27 O ?_))))))
   exact ⟨by rw [show (l1 == l2) = true from beq_iff_eq.2 (by rw [List.take_of_length_le (by omega), List.take_of_length_le (by omega)] at ht; exact ht)], hD⟩
theorem Du : (prog.info? 21).map (fun i => (i.zero, i.size, i.bytes)) = some (some (.int .i32 0), 1, 4) := by kernel_rfl
theorem oK {w0 w : World} {F : HP} {v : Value} {l : List Int} (H : V w0 w F) (hr : jF w0 F .i32 v l) (hb : l.length * 4 ≤ 140737488355328) :
    iE prog 71 #[v] w fun v' w' => V w0 w' (ku 21 .i32 v' l • F) := by
  obtain ⟨a, c, rfl, h1, h2, h3⟩ := (hr w H).open
  refine iZ func71 ntmps71 ?_
  refine jQ O (aN (bQ O (Z (Dj aj O O) ?_)))
  refine jB O (fun h1 => ?_) (fun h1 => ?_)
  · (try simp only [aA] at h1)
    refine jM O (aB (dL results71 O ?_))
    obtain rfl : a = none := by simpa using h1
    obtain rfl : l = [] := by
      cases l with
      | nil => rfl
      | cons x l => obtain ⟨b, o, e, _⟩ := h3 (by simp); cases e
    exact H.jk none
  · (try simp only [aA] at h1)
    refine gG (iR (kD (lq (vs := []) H aj bZ sH O O O (by decide) (by simp)) ?_))
    rintro _ w1 H1
    refine bT O (kD (nN (l := []) H1 (hr.under _ H1) aj Du O O (by simp; omega) (by simpa using hb)) ?_)
    rintro _ w2 H2
    refine fB O (dL results71 O ?_)
    exact H2
theorem YG {w0 w : World} {F : HP} {n : Int} (H : V w0 w F) (h0 : 0 ≤ n) (hb : n ≤ 70368744177664) :
  iE prog 195 #[.slice none 0 0, .int .i64 n] w fun v' w' => V w0 w' (ku 21 .i32 v' [] • F) := by
 refine oV func195 ntmps195 ?_
 refine jQ O (aN (bQ O (Z (fZ O O) (iJ (TN O (fun h1 => ?_))))))
 (try simp only [aA] at h1)
 refine gG (aN (bQ O (bT O (Z (ab7 aj O) (bT O (Z (jd aj O) (Z (iV O O (by omega)) (Z (iV O O (by omega)) (fG O (bQ O (Z (dY O O) (jB O (fun h2 => ?_) (fun h2 => ?_)))))))))))))
 ·(try simp only [aA] at h2)
  refine aC (jR O O (Z (ab7 aj O) (Z (xu aj bZ O O O (by omega)) ?_)))
  refine bT O (kD (JV H aj aH Du O O (by omega) (by omega) (by omega)) ?_)
  rintro _ w1 ⟨g, c, cur, rfl, hc1, hc2, hc3, H1⟩
  refine bT O (Z (jd aj O) (Z (xu aj bZ O O O (by omega)) ?_))
  refine fG O (bQ O (fB O (dL results195 O ?_)))
  exact H1.Ap (o := 0) (by simp) (NK 1 0 g 0 _ c) (by simp) hc2 (by simpa using hc3) (by simp)
 ·(try simp only [aA] at h2)
  refine gG (bQ O (fB O (dL results195 O ?_)))
  exact H.jk none
theorem TR {w0 w : World} {F : HP} {v : Value} {vs : List Value} {ls : List (List Int)} (H : V w0 w F) (hv : WI w0 F 1 v ls.length vs) (hls : ∀ k, k < ls.length → jF w0 F .i32 (vs.getD k undef) (ls.getD k [])) (hb : ls.flatten.length * 4 ≤ 140737488355328) :
  iE prog 172 #[v] w fun v' w' => V w0 w' (ku 21 .i32 v' ls.flatten • F) := by
 obtain ⟨_, a, c, rfl, hc1, hc2, _⟩ := hv w H
 refine iZ func172 ntmps172 ?_
 refine jQ O (jQ O (aN (bQ O (Z (jd iW O) (bT O (iJ (aY ?_)))))))
 refine gW [(0, _), (9, _), (10, _)] (fun (k : Nat) => [(3, .int .i64 ((ls.take k).flatten.length : Int)), (11, .int .i64 (k : Int))]) (fun (k : Nat) W => k ≤ ls.length ∧ V w0 W F) (fun (k : Nat) => ls.length - k) (0) uK (Sub.jv O (by simp) (Sub.jv O (O) (Sub.nil _))) ⟨by omega, H⟩ ?_
 rintro k w1 ⟨hk, HL⟩
 dsimp only [List.cons_append, List.nil_append]
 refine iR (Z (fZ O O) (qQ (bD O (fun h1 => ?_) (fun h1 => ?_))))
 ·(try simp only [aA] at h1)
  refine gG (aN (aY (aN ?_)))
  have hk1 : k < ls.length := by omega
  obtain ⟨b, o, rfl, hc⟩ := hv.cell HL (j := k) (by omega)
  obtain ⟨ak, ck, ek, hk2, hk3, _⟩ := (hls k hk1 _ HL).open
  rw [ek] at hc
  have hfl := OG ls (k + 1)
  rw [Ej ls hk1, List.length_append] at hfl
  refine aC (Z (dP iW dh O O (by omega)) ?_)
  refine Z (fK (dA aj O) O (by rw [show ((k : Int).toNat * 1) = k from by omega]; exact hc)) ?_
  refine fG O (bQ O (bT O (Z (jd aj O) (Z (fJ O O (by omega)) (fG O (bQ O (Z (fZ O O) (iJ (TN O (fun h2 => ?_))))))))))
  (try simp only [aA] at h2)
  refine cZ (aK (aX (aC (Z (fJ O O (by omega)) (bT O (bW ?_))))))
  refine dV (k + 1) ?_ ?_ ?_ ?_
  ·exact (Sub.jv O (by rw [Ej ls hk1, List.length_append, Int.natCast_add]) lU)
  ·exact uK
  ·(try dsimp only)
   first | done | exact ⟨by omega, HL⟩
  ·(try dsimp only); omega
 ·(try simp only [aA] at h1)
  refine dO (aO (aO (bI (aX (bQ O (dS O func195 (YG HL (by omega) (by have := OG ls k; omega)) ?_))))))
  rintro vg w2 H2
  refine uZ O (bQ O (Z (jd iW O) (bT O (iJ (aY ?_)))))
  refine gW [(25, _), (26, _)] (fun (⟨k, u⟩ : Nat × Value) => [(6, u), (27, .int .i64 (k : Int))]) (fun (⟨k, u⟩ : Nat × Value) W => k ≤ ls.length ∧ V w0 W (ku 21 .i32 u (ls.take k).flatten • F)) (fun (⟨k, u⟩ : Nat × Value) => ls.length - k) ((0, vg)) uJ uJ ⟨by omega, H2⟩ ?_
  rintro ⟨k, u⟩ w3 ⟨hk, HM⟩
  dsimp only [List.cons_append, List.nil_append]
  refine iR (Z (fZ O O) (qQ (bD O (fun h3 => ?_) (fun h3 => ?_))))
  ·(try simp only [aA] at h3)
   refine gG (aN (aY (aN ?_)))
   have hk1 : k < ls.length := by omega
   obtain ⟨b, o, rfl, hc⟩ := hv.cell HM.right (j := k) (by omega)
   have hrk := hls k hk1
   have hfl := OG ls (k + 1)
   rw [Ej ls hk1, List.length_append] at hfl
   refine aC (Z (dP iW dh O O (by omega)) ?_)
   refine Z (fK (dA aj O) O (by rw [show ((k : Int).toNat * 1) = k from by omega]; exact hc)) ?_
   refine fG O (aC (jR O O (kD (nN HM (hrk _ HM.right) aj Du O O (by omega) (by omega)) ?_)))
   rintro va w4 H4
   refine iK O (bW (aK (aX (aC (Z (fJ O O (by omega)) (bT O (bW ?_)))))))
   refine dV ((k + 1, va)) ?_ ?_ ?_ ?_
   ·exact uJ
   ·exact uJ
   ·(try dsimp only)
    first | done | exact ⟨by omega, by rw [Ej ls hk1]; exact H4⟩
   ·(try dsimp only); omega
  ·(try simp only [aA] at h3)
   refine dO (aO (aO (bI (aX (bQ O (fB O (dL results172 O ?_)))))))
   rw [List.take_of_length_le (by omega)] at HM; exact HM
theorem Dv {w0 w : World} {F : HP} {b : Nat} {T : TypeId} {u1 u2 : Value} {l1 l2 : List Int} (H : V w0 w (dW b (.cells #[u1, u2] T (0, 0)) • F)) (h1 : jF w0 (dW b (.cells #[u1, u2] T (0, 0)) • F) .i32 u1 l1) (h2 : jF w0 (dW b (.cells #[u1, u2] T (0, 0)) • F) .i32 u2 l2)
    (hb : (l1.length + l2.length) * 4 ≤ 140737488355328) :
    iE prog 172 #[.slice (some ⟨b, 0, none⟩) 2 2] w fun v' w' => V w0 w' (ku 21 .i32 v' (l1 ++ l2) • dW b (.cells #[u1, u2] T (0, 0)) • F) := by
  have := TR (ls := [l1, l2]) (vs := [u1, u2]) (v := .slice (some ⟨b, 0, none⟩) 2 2) H (fun W HW => ⟨rfl, _, 2, rfl, by simp, by decide, fun _ => ⟨b, 0, rfl, fun j hj => ?_⟩⟩) (fun k hk => ?_) (by simpa using hb)
  · simpa using this
  · refine kF HW.get.2 ?_
    simp at hj
    match j, hj with
    | 0, _ => rfl
    | 1, _ => rfl
  · simp at hk
    match k, hk with
    | 0, _ => exact h1
    | 1, _ => exact h2
end Go.Proofs.YtpdeedplgmbopaaGreatDoor
end
