import Derived.Test.YtpdeedplgmbopaaGreatDoorZ4
import Derived.Test.YtpdeedplgmbopaaGreatDoorProg
import Derived.Test.YtpdeedplgmbopaaGreatDoorRows
import Derived.Test.YtpdeedplgmbopaaGreatDoorTie
import Derived.Test.YtpdeedplgmbopaaGreatDoorZ3
set_option linter.unusedSimpArgs false
set_option linter.unusedVariables false
/- Texts of mine, joined, their names in short: Tab LaidT Laid LL Flat Equal. -/
section
namespace Go.Proofs.YtpdeedplgmbopaaGreatDoor
open Go.RowKit
open _root_.Go.Proofs.Tryz
def qK (r : Int) : Bool := decide (0 ≤ r ∧ r < 55296 ∨ 57343 < r ∧ r ≤ 1114111)
def oG (r : Int) : Bool := decide (0 ≤ r ∧ r < 32 ∨ 127 ≤ r ∧ r ≤ 159)
def within (r : Int) (T : List (Int × Int)) : Bool := T.any fun x => decide (x.1 ≤ r ∧ r ≤ x.2)
def ZM : List (Int × Int) := [(768, 879), (1155, 1161), (1425, 1469), (1552, 1562), (1611, 1631), (3633, 3633), (3636, 3642), (3655, 3662), (6832, 6911), (7616, 7679), (8203, 8207), (8400, 8447), (12441, 12442), (65024, 65039), (65056, 65071)]
def ZN : List (Int × Int) := [(4352, 4447), (11904, 12350), (12353, 13311), (13312, 19903), (19968, 40959), (40960, 42191), (44032, 55203), (63744, 64255), (65072, 65135), (65280, 65376), (65504, 65510), (127744, 128591), (129280, 129535), (131072, 262141)]
def GV (r : Int) : Int := if !qK r || oG r || within r ZM then 0 else if within r ZN then 2 else 1
def iC (r : Int) : Bool :=
  if r < 192 then decide (48 ≤ r ∧ r ≤ 57 ∨ 65 ≤ r ∧ r ≤ 90 ∨ 97 ≤ r ∧ r ≤ 122)
  else if r = 215 ∨ r = 247 ∨ r = 65533 ∨ 8192 ≤ r ∧ r ≤ 8303 ∨ 12288 ≤ r ∧ r ≤ 12351 ∨ 65280 ≤ r ∧ r ≤ 65295 then false
  else qK r && decide (0 < GV r)
theorem V.cell {w0 w : World} {F : HP} (H : V w0 w F) {a : Addr} {v : Value} (h : w0.cell? a = some v) : w.cell? a = some v := (H.base.cell (World.block_lt_of_cell? _ _ h)).trans h
theorem aaZ {w : World} {b o : Nat} {u v : Value} (h : w.cell? ⟨b, o, none⟩ = some u) (k : w.cell? ⟨b, o + 1, none⟩ = some v) : ∀ (j : Nat) x, ([u, v] : List Value)[j]? = some x → w.cell? ⟨b, o + j, none⟩ = some x := by
  intro j x hj
  match j, hj with
  | 0, hj => cases hj; exact h
  | 1, hj => cases hj; exact k
  | j + 2, hj => simp at hj
def zq (T : List (Int × Int)) : List Value := T.flatMap fun x => [.int .i32 x.1, .int .i32 x.2]
structure Bq (w : World) : Prop where
  aiW : Rd w 2 (.slice (some ⟨0, 0, none⟩) 15 15) 15 (zq ZM)
  aiX : Rd w 2 (.slice (some ⟨1, 0, none⟩) 14 14) 14 (zq ZN)
section
variable {w0 w : World} {F : HP} {r : Int}
theorem aa0 : jf prog 145 #[.int .i32 r] w fun v w' => v = .bool (qK r) ∧ w = w' := by
 refine jE func145 ntmps145 ?_
 refine kH O (aI (bf (bI O (aV (rQ O O) (jY O (fun h1 => ?_) (fun h1 => ?_))))))
 ·(try simp only [Z] at h1)
  try (exfalso; first | contradiction | omega)
  all_goals
   refine bF (bW O (bF (aV (gG O O) (jQ O O (fO O (bg O (fun h2 => ?_) (fun h2 => ?_)))))))
   ·(try simp only [Z] at h2)
    try (exfalso; first | contradiction | omega)
    all_goals
     refine jS O (aN (aC (dL wX O ?_)))
     refine ⟨?_, O⟩; congr 1; first | (symm; rw [qK, decide_eq_true_eq]; omega) | (symm; rw [qK, decide_eq_false_iff_not]; omega) | (rw [qK, decide_eq_decide]; omega)
   ·(try simp only [Z] at h2)
    try (exfalso; first | contradiction | omega)
    all_goals
     refine bI O (aV (gG O O) (jY O (fun h3 => ?_) (fun h3 => ?_)))
     ·(try simp only [Z] at h3)
      try (exfalso; first | contradiction | omega)
      all_goals
       refine bF (bW O (bF (aV (rQ O O) (jQ O O (fO O (bg O (fun h4 => ?_) (fun h4 => ?_)))))))
       ·(try simp only [Z] at h4)
        try (exfalso; first | contradiction | omega)
        all_goals
         refine jS O (aN (aC (dL wX O ?_)))
         refine ⟨?_, O⟩; congr 1; first | (symm; rw [qK, decide_eq_true_eq]; omega) | (symm; rw [qK, decide_eq_false_iff_not]; omega) | (rw [qK, decide_eq_decide]; omega)
       ·(try simp only [Z] at h4)
        try (exfalso; first | contradiction | omega)
        all_goals
         refine bU (aH (aU (jS O (dL wX O ?_))))
         refine ⟨?_, O⟩; congr 1; first | (symm; rw [qK, decide_eq_true_eq]; omega) | (symm; rw [qK, decide_eq_false_iff_not]; omega) | (rw [qK, decide_eq_decide]; omega)
     ·(try simp only [Z] at h3)
      try (exfalso; first | contradiction | omega)
      all_goals
       refine bK (bK (iH O O (fO O (oL (bU (aH (aU (jS O (dL wX O ?_)))))))))
       refine ⟨?_, O⟩; congr 1; first | (symm; rw [qK, decide_eq_true_eq]; omega) | (symm; rw [qK, decide_eq_false_iff_not]; omega) | (rw [qK, decide_eq_decide]; omega)
 ·(try simp only [Z] at h1)
  try (exfalso; first | contradiction | omega)
  all_goals
   refine bK (bK (iH O O (fO O (oL (bI O (aV (gG O O) (jY O (fun h5 => ?_) (fun h5 => ?_))))))))
   ·(try simp only [Z] at h5)
    try (exfalso; first | contradiction | omega)
    all_goals
     refine bF (bW O (bF (aV (rQ O O) (jQ O O (fO O (bg O (fun h6 => ?_) (fun h6 => ?_)))))))
     ·(try simp only [Z] at h6)
      try (exfalso; first | contradiction | omega)
      all_goals
       refine jS O (aN (aC (dL wX O ?_)))
       refine ⟨?_, O⟩; congr 1; first | (symm; rw [qK, decide_eq_true_eq]; omega) | (symm; rw [qK, decide_eq_false_iff_not]; omega) | (rw [qK, decide_eq_decide]; omega)
     ·(try simp only [Z] at h6)
      try (exfalso; first | contradiction | omega)
      all_goals
       refine bU (aH (aU (jS O (dL wX O ?_))))
       refine ⟨?_, O⟩; congr 1; first | (symm; rw [qK, decide_eq_true_eq]; omega) | (symm; rw [qK, decide_eq_false_iff_not]; omega) | (rw [qK, decide_eq_decide]; omega)
   ·(try simp only [Z] at h5)
    try (exfalso; first | contradiction | omega)
    all_goals
     refine bK (bK (iH O O (fO O (oL (bU (aH (aU (jS O (dL wX O ?_)))))))))
     refine ⟨?_, O⟩; congr 1; first | (symm; rw [qK, decide_eq_true_eq]; omega) | (symm; rw [qK, decide_eq_false_iff_not]; omega) | (rw [qK, decide_eq_decide]; omega)
theorem Ac : jf prog 103 #[.int .i32 r] w fun v w' => v = .bool (qK r) ∧ w = w' := by
  refine jE func103 ntmps103 ?_
  refine kH O (bI O (dX O func145 (aa0) ?_))
  rintro _ _ ⟨rfl, rfl⟩
  refine fP O (dL results103 O ?_)
  exact ⟨O, O⟩
theorem VD : jf prog 146 #[.int .i32 r] w fun v w' => v = .bool (oG r) ∧ w = w' := by
  refine jE func146 ntmps146 ?_
  refine kH O (bI O (aV (mJ O O) (jY O (fun h1 => ?_) (fun h1 => ?_))))
  · (try simp only [Z] at h1)
    try (exfalso; first | contradiction | omega)
    all_goals
      refine bF (bW O (bF (aV (gG O O) (jQ O O (jY O (fun h2 => ?_) (fun h2 => ?_))))))
      · (try simp only [Z] at h2)
        try (exfalso; first | contradiction | omega)
        all_goals
          refine bK (bK (bK (ni (ni (bK (jQ O O (fP O (dL results146 O ?_))))))))
          refine ⟨?_, O⟩; congr 1; first | (symm; rw [oG, decide_eq_true_eq]; omega) | (symm; rw [oG, decide_eq_false_iff_not]; omega) | (rw [oG, decide_eq_decide]; omega)
      · (try simp only [Z] at h2)
        try (exfalso; first | contradiction | omega)
        all_goals
          refine bF (bW O (bF (aV (mJ O O) (bF (jY O (fun h3 => ?_) (fun h3 => ?_))))))
          · (try simp only [Z] at h3)
            try (exfalso; first | contradiction | omega)
            all_goals
              refine bF (bW O (bF (aV (rQ O O) (bF (jQ O O (iH O O (fP O (dL results146 O ?_))))))))
              refine ⟨?_, O⟩; congr 1; first | (symm; rw [oG, decide_eq_true_eq]; omega) | (symm; rw [oG, decide_eq_false_iff_not]; omega) | (rw [oG, decide_eq_decide]; omega)
          · (try simp only [Z] at h3)
            try (exfalso; first | contradiction | omega)
            all_goals
              refine bK (bK (bF (iH O O (iH O O (fP O (dL results146 O ?_))))))
              refine ⟨?_, O⟩; congr 1; first | (symm; rw [oG, decide_eq_true_eq]; omega) | (symm; rw [oG, decide_eq_false_iff_not]; omega) | (rw [oG, decide_eq_decide]; omega)
  · (try simp only [Z] at h1)
    try (exfalso; first | contradiction | omega)
    all_goals
      refine bK (bK (iH O O (bW O (bF (bW O (bF (aV (mJ O O) (bF (jY O (fun h4 => ?_) (fun h4 => ?_))))))))))
      · (try simp only [Z] at h4)
        try (exfalso; first | contradiction | omega)
        all_goals
          refine bF (bW O (bF (aV (rQ O O) (bF (jQ O O (iH O O (fP O (dL results146 O ?_))))))))
          refine ⟨?_, O⟩; congr 1; first | (symm; rw [oG, decide_eq_true_eq]; omega) | (symm; rw [oG, decide_eq_false_iff_not]; omega) | (rw [oG, decide_eq_decide]; omega)
      · (try simp only [Z] at h4)
        try (exfalso; first | contradiction | omega)
        all_goals
          refine bK (bK (bF (iH O O (iH O O (fP O (dL results146 O ?_))))))
          refine ⟨?_, O⟩; congr 1; first | (symm; rw [oG, decide_eq_true_eq]; omega) | (symm; rw [oG, decide_eq_false_iff_not]; omega) | (rw [oG, decide_eq_decide]; omega)
theorem Uh (T : List (Int × Int)) : (zq T).length = T.length * 2 := by
  induction T with
  | nil => rfl
  | cons x r ih => simp only [zq, List.flatMap_cons, List.length_append] at *; simp [ih]; omega
theorem OD (T : List (Int × Int)) (k : Nat) (h : k < T.length) : (zq T).getD (k * 2) undef = .int .i32 (T.getD k (0, 0)).1 ∧ (zq T).getD (k * 2 + 1) undef = .int .i32 (T.getD k (0, 0)).2 := by
  induction T generalizing k with
  | nil => simp at h
  | cons x r ih =>
    cases k with
    | zero => exact ⟨rfl, rfl⟩
    | succ k =>
      have := ih k (by simpa using h)
      rw [show (k + 1) * 2 = k * 2 + 2 from by omega, show k * 2 + 2 + 1 = (k * 2 + 1) + 2 from by omega]
      simpa [zq, List.getD_eq_getElem?_getD] using this
theorem MV {r : Int} {T : List (Int × Int)} {k : Nat} (h : k < T.length) : within r (T.take (k + 1)) = (within r (T.take k) || decide ((T.getD k (0, 0)).1 ≤ r ∧ r ≤ (T.getD k (0, 0)).2)) := by
  unfold within
  rw [List.take_succ_eq_append_getElem h, List.any_append]
  simp [List.getD_eq_getElem?_getD, h]
theorem Yl {r : Int} {T : List (Int × Int)} {k : Nat} (h : k < T.length) (hk : (T.getD k (0, 0)).1 ≤ r ∧ r ≤ (T.getD k (0, 0)).2) : within r T = true := by
  unfold within
  rw [List.any_eq_true]
  refine ⟨T.getD k (0, 0), ?_, by simpa using hk⟩
  rw [List.getD_eq_getElem?_getD, List.getElem?_eq_getElem h]
  exact List.getElem_mem h
theorem OE {v : Value} {T : List (Int × Int)} (H : V w0 w F) (hr : Rd w0 2 v T.length (zq T)) (hT : T.length < 1000000) :
  jf prog 147 #[.int .i32 r, v] w fun v w' => v = .bool (within r T) ∧ V w0 w' F := by
 obtain ⟨hlen, a, c, rfl, hc1, hc2, hcell⟩ := hr
 refine qo func147 ntmps147 ?_
 refine kH O (aI (bI O (aV (jd underlying211 O) (bW O (iR (bf ?_))))))
 refine iy [(0, _), (7, _), (8, _)] (fun (k : Nat) => [(9, .int .i64 (k : Int))]) (fun (k : Nat) W => k ≤ T.length ∧ within r (T.take k) = false ∧ V w0 W F) (fun (k : Nat) => T.length - k) (0) wW lH ⟨by omega, O, H⟩ ?_
 rintro k w1 ⟨hk, hno, HL⟩
 dsimp only [List.cons_append, List.nil_append]
 refine jg (aV (gG O O) (rW (bg O (fun h1 => ?_) (fun h1 => ?_))))
 ·(try simp only [Z] at h1)
  try (exfalso; first | contradiction | omega)
  all_goals
   refine gy (aI (bf (aI ?_)))
   have hk1 : k < T.length := by omega
   obtain ⟨b0, o, rfl, hq⟩ := hcell (by omega)
   have hq0 := hq (k * 2) (by omega)
   have hq1 := hq (k * 2 + 1) (by omega)
   rw [(OD T k hk1).1] at hq0
   rw [(OD T k hk1).2] at hq1
   rw [← Nat.add_assoc] at hq1
   refine aF (aV (dI underlying211 sizeOf213 O O (by omega)) ?_)
   refine aV (FH (cs := [.int .i32 (T.getD k (0, 0)).1, .int .i32 (T.getD k (0, 0)).2]) (by rw [underlying213]; rfl) (Vw underlying213 O) sizeOf213 O O (aaZ (by rw [show ((k : Int).toNat * 2) = k * 2 from by omega]; exact HL.cell hq0) (by rw [show ((k : Int).toNat * 2) = k * 2 from by omega]; exact HL.cell hq1))) ?_
   refine kV (Ea HL zeroValue213) ?_
   rintro _ w2 ⟨b2, rfl, H2⟩
   refine aQ (jq (cs := #[.int .i32 (T.getD k (0, 0)).1, .int .i32 (T.getD k (0, 0)).2]) H2 sizeOf213 O O O O (by simp [Value.oneCell'])) ?_
   rintro _ w3 H3
   have HN := H3.right
   refine uS O (bM 0 underlying213 O bP O (eH bC O H3.get.2 O (aV (mJ O O) (jY O (fun h2 => ?_) (fun h2 => ?_)))))
   ·(try simp only [Z] at h2)
    try (exfalso; first | contradiction | omega)
    all_goals
     refine bF (bW O (bF (bM 1 underlying213 O bP O (bF (eH bC O H3.get.2 O (bF (aV (rQ O O) (jQ O O (iW O (fun h3 => ?_) (fun h3 => ?_))))))))))
     ·(try simp only [Z] at h3)
      try (exfalso; first | contradiction | omega)
      all_goals
       refine jS O (aN (aC (aC (aN (aC (dL results147 O ?_))))))
       exact ⟨by rw [Yl hk1 (by omega)], HN⟩
     ·(try simp only [Z] at h3)
      try (exfalso; first | contradiction | omega)
      all_goals
       refine bU (aH (aU (aF (aV (fH O O (by omega)) (bW O (bT ?_))))))
       refine dN (k + 1) ?_ ?_ ?_ ?_
       ·exact lH
       ·exact wW
       ·(try dsimp only)
        first | done | exact ⟨by omega, by rw [MV hk1, hno, Bool.false_or, decide_eq_false_iff_not]; omega, HN⟩
       ·(try dsimp only); omega
   ·(try simp only [Z] at h2)
    try (exfalso; first | contradiction | omega)
    all_goals
     refine bK (bK (bK (bK (iH O O (iR (oL (bU (aH (aU (aF (aV (fH O O (by omega)) (bW O (bT ?_)))))))))))))
     refine dN (k + 1) ?_ ?_ ?_ ?_
     ·exact lH
     ·exact wW
     ·(try dsimp only)
      first | done | exact ⟨by omega, by rw [MV hk1, hno, Bool.false_or, decide_eq_false_iff_not]; omega, HN⟩
     ·(try dsimp only); omega
 ·(try simp only [Z] at h1)
  try (exfalso; first | contradiction | omega)
  all_goals
   refine dR (aP (aP (bH (aU (jS O (dL results147 O ?_))))))
   exact ⟨by rw [← hno, List.take_of_length_le (by omega)], HL⟩
theorem rX (H : V w0 w F) (hT : Bq w0) : jf prog 104 #[.int .i32 r] w fun v w' => v = .int .i64 (GV r) ∧ V w0 w' F := by
 refine jE func104 ntmps104 ?_
 refine kH O (aI (bf (bI O (dX O func103 (Ac) ?_))))
 rintro _ _ ⟨rfl, rfl⟩
 refine aV (jR O) (jY O (fun h1 => ?_) (fun h1 => ?_))
 ·(try simp only [Z] at h1)
  try (exfalso; first | contradiction | omega)
  all_goals
   refine bK (bK (jQ O O (bW O (bK (bK (bK (jQ O O (fO O (ET (jS O (aN (aC (dL results104 O ?_)))))))))))))
   exact ⟨by unfold GV; simp [*], H⟩
 ·(try simp only [Z] at h1)
  try (exfalso; first | contradiction | omega)
  all_goals
   refine bF (bW O (bF (dX O func146 (VD) ?_)))
   rintro _ _ ⟨rfl, rfl⟩
   refine iH O O (jY O (fun h2 => ?_) (fun h2 => ?_))
   ·(try simp only [Z] at h2)
    try (exfalso; first | contradiction | omega)
    all_goals
     refine bK (bK (bK (jQ O O (fO O (ET (jS O (aN (aC (dL results104 O ?_)))))))))
     exact ⟨by unfold GV; simp [*], H⟩
   ·(try simp only [Z] at h2)
    try (exfalso; first | contradiction | omega)
    all_goals
     refine bF (bW O (bF (aV (MS underlying214 sizeOf213 O) ?_)))
     refine bF (dX O func147 (OE (T := ZM) H hT.aiW (by decide)) ?_)
     rintro _ w3 ⟨rfl, H3⟩
     refine iH O O (fO O (bg O (fun h3 => ?_) (fun h3 => ?_)))
     ·(try simp only [Z] at h3)
      try (exfalso; first | contradiction | omega)
      all_goals
       refine jS O (aN (aC (dL results104 O ?_)))
       exact ⟨by unfold GV; simp [*], H3⟩
     ·(try simp only [Z] at h3)
      try (exfalso; first | contradiction | omega)
      all_goals
       refine bI O (aV (MS underlying215 sizeOf213 O) ?_)
       refine dX O func147 (OE (T := ZN) H3 hT.aiX (by decide)) ?_
       rintro _ w4 ⟨rfl, H4⟩
       refine fO O (bg O (fun h4 => ?_) (fun h4 => ?_))
       ·(try simp only [Z] at h4)
        try (exfalso; first | contradiction | omega)
        all_goals
         refine jS O (aN (aC (dL results104 O ?_)))
         exact ⟨by unfold GV; simp [*], H4⟩
       ·(try simp only [Z] at h4)
        try (exfalso; first | contradiction | omega)
        all_goals
         refine bU (aH (aU (jS O (dL results104 O ?_))))
         exact ⟨by unfold GV; simp [*], H4⟩
theorem Ym (H : V w0 w F) (hT : Bq w0) : jf prog 47 #[.int .i32 r] w fun v w' => v = .bool (iC r) ∧ V w0 w' F := by
 refine jE func47 ntmps47 ?_
 refine kH O (aI (bI O (aV (gG O O) (iW O (fun h1 => ?_) (fun h1 => ?_)))))
 ·(try simp only [Z] at h1)
  try (exfalso; first | contradiction | omega)
  all_goals
   refine bI O (aV (mJ O O) (jY O (fun h2 => ?_) (fun h2 => ?_)))
   ·(try simp only [Z] at h2)
    try (exfalso; first | contradiction | omega)
    all_goals
     refine bF (bW O (bF (aV (rQ O O) (jQ O O (jY O (fun h3 => ?_) (fun h3 => ?_))))))
     ·(try simp only [Z] at h3)
      try (exfalso; first | contradiction | omega)
      all_goals
       refine bK (bK (bK (ni (ni (bK (jQ O O (bW O (bK (bK (bK (ni (ni (bK (jQ O O (fP O (aC (dL eF O ?_)))))))))))))))))
       refine ⟨?_, H⟩; congr 1; rw [iC, if_pos (by omega)]; first | (symm; rw [decide_eq_true_eq]; omega) | (symm; rw [decide_eq_false_iff_not]; omega) | (rw [decide_eq_decide]; omega)
     ·(try simp only [Z] at h3)
      try (exfalso; first | contradiction | omega)
      all_goals
       refine bF (bW O (bF (aV (mJ O O) (bF (jY O (fun h4 => ?_) (fun h4 => ?_))))))
       ·(try simp only [Z] at h4)
        try (exfalso; first | contradiction | omega)
        all_goals
         refine bF (bW O (bF (aV (rQ O O) (bF (jQ O O (iH O O (jY O (fun h5 => ?_) (fun h5 => ?_))))))))
         ·(try simp only [Z] at h5)
          try (exfalso; first | contradiction | omega)
          all_goals
           refine bK (bK (bK (ni (ni (bK (jQ O O (fP O (aC (dL eF O ?_)))))))))
           refine ⟨?_, H⟩; congr 1; rw [iC, if_pos (by omega)]; first | (symm; rw [decide_eq_true_eq]; omega) | (symm; rw [decide_eq_false_iff_not]; omega) | (rw [decide_eq_decide]; omega)
         ·(try simp only [Z] at h5)
          try (exfalso; first | contradiction | omega)
          all_goals
           refine bF (bW O (bF (aV (mJ O O) (bF (jY O (fun h6 => ?_) (fun h6 => ?_))))))
           ·(try simp only [Z] at h6)
            try (exfalso; first | contradiction | omega)
            all_goals
             refine bF (bW O (bF (aV (rQ O O) (bF (jQ O O (iH O O (fP O (aC (dL eF O ?_)))))))))
             refine ⟨?_, H⟩; congr 1; rw [iC, if_pos (by omega)]; first | (symm; rw [decide_eq_true_eq]; omega) | (symm; rw [decide_eq_false_iff_not]; omega) | (rw [decide_eq_decide]; omega)
           ·(try simp only [Z] at h6)
            try (exfalso; first | contradiction | omega)
            all_goals
             refine bK (bK (bF (iH O O (iH O O (fP O (aC (dL eF O ?_)))))))
             refine ⟨?_, H⟩; congr 1; rw [iC, if_pos (by omega)]; first | (symm; rw [decide_eq_true_eq]; omega) | (symm; rw [decide_eq_false_iff_not]; omega) | (rw [decide_eq_decide]; omega)
       ·(try simp only [Z] at h4)
        try (exfalso; first | contradiction | omega)
        all_goals
         refine bK (bK (bF (iH O O (iH O O (bW O (bF (bW O (bF (aV (mJ O O) (bF (jY O (fun h7 => ?_) (fun h7 => ?_))))))))))))
         ·(try simp only [Z] at h7)
          try (exfalso; first | contradiction | omega)
          all_goals
           refine bF (bW O (bF (aV (rQ O O) (bF (jQ O O (iH O O (fP O (aC (dL eF O ?_)))))))))
           refine ⟨?_, H⟩; congr 1; rw [iC, if_pos (by omega)]; first | (symm; rw [decide_eq_true_eq]; omega) | (symm; rw [decide_eq_false_iff_not]; omega) | (rw [decide_eq_decide]; omega)
         ·(try simp only [Z] at h7)
          try (exfalso; first | contradiction | omega)
          all_goals
           refine bK (bK (bF (iH O O (iH O O (fP O (aC (dL eF O ?_)))))))
           refine ⟨?_, H⟩; congr 1; rw [iC, if_pos (by omega)]; first | (symm; rw [decide_eq_true_eq]; omega) | (symm; rw [decide_eq_false_iff_not]; omega) | (rw [decide_eq_decide]; omega)
   ·(try simp only [Z] at h2)
    try (exfalso; first | contradiction | omega)
    all_goals
     refine bK (bK (iH O O (bW O (bF (bW O (bF (aV (mJ O O) (bF (jY O (fun h8 => ?_) (fun h8 => ?_))))))))))
     ·(try simp only [Z] at h8)
      try (exfalso; first | contradiction | omega)
      all_goals
       refine bF (bW O (bF (aV (rQ O O) (bF (jQ O O (iH O O (jY O (fun h9 => ?_) (fun h9 => ?_))))))))
       ·(try simp only [Z] at h9)
        try (exfalso; first | contradiction | omega)
        all_goals
         refine bK (bK (bK (ni (ni (bK (jQ O O (fP O (aC (dL eF O ?_)))))))))
         refine ⟨?_, H⟩; congr 1; rw [iC, if_pos (by omega)]; first | (symm; rw [decide_eq_true_eq]; omega) | (symm; rw [decide_eq_false_iff_not]; omega) | (rw [decide_eq_decide]; omega)
       ·(try simp only [Z] at h9)
        try (exfalso; first | contradiction | omega)
        all_goals
         refine bF (bW O (bF (aV (mJ O O) (bF (jY O (fun h10 => ?_) (fun h10 => ?_))))))
         ·(try simp only [Z] at h10)
          try (exfalso; first | contradiction | omega)
          all_goals
           refine bF (bW O (bF (aV (rQ O O) (bF (jQ O O (iH O O (fP O (aC (dL eF O ?_)))))))))
           refine ⟨?_, H⟩; congr 1; rw [iC, if_pos (by omega)]; first | (symm; rw [decide_eq_true_eq]; omega) | (symm; rw [decide_eq_false_iff_not]; omega) | (rw [decide_eq_decide]; omega)
         ·(try simp only [Z] at h10)
          try (exfalso; first | contradiction | omega)
          all_goals
           refine bK (bK (bF (iH O O (iH O O (fP O (aC (dL eF O ?_)))))))
           refine ⟨?_, H⟩; congr 1; rw [iC, if_pos (by omega)]; first | (symm; rw [decide_eq_true_eq]; omega) | (symm; rw [decide_eq_false_iff_not]; omega) | (rw [decide_eq_decide]; omega)
     ·(try simp only [Z] at h8)
      try (exfalso; first | contradiction | omega)
      all_goals
       refine bK (bK (bF (iH O O (iH O O (bW O (bF (bW O (bF (aV (mJ O O) (bF (jY O (fun h11 => ?_) (fun h11 => ?_))))))))))))
       ·(try simp only [Z] at h11)
        try (exfalso; first | contradiction | omega)
        all_goals
         refine bF (bW O (bF (aV (rQ O O) (bF (jQ O O (iH O O (fP O (aC (dL eF O ?_)))))))))
         refine ⟨?_, H⟩; congr 1; rw [iC, if_pos (by omega)]; first | (symm; rw [decide_eq_true_eq]; omega) | (symm; rw [decide_eq_false_iff_not]; omega) | (rw [decide_eq_decide]; omega)
       ·(try simp only [Z] at h11)
        try (exfalso; first | contradiction | omega)
        all_goals
         refine bK (bK (bF (iH O O (iH O O (fP O (aC (dL eF O ?_)))))))
         refine ⟨?_, H⟩; congr 1; rw [iC, if_pos (by omega)]; first | (symm; rw [decide_eq_true_eq]; omega) | (symm; rw [decide_eq_false_iff_not]; omega) | (rw [decide_eq_decide]; omega)
 ·(try simp only [Z] at h1)
  try (exfalso; first | contradiction | omega)
  all_goals
   refine gy (aI (bf (aI (bI O (aV (fB O O) (jY O (fun h12 => ?_) (fun h12 => ?_)))))))
   ·(try simp only [Z] at h12)
    try (exfalso; first | contradiction | omega)
    all_goals
     refine bK (bK (jQ O O (bW O (bK (bK (jQ O O (fO O (ET (gy (ET (jS O (aN (aC (dL eF O ?_))))))))))))))
     refine ⟨?_, H⟩; congr 1; rw [iC, if_neg (by omega), if_pos (by omega)]
   ·(try simp only [Z] at h12)
    try (exfalso; first | contradiction | omega)
    all_goals
     refine bF (bW O (bF (aV (fB O O) (iH O O (jY O (fun h13 => ?_) (fun h13 => ?_))))))
     ·(try simp only [Z] at h13)
      try (exfalso; first | contradiction | omega)
      all_goals
       refine bK (bK (jQ O O (fO O (ET (gy (ET (jS O (aN (aC (dL eF O ?_))))))))))
       refine ⟨?_, H⟩; congr 1; rw [iC, if_neg (by omega), if_pos (by omega)]
     ·(try simp only [Z] at h13)
      try (exfalso; first | contradiction | omega)
      all_goals
       refine bF (bW O (bF (aV (fB O O) (iH O O (fO O (bg O (fun h14 => ?_) (fun h14 => ?_)))))))
       ·(try simp only [Z] at h14)
        try (exfalso; first | contradiction | omega)
        all_goals
         refine gy (bg O (fun h15 => ?_) (fun h15 => ?_))
         ·(try simp only [Z] at h15)
          try (exfalso; first | contradiction | omega)
          all_goals
           refine jS O (aN (aC (dL eF O ?_)))
           refine ⟨?_, H⟩; congr 1; rw [iC, if_neg (by omega), if_pos (by omega)]
         ·(try simp only [Z] at h15)
          try (exfalso; first | contradiction | omega)
          all_goals
           refine bU (aH (aU (bI O (dX O func103 (Ac) ?_))))
           rintro _ _ ⟨rfl, rfl⟩
           refine jY O (fun h16 => ?_) (fun h16 => ?_)
           ·(try simp only [Z] at h16)
            try (exfalso; first | contradiction | omega)
            all_goals
             refine bF (bW O (bF (dX O func104 (rX H hT) ?_)))
             rintro _ w2 ⟨rfl, H2⟩
             refine bF (aV (gK O O) (jQ O O (fP O (dL eF O ?_))))
             refine ⟨?_, H2⟩; congr 1; rw [iC, if_neg (by omega), if_neg (by omega)]; simp [*]
           ·(try simp only [Z] at h16)
            try (exfalso; first | contradiction | omega)
            all_goals
             refine bK (bK (bK (iH O O (fP O (dL eF O ?_)))))
             refine ⟨?_, H⟩; congr 1; rw [iC, if_neg (by omega), if_neg (by omega)]; simp [*]
       ·(try simp only [Z] at h14)
        try (exfalso; first | contradiction | omega)
        all_goals
         refine bI O (aV (mJ O O) (jY O (fun h17 => ?_) (fun h17 => ?_)))
         ·(try simp only [Z] at h17)
          try (exfalso; first | contradiction | omega)
          all_goals
           refine bF (bW O (bF (aV (rQ O O) (jQ O O (fO O (bg O (fun h18 => ?_) (fun h18 => ?_)))))))
           ·(try simp only [Z] at h18)
            try (exfalso; first | contradiction | omega)
            all_goals
             refine gy (bg O (fun h19 => ?_) (fun h19 => ?_))
             ·(try simp only [Z] at h19)
              try (exfalso; first | contradiction | omega)
              all_goals
               refine jS O (aN (aC (dL eF O ?_)))
               refine ⟨?_, H⟩; congr 1; rw [iC, if_neg (by omega), if_pos (by omega)]
             ·(try simp only [Z] at h19)
              try (exfalso; first | contradiction | omega)
              all_goals
               refine bU (aH (aU (bI O (dX O func103 (Ac) ?_))))
               rintro _ _ ⟨rfl, rfl⟩
               refine jY O (fun h20 => ?_) (fun h20 => ?_)
               ·(try simp only [Z] at h20)
                try (exfalso; first | contradiction | omega)
                all_goals
                 refine bF (bW O (bF (dX O func104 (rX H hT) ?_)))
                 rintro _ w4 ⟨rfl, H4⟩
                 refine bF (aV (gK O O) (jQ O O (fP O (dL eF O ?_))))
                 refine ⟨?_, H4⟩; congr 1; rw [iC, if_neg (by omega), if_neg (by omega)]; simp [*]
               ·(try simp only [Z] at h20)
                try (exfalso; first | contradiction | omega)
                all_goals
                 refine bK (bK (bK (iH O O (fP O (dL eF O ?_)))))
                 refine ⟨?_, H⟩; congr 1; rw [iC, if_neg (by omega), if_neg (by omega)]; simp [*]
           ·(try simp only [Z] at h18)
            try (exfalso; first | contradiction | omega)
            all_goals
             refine bI O (aV (mJ O O) (jY O (fun h21 => ?_) (fun h21 => ?_)))
             ·(try simp only [Z] at h21)
              try (exfalso; first | contradiction | omega)
              all_goals
               refine bF (bW O (bF (aV (rQ O O) (jQ O O (fO O (bg O (fun h22 => ?_) (fun h22 => ?_)))))))
               ·(try simp only [Z] at h22)
                try (exfalso; first | contradiction | omega)
                all_goals
                 refine gy (bg O (fun h23 => ?_) (fun h23 => ?_))
                 ·(try simp only [Z] at h23)
                  try (exfalso; first | contradiction | omega)
                  all_goals
                   refine jS O (aN (aC (dL eF O ?_)))
                   refine ⟨?_, H⟩; congr 1; rw [iC, if_neg (by omega), if_pos (by omega)]
                 ·(try simp only [Z] at h23)
                  try (exfalso; first | contradiction | omega)
                  all_goals
                   refine bU (aH (aU (bI O (dX O func103 (Ac) ?_))))
                   rintro _ _ ⟨rfl, rfl⟩
                   refine jY O (fun h24 => ?_) (fun h24 => ?_)
                   ·(try simp only [Z] at h24)
                    try (exfalso; first | contradiction | omega)
                    all_goals
                     refine bF (bW O (bF (dX O func104 (rX H hT) ?_)))
                     rintro _ w6 ⟨rfl, H6⟩
                     refine bF (aV (gK O O) (jQ O O (fP O (dL eF O ?_))))
                     refine ⟨?_, H6⟩; congr 1; rw [iC, if_neg (by omega), if_neg (by omega)]; simp [*]
                   ·(try simp only [Z] at h24)
                    try (exfalso; first | contradiction | omega)
                    all_goals
                     refine bK (bK (bK (iH O O (fP O (dL eF O ?_)))))
                     refine ⟨?_, H⟩; congr 1; rw [iC, if_neg (by omega), if_neg (by omega)]; simp [*]
               ·(try simp only [Z] at h22)
                try (exfalso; first | contradiction | omega)
                all_goals
                 refine aF (bW O (aV (mJ O O) (jY O (fun h25 => ?_) (fun h25 => ?_))))
                 ·(try simp only [Z] at h25)
                  try (exfalso; first | contradiction | omega)
                  all_goals
                   refine bF (bW O (bF (aV (rQ O O) (jQ O O (fO O (bg O (fun h26 => ?_) (fun h26 => ?_)))))))
                   ·(try simp only [Z] at h26)
                    try (exfalso; first | contradiction | omega)
                    all_goals
                     refine jS O (aN (aC (dL eF O ?_)))
                     refine ⟨?_, H⟩; congr 1; rw [iC, if_neg (by omega), if_pos (by omega)]
                   ·(try simp only [Z] at h26)
                    try (exfalso; first | contradiction | omega)
                    all_goals
                     refine bU (aH (aU (bI O (dX O func103 (Ac) ?_))))
                     rintro _ _ ⟨rfl, rfl⟩
                     refine jY O (fun h27 => ?_) (fun h27 => ?_)
                     ·(try simp only [Z] at h27)
                      try (exfalso; first | contradiction | omega)
                      all_goals
                       refine bF (bW O (bF (dX O func104 (rX H hT) ?_)))
                       rintro _ w8 ⟨rfl, H8⟩
                       refine bF (aV (gK O O) (jQ O O (fP O (dL eF O ?_))))
                       refine ⟨?_, H8⟩; congr 1; rw [iC, if_neg (by omega), if_neg (by omega)]; simp [*]
                     ·(try simp only [Z] at h27)
                      try (exfalso; first | contradiction | omega)
                      all_goals
                       refine bK (bK (bK (iH O O (fP O (dL eF O ?_)))))
                       refine ⟨?_, H⟩; congr 1; rw [iC, if_neg (by omega), if_neg (by omega)]; simp [*]
                 ·(try simp only [Z] at h25)
                  try (exfalso; first | contradiction | omega)
                  all_goals
                   refine bK (bK (iH O O (fO O (oL (bU (aH (aU (bI O (dX O func103 (Ac) ?_)))))))))
                   rintro _ _ ⟨rfl, rfl⟩
                   refine jY O (fun h28 => ?_) (fun h28 => ?_)
                   ·(try simp only [Z] at h28)
                    try (exfalso; first | contradiction | omega)
                    all_goals
                     refine bF (bW O (bF (dX O func104 (rX H hT) ?_)))
                     rintro _ w10 ⟨rfl, pG⟩
                     refine bF (aV (gK O O) (jQ O O (fP O (dL eF O ?_))))
                     refine ⟨?_, pG⟩; congr 1; rw [iC, if_neg (by omega), if_neg (by omega)]; simp [*]
                   ·(try simp only [Z] at h28)
                    try (exfalso; first | contradiction | omega)
                    all_goals
                     refine bK (bK (bK (iH O O (fP O (dL eF O ?_)))))
                     refine ⟨?_, H⟩; congr 1; rw [iC, if_neg (by omega), if_neg (by omega)]; simp [*]
             ·(try simp only [Z] at h21)
              try (exfalso; first | contradiction | omega)
              all_goals
               refine bK (bK (iH O O (fO O (oL (aF (bW O (aV (mJ O O) (jY O (fun h29 => ?_) (fun h29 => ?_)))))))))
               ·(try simp only [Z] at h29)
                try (exfalso; first | contradiction | omega)
                all_goals
                 refine bF (bW O (bF (aV (rQ O O) (jQ O O (fO O (bg O (fun h30 => ?_) (fun h30 => ?_)))))))
                 ·(try simp only [Z] at h30)
                  try (exfalso; first | contradiction | omega)
                  all_goals
                   refine jS O (aN (aC (dL eF O ?_)))
                   refine ⟨?_, H⟩; congr 1; rw [iC, if_neg (by omega), if_pos (by omega)]
                 ·(try simp only [Z] at h30)
                  try (exfalso; first | contradiction | omega)
                  all_goals
                   refine bU (aH (aU (bI O (dX O func103 (Ac) ?_))))
                   rintro _ _ ⟨rfl, rfl⟩
                   refine jY O (fun h31 => ?_) (fun h31 => ?_)
                   ·(try simp only [Z] at h31)
                    try (exfalso; first | contradiction | omega)
                    all_goals
                     refine bF (bW O (bF (dX O func104 (rX H hT) ?_)))
                     rintro _ w12 ⟨rfl, wQ⟩
                     refine bF (aV (gK O O) (jQ O O (fP O (dL eF O ?_))))
                     refine ⟨?_, wQ⟩; congr 1; rw [iC, if_neg (by omega), if_neg (by omega)]; simp [*]
                   ·(try simp only [Z] at h31)
                    try (exfalso; first | contradiction | omega)
                    all_goals
                     refine bK (bK (bK (iH O O (fP O (dL eF O ?_)))))
                     refine ⟨?_, H⟩; congr 1; rw [iC, if_neg (by omega), if_neg (by omega)]; simp [*]
               ·(try simp only [Z] at h29)
                try (exfalso; first | contradiction | omega)
                all_goals
                 refine bK (bK (iH O O (fO O (oL (bU (aH (aU (bI O (dX O func103 (Ac) ?_)))))))))
                 rintro _ _ ⟨rfl, rfl⟩
                 refine jY O (fun h32 => ?_) (fun h32 => ?_)
                 ·(try simp only [Z] at h32)
                  try (exfalso; first | contradiction | omega)
                  all_goals
                   refine bF (bW O (bF (dX O func104 (rX H hT) ?_)))
                   rintro _ OG ⟨rfl, rU⟩
                   refine bF (aV (gK O O) (jQ O O (fP O (dL eF O ?_))))
                   refine ⟨?_, rU⟩; congr 1; rw [iC, if_neg (by omega), if_neg (by omega)]; simp [*]
                 ·(try simp only [Z] at h32)
                  try (exfalso; first | contradiction | omega)
                  all_goals
                   refine bK (bK (bK (iH O O (fP O (dL eF O ?_)))))
                   refine ⟨?_, H⟩; congr 1; rw [iC, if_neg (by omega), if_neg (by omega)]; simp [*]
         ·(try simp only [Z] at h17)
          try (exfalso; first | contradiction | omega)
          all_goals
           refine bK (bK (iH O O (fO O (oL (bI O (aV (mJ O O) (jY O (fun h33 => ?_) (fun h33 => ?_))))))))
           ·(try simp only [Z] at h33)
            try (exfalso; first | contradiction | omega)
            all_goals
             refine bF (bW O (bF (aV (rQ O O) (jQ O O (fO O (bg O (fun h34 => ?_) (fun h34 => ?_)))))))
             ·(try simp only [Z] at h34)
              try (exfalso; first | contradiction | omega)
              all_goals
               refine gy (bg O (fun h35 => ?_) (fun h35 => ?_))
               ·(try simp only [Z] at h35)
                try (exfalso; first | contradiction | omega)
                all_goals
                 refine jS O (aN (aC (dL eF O ?_)))
                 refine ⟨?_, H⟩; congr 1; rw [iC, if_neg (by omega), if_pos (by omega)]
               ·(try simp only [Z] at h35)
                try (exfalso; first | contradiction | omega)
                all_goals
                 refine bU (aH (aU (bI O (dX O func103 (Ac) ?_))))
                 rintro _ _ ⟨rfl, rfl⟩
                 refine jY O (fun h36 => ?_) (fun h36 => ?_)
                 ·(try simp only [Z] at h36)
                  try (exfalso; first | contradiction | omega)
                  all_goals
                   refine bF (bW O (bF (dX O func104 (rX H hT) ?_)))
                   rintro _ w16 ⟨rfl, uT⟩
                   refine bF (aV (gK O O) (jQ O O (fP O (dL eF O ?_))))
                   refine ⟨?_, uT⟩; congr 1; rw [iC, if_neg (by omega), if_neg (by omega)]; simp [*]
                 ·(try simp only [Z] at h36)
                  try (exfalso; first | contradiction | omega)
                  all_goals
                   refine bK (bK (bK (iH O O (fP O (dL eF O ?_)))))
                   refine ⟨?_, H⟩; congr 1; rw [iC, if_neg (by omega), if_neg (by omega)]; simp [*]
             ·(try simp only [Z] at h34)
              try (exfalso; first | contradiction | omega)
              all_goals
               refine aF (bW O (aV (mJ O O) (jY O (fun h37 => ?_) (fun h37 => ?_))))
               ·(try simp only [Z] at h37)
                try (exfalso; first | contradiction | omega)
                all_goals
                 refine bF (bW O (bF (aV (rQ O O) (jQ O O (fO O (bg O (fun h38 => ?_) (fun h38 => ?_)))))))
                 ·(try simp only [Z] at h38)
                  try (exfalso; first | contradiction | omega)
                  all_goals
                   refine jS O (aN (aC (dL eF O ?_)))
                   refine ⟨?_, H⟩; congr 1; rw [iC, if_neg (by omega), if_pos (by omega)]
                 ·(try simp only [Z] at h38)
                  try (exfalso; first | contradiction | omega)
                  all_goals
                   refine bU (aH (aU (bI O (dX O func103 (Ac) ?_))))
                   rintro _ _ ⟨rfl, rfl⟩
                   refine jY O (fun h39 => ?_) (fun h39 => ?_)
                   ·(try simp only [Z] at h39)
                    try (exfalso; first | contradiction | omega)
                    all_goals
                     refine bF (bW O (bF (dX O func104 (rX H hT) ?_)))
                     rintro _ ZO ⟨rfl, EW⟩
                     refine bF (aV (gK O O) (jQ O O (fP O (dL eF O ?_))))
                     refine ⟨?_, EW⟩; congr 1; rw [iC, if_neg (by omega), if_neg (by omega)]; simp [*]
                   ·(try simp only [Z] at h39)
                    try (exfalso; first | contradiction | omega)
                    all_goals
                     refine bK (bK (bK (iH O O (fP O (dL eF O ?_)))))
                     refine ⟨?_, H⟩; congr 1; rw [iC, if_neg (by omega), if_neg (by omega)]; simp [*]
               ·(try simp only [Z] at h37)
                try (exfalso; first | contradiction | omega)
                all_goals
                 refine bK (bK (iH O O (fO O (oL (bU (aH (aU (bI O (dX O func103 (Ac) ?_)))))))))
                 rintro _ _ ⟨rfl, rfl⟩
                 refine jY O (fun h40 => ?_) (fun h40 => ?_)
                 ·(try simp only [Z] at h40)
                  try (exfalso; first | contradiction | omega)
                  all_goals
                   refine bF (bW O (bF (dX O func104 (rX H hT) ?_)))
                   rintro _ ZP ⟨rfl, BL⟩
                   refine bF (aV (gK O O) (jQ O O (fP O (dL eF O ?_))))
                   refine ⟨?_, BL⟩; congr 1; rw [iC, if_neg (by omega), if_neg (by omega)]; simp [*]
                 ·(try simp only [Z] at h40)
                  try (exfalso; first | contradiction | omega)
                  all_goals
                   refine bK (bK (bK (iH O O (fP O (dL eF O ?_)))))
                   refine ⟨?_, H⟩; congr 1; rw [iC, if_neg (by omega), if_neg (by omega)]; simp [*]
           ·(try simp only [Z] at h33)
            try (exfalso; first | contradiction | omega)
            all_goals
             refine bK (bK (iH O O (fO O (oL (aF (bW O (aV (mJ O O) (jY O (fun h41 => ?_) (fun h41 => ?_)))))))))
             ·(try simp only [Z] at h41)
              try (exfalso; first | contradiction | omega)
              all_goals
               refine bF (bW O (bF (aV (rQ O O) (jQ O O (fO O (bg O (fun h42 => ?_) (fun h42 => ?_)))))))
               ·(try simp only [Z] at h42)
                try (exfalso; first | contradiction | omega)
                all_goals
                 refine jS O (aN (aC (dL eF O ?_)))
                 refine ⟨?_, H⟩; congr 1; rw [iC, if_neg (by omega), if_pos (by omega)]
               ·(try simp only [Z] at h42)
                try (exfalso; first | contradiction | omega)
                all_goals
                 refine bU (aH (aU (bI O (dX O func103 (Ac) ?_))))
                 rintro _ _ ⟨rfl, rfl⟩
                 refine jY O (fun h43 => ?_) (fun h43 => ?_)
                 ·(try simp only [Z] at h43)
                  try (exfalso; first | contradiction | omega)
                  all_goals
                   refine bF (bW O (bF (dX O func104 (rX H hT) ?_)))
                   rintro _ w22 ⟨rfl, Jh⟩
                   refine bF (aV (gK O O) (jQ O O (fP O (dL eF O ?_))))
                   refine ⟨?_, Jh⟩; congr 1; rw [iC, if_neg (by omega), if_neg (by omega)]; simp [*]
                 ·(try simp only [Z] at h43)
                  try (exfalso; first | contradiction | omega)
                  all_goals
                   refine bK (bK (bK (iH O O (fP O (dL eF O ?_)))))
                   refine ⟨?_, H⟩; congr 1; rw [iC, if_neg (by omega), if_neg (by omega)]; simp [*]
             ·(try simp only [Z] at h41)
              try (exfalso; first | contradiction | omega)
              all_goals
               refine bK (bK (iH O O (fO O (oL (bU (aH (aU (bI O (dX O func103 (Ac) ?_)))))))))
               rintro _ _ ⟨rfl, rfl⟩
               refine jY O (fun h44 => ?_) (fun h44 => ?_)
               ·(try simp only [Z] at h44)
                try (exfalso; first | contradiction | omega)
                all_goals
                 refine bF (bW O (bF (dX O func104 (rX H hT) ?_)))
                 rintro _ w24 ⟨rfl, Kq⟩
                 refine bF (aV (gK O O) (jQ O O (fP O (dL eF O ?_))))
                 refine ⟨?_, Kq⟩; congr 1; rw [iC, if_neg (by omega), if_neg (by omega)]; simp [*]
               ·(try simp only [Z] at h44)
                try (exfalso; first | contradiction | omega)
                all_goals
                 refine bK (bK (bK (iH O O (fP O (dL eF O ?_)))))
                 refine ⟨?_, H⟩; congr 1; rw [iC, if_neg (by omega), if_neg (by omega)]; simp [*]
end
end Go.Proofs.YtpdeedplgmbopaaGreatDoor
end
section
set_option maxRecDepth 100000
namespace Go.Proofs.YtpdeedplgmbopaaGreatDoor
open Go.ChangeShapes Go.WideShapes Go.ChangeAt Go.RowKit
def ZQ (x : Int × Int) : DataW Unit := .agg [.lit (.int .i32 x.1), .lit (.int .i32 x.2)]
section
variable {enc : TypeId × Value → Unit} {w : World} {base : Nat} {spare : Nat → Bool} {held : Bool} {fuel : Nat} {ps : List MemPlace}
theorem afh {cs : List Value} {x : Int × Int} (h : DataW.trod enc Tryz.prog w base spare held fuel 213 cs = some (ZQ x, ps)) : cs = [.int .i32 x.1, .int .i32 x.2] := by
  obtain ⟨xs, n, -, hx, hl, hl2, hf⟩ := DataW.trod_struct Tryz.underlying213 h
  rw [show Tryz.prog.cellsOf 213 = 2 from by kernel_rfl] at hl
  simp only [Prod.mk.injEq, ZQ, DataW.agg.injEq] at hx
  match xs, hl2, hx, cs, hl with
  | [y0, y1], _, hx, [c0, c1], _ =>
    have h0 : DataW.trod enc Tryz.prog w base spare held n 21 (([c0, c1].drop 0).take (Tryz.prog.cellsOf 21)) = some y0 := hf 0 _ rfl
    have h1 : DataW.trod enc Tryz.prog w base spare held n 21 (([c0, c1].drop 1).take (Tryz.prog.cellsOf 21)) = some y1 := hf 1 _ rfl
    simp only [List.map_cons, List.map_nil, List.cons.injEq] at hx
    obtain ⟨n0, e0, d0, -⟩ := DataW.trod_int Tryz.underlying21 h0
    obtain ⟨n1, e1, d1, -⟩ := DataW.trod_int Tryz.underlying21 h1
    rw [show Tryz.prog.cellsOf 21 = 1 from by kernel_rfl] at e0 e1
    simp at e0 e1
    rw [d0, d1] at hx
    simp at hx
    subst e0; subst e1
    rw [hx.1.1, hx.1.2]
theorem acq {t n : Nat} {cs : List Value} {T : List (Int × Int)} (ht : Tryz.prog.underlying t = some (.array n 213)) (hc : Tryz.prog.cellsOf t = n * 2) (h : DataW.trod enc Tryz.prog w base spare held fuel t cs = some (.agg (T.map ZQ), ps)) : cs = zq T := by
  obtain ⟨xs, m, -, hx, hl, hl2, hel⟩ := DataW.trod_array ht h
  simp only [Prod.mk.injEq, DataW.agg.injEq] at hx
  rw [hc] at hl
  have hTn : T.length = n := by have := congrArg List.length hx.1; simpa [hl2] using this
  have hv := Uh T
  apply List.ext_getElem?
  intro j
  by_cases hj : j < n * 2
  · have hk : j / 2 < n := by omega
    have h1 := hel (j / 2) hk
    rw [show Tryz.prog.cellsOf 213 = 2 from by kernel_rfl, List.getElem?_eq_getElem (by omega)] at h1
    have h2 : xs[j / 2].1 = ZQ (T.getD (j / 2) (0, 0)) := by
      have := congrArg (fun l => l[j / 2]?) hx.1
      simp [List.getElem?_eq_getElem (show j / 2 < T.length by omega), List.getElem?_eq_getElem (show j / 2 < xs.length by omega)] at this
      rw [List.getD_eq_getElem?_getD, List.getElem?_eq_getElem (show j / 2 < T.length by omega), Option.getD_some, this]
    have h3 := afh (x := T.getD (j / 2) (0, 0)) (ps := xs[j / 2].2) (by rw [h1, ← h2])
    obtain ⟨e0, e1⟩ := OD T (j / 2) (by omega)
    have hq : (zq T)[j]? = some ((zq T).getD j undef) := by rw [List.getD_eq_getElem?_getD, List.getElem?_eq_getElem (by omega)]; rfl
    rw [hq]
    rcases (show j = j / 2 * 2 ∨ j = j / 2 * 2 + 1 by omega) with hj2 | hj2
    · have := congrArg (fun l => l[0]?) h3
      simp [List.getElem?_drop] at this
      rw [show j / 2 * 2 = j from by omega] at this e0
      rw [this, e0]; simp [List.getD_eq_getElem?_getD]
    · have := congrArg (fun l => l[1]?) h3
      simp [List.getElem?_take, List.getElem?_drop] at this
      rw [show j / 2 * 2 + 1 = j from by omega] at this e1
      rw [this, e1]; simp [List.getD_eq_getElem?_getD]
  · rw [List.getElem?_eq_none (by omega), List.getElem?_eq_none (by omega)]
end
end Go.Proofs.YtpdeedplgmbopaaGreatDoor
end
section
namespace Go.Proofs.YtpdeedplgmbopaaGreatDoor
open Go.ChangeShapes Go.WideShapes Go.ChangeAt Go.RowKit
theorem aiY : Tryz.prog.globalNamed "lanyard/ucell.none" = some 0 := by kernel_rfl
theorem aiZ : Tryz.prog.globalNamed "lanyard/ucell.wide" = some 1 := by kernel_rfl
theorem ai0 : (Tryz.prog.globals[0]?).map (·.type) = some 214 := by kernel_rfl
theorem ai1 : (Tryz.prog.globals[1]?).map (·.type) = some 215 := by kernel_rfl
abbrev ZR : List (String × DataW Unit) := [("lanyard/ucell.none", Rows.laid_lanyard_ucell_none), ("lanyard/ucell.wide", Rows.laid_lanyard_ucell_wide)]
theorem afi {W : World} (h : laidMetH Tryz.prog ZR W) : Bq W := by
  rw [MakeChecks.laidMetH_plain _ _ _ (by kernel_rfl)] at h
  obtain ⟨ps, ⟨g0, t0, cs0, f0, p0, q0, hg0, ht0, hv0, hd0, ⟨g1, t1, cs1, f1, p1, q1, hg1, ht1, hv1, hd1, _, _⟩, _⟩, _, _⟩ := h
  obtain rfl := Option.some.inj (aiY.symm.trans hg0)
  obtain rfl := Option.some.inj (aiZ.symm.trans hg1)
  obtain rfl := Option.some.inj (ai0.symm.trans ht0)
  obtain rfl := Option.some.inj (ai1.symm.trans ht1)
  have e0 := acq (T := ZM) Tryz.underlying214 (by kernel_rfl) hd0
  have e1 := acq (T := ZN) Tryz.underlying215 (by kernel_rfl) hd1
  refine ⟨⟨by decide, _, 15, rfl, by decide, by decide, fun _ => ⟨0, 0, rfl, fun j hj => ?_⟩⟩, ⟨by decide, _, 14, rfl, by decide, by decide, fun _ => ⟨1, 0, rfl, fun j hj => ?_⟩⟩⟩
  · rw [Nat.zero_add, World.var?_cell hg0 hv0 j, ← Array.getElem?_toList, e0, List.getD_eq_getElem?_getD, List.getElem?_eq_getElem (by rw [Uh]; exact hj)]; rfl
  · rw [Nat.zero_add, World.var?_cell hg1 hv1 j, ← Array.getElem?_toList, e1, List.getD_eq_getElem?_getD, List.getElem?_eq_getElem (by rw [Uh]; exact hj)]; rfl
theorem acr (os : Os) (args : Array Value) : laidMetH Tryz.prog ZR ((World.doorLaid Tryz.prog 400 os).forCall (fun _ _ => 0) ⟨#[], args, []⟩).memory :=
  laidMetH_of_parts3 (fuel := 8) (laidMet_of_run' 8 (by kernel_rfl) (by kernel_rfl)) (by kernel_rfl) (by kernel_rfl)
end Go.Proofs.YtpdeedplgmbopaaGreatDoor
end
section
namespace Go.Proofs.YtpdeedplgmbopaaGreatDoor
open Go.RowKit
def Gj (I : Hp) (k : IntKind) (vs : List Value) (ls : List (List Int)) : Prop := vs.length = ls.length ∧ ∀ j, j < ls.length → I8 I k (vs.getD j undef) (ls.getD j [])
def GX (k : IntKind) (vs : List Value) (ls : List (List Int)) : HP := know (fun I => Gj I k vs ls) fun _ _ hl h => ⟨h.1, fun j hj => (h.2 j hj).mono hl⟩
def LL (e : TypeId) (k : IntKind) (v : Value) (ls : List (List Int)) : HP := zX fun vs => Row e 1 v ls.length vs • GX k vs ls
theorem Aw {α : Type _} {l m : List α} {j : Nat} {d : α} (h : j < l.length) : (l ++ m).getD j d = l.getD j d := by simp [List.getD_eq_getElem?_getD, List.getElem?_append_left h]
theorem zu {α : Type _} {l m : List α} {j : Nat} {d : α} (h : l.length ≤ j) : (l ++ m).getD j d = m.getD (j - l.length) d := by simp [List.getD_eq_getElem?_getD, List.getElem?_append_right h]
theorem SI {α : Type _} {l : List α} {i j : Nat} {d : α} : (l.drop i).getD j d = l.getD (i + j) d := by simp [List.getD_eq_getElem?_getD]
theorem LP {α : Type _} {l : List α} {i j : Nat} {d : α} (h : j < i) : (l.take i).getD j d = l.getD j d := by simp [List.getD_eq_getElem?_getD, List.getElem?_take, h]
theorem Ad {α : Type _} {l : List α} {j : Nat} {d : α} (h : j < l.length) : l.getD j d ∈ l := by rw [List.getD_eq_getElem?_getD, List.getElem?_eq_getElem h]; exact List.getElem_mem h
theorem Gj.app {I : Hp} {k : IntKind} {vs us : List Value} {ls ms : List (List Int)} (h : Gj I k vs ls) (g : Gj I k us ms) : Gj I k (vs ++ us) (ls ++ ms) := by
  refine ⟨by simp [h.1, g.1], fun j hj => ?_⟩
  by_cases hl : j < ls.length
  · rw [Aw (by rw [h.1]; exact hl), Aw hl]; exact h.2 j hl
  · have hj' : j - ls.length < ms.length := by simp at hj; omega
    rw [zu (by rw [h.1]; omega), zu (by omega), h.1]; exact g.2 _ hj'
theorem Gj.drop {I : Hp} {k : IntKind} {vs : List Value} {ls : List (List Int)} (h : Gj I k vs ls) (i : Nat) : Gj I k (vs.drop i) (ls.drop i) := by
  refine ⟨by simp [h.1], fun j hj => ?_⟩
  rw [SI, SI]
  exact h.2 _ (by simp at hj; omega)
theorem Gj.take {I : Hp} {k : IntKind} {vs : List Value} {ls : List (List Int)} (h : Gj I k vs ls) (i : Nat) : Gj I k (vs.take i) (ls.take i) := by
  refine ⟨by simp [h.1], fun j hj => ?_⟩
  simp at hj
  rw [LP (by omega), LP (by omega)]
  exact h.2 _ (by omega)
theorem I8.one {I : Hp} {k : IntKind} {v : Value} {l : List Int} (h : I8 I k v l) : Gj I k [v] [l] := ⟨rfl, fun j hj => by
  obtain rfl : j = 0 := by simp at hj; omega
  exact h⟩
theorem I8.acs {I : Hp} {k : IntKind} {v : Value} {l : List Int} (h : I8 I k v l) : v.oneCell' = true := by obtain ⟨a, c, rfl, _⟩ := h; rfl
section
variable {w0 w : World} {F : HP} {e : TypeId} {k : IntKind} {v : Value} {vs us : List Value} {ls ms : List (List Int)} {l : List Int}
theorem V.afj (H : V w0 w (GX k vs ls • F)) {j : Nat} (hj : j < ls.length) : gB w k (vs.getD j undef) (ls.getD j []) := let ⟨I, h, hI⟩ := H.yL; (h.2 j hj).rd hI
theorem V.acu (H : V w0 w (GX k vs ls • F)) : vs.length = ls.length := let ⟨I, h, hI⟩ := H.yL; h.1
theorem V.VE (H : V w0 w F) : V w0 w (GX k [] [] • F) := H.BU fun I => ⟨rfl, fun j hj => by simp at hj⟩
theorem V.aa1 (H : V w0 w (GX k vs ls • qZ k v l • F)) : V w0 w (GX k (vs ++ [v]) (ls ++ [l]) • F) := H.JD (vH (fun I h g => h.app g.one) F)
theorem V.ll (H : V w0 w (LL e k v ls • F)) : ∃ vs, V w0 w (Row e 1 v ls.length vs • GX k vs ls • F) := let ⟨vs, h⟩ := H.qY; ⟨vs, h.flat⟩
theorem V.agD (H : V w0 w (Row e 1 v ls.length vs • GX k vs ls • F)) : V w0 w (LL e k v ls • F) := V.kT vs H.deep
theorem V.acv {n : Nat} (H : V w0 w (Row e 1 v n vs • GX k vs ls • F)) : V w0 w (LL e k v ls • F) := by
  have h1 := H.rJ
  have h2 := H.swap.acu
  obtain rfl : n = ls.length := by omega
  exact H.agD
theorem Rd.ai2 {n : Nat} {xs : List Value} (hr : Rd w 1 v n xs) {i : Nat} (h : i ≤ n) : Rd w 1 (wV 1 0 i v) i (xs.take i) := by
  have h1 := hr.cut (Nat.zero_le i) h
  simpa using h1
end
theorem acw {α : Type _} {enc : α → List Value} {sz : Nat} (he : ∀ a, (enc a).length = sz) (l : List α) : (l.flatMap enc).length = l.length * sz := by
  induction l with
  | nil => simp
  | cons a l ih => simp [he, ih, Nat.add_mul, Nat.add_comm]
theorem rY {α : Type _} {enc : α → List Value} {sz : Nat} (he : ∀ a, (enc a).length = sz) {l : List α} {k : Nat} (hk : k < l.length) (d : α) : ((l.flatMap enc).drop (k * sz)).take sz = enc (l.getD k d) := by
  have h1 : l = l.take k ++ l.getD k d :: l.drop (k + 1) := by
    rw [List.getD_eq_getElem?_getD, List.getElem?_eq_getElem hk]
    simp
  have h2 : ((l.take k).flatMap enc).length = k * sz := by rw [acw he, List.length_take, Nat.min_eq_left (by omega)]
  conv => lhs; rw [h1]
  rw [List.flatMap_append, List.drop_append, h2]
  simp [h2, List.take_append, he]
theorem afk {α : Type _} [Inhabited α] {sz n : Nat} {enc : α → List Value} {xs : List Value} {p : α → Prop} (hx : xs.length = n * sz) (h : ∀ k, k < n → ∃ a, (xs.drop (k * sz)).take sz = enc a ∧ p a) : ∃ l : List α, l.length = n ∧ xs = l.flatMap enc ∧ ∀ k, k < n → p (l.getD k default) := by
  induction n generalizing xs with
  | zero => exact ⟨[], rfl, by simpa using List.eq_nil_of_length_eq_zero (by simpa using hx), fun k hk => by omega⟩
  | succ n ih =>
    obtain ⟨a, h1, h2⟩ := h 0 (by omega)
    rw [Nat.zero_mul, List.drop_zero] at h1
    obtain ⟨l, g1, g2, g3⟩ := ih (xs := xs.drop sz) (by rw [List.length_drop, hx, Nat.succ_mul]; omega) (fun k hk => by
      obtain ⟨b, h3, h4⟩ := h (k + 1) (by omega)
      exact ⟨b, by rw [← h3, List.drop_drop, Nat.succ_mul, Nat.add_comm], h4⟩)
    refine ⟨a :: l, by simp [g1], ?_, fun k hk => ?_⟩
    · rw [List.flatMap_cons, ← g2, ← h1, List.take_append_drop]
    · cases k with
      | zero => exact h2
      | succ k => exact g3 k (by omega)
theorem pI {P : Program} {L : List (Nat × Value)} {w : World} {ty : TypeId} {x : Operand} {t : TypeId} {d : TypeDesc} {b o n c sz n' k : Nat} {xs ys : List Value} (hr : Rd w sz (.slice (some ⟨b, o, none⟩) n c) n' xs) (hk : k < n') (hu : P.underlying t = some d) (hd : Ue d = true) (hs : ∀ w, (sizeOf t).run P w = .ok sz w)
    (hx : ev L x = some (.pointer (some ⟨b, o + (k : Int).toNat * sz, none⟩))) (hy : (xs.drop (k * sz)).take sz = ys) (hl : ys.length = sz) : Val P L (.load t x) ty w (.agg ys.toArray) w :=
  FH (by rw [hu]; rfl) (SG hu hd) hs hl hx (fun j u hj => by
    have hjl : j < sz := by rw [← hl]; exact (List.getElem?_eq_some_iff.1 hj).1
    rw [hr.atS hk hjl, List.getD_eq_getElem?_getD]
    rw [← hy, List.getElem?_take, if_pos hjl, List.getElem?_drop] at hj
    rw [hj]; rfl)
end Go.Proofs.YtpdeedplgmbopaaGreatDoor
end
section
namespace Go.Proofs.YtpdeedplgmbopaaGreatDoor
open Go.RowKit
open _root_.Go.Proofs.Tryz
theorem Kr {l m : List Int} {i : Nat} (h1 : i < l.length) (h2 : i < m.length) (h : l.take i = m.take i) (e : l.getD i 0 = m.getD i 0) : l.take (i + 1) = m.take (i + 1) := by
  rw [List.take_succ_eq_append_getElem h1, List.take_succ_eq_append_getElem h2, h]
  simp [List.getD_eq_getElem?_getD, h1, h2] at e
  rw [e]
theorem aa2 (w : World) (v1 v2 : Value) (l1 l2 : List Int) (h1 : gB w .i32 v1 l1) (h2 : gB w .i32 v2 l2) :
  jf prog 27 #[v1, v2] w fun v w' => v = .bool (l1 == l2) ∧ zZ w w' := by
 obtain ⟨a1, c1, rfl, hc1, hm1, hr1⟩ := h1.open
 obtain ⟨a2, c2, rfl, hc2, hm2, hr2⟩ := h2.open
 clear h1 h2
 refine qo func27 ntmps27 ?_
 refine kH O (aI (bI O (aV (jd ah O) (bW O (aV (jd ah O) (aV (fF O O) (iW O (fun h1 => ?_) (fun h1 => ?_))))))))
 ·(try simp only [Z] at h1)
  refine jS O (aC (dL results27 O ?_))
  exact ⟨by rw [show (l1 == l2) = false from beq_eq_false_iff_ne.2 (by rintro rfl; exact h1 rfl)], zZ.refl _⟩
 ·(try simp only [Z] at h1)
  refine gy (aI (bI O (aV (jd ah O) (bW O (iR (bf ?_))))))
  refine iy [(0, _), (1, _), (12, _)] (fun (k : Nat) => [(13, .int .i64 (k : Int))]) (fun (k : Nat) W => k ≤ l1.length ∧ l1.length = l2.length ∧ l1.take k = l2.take k ∧ zZ w W) (fun (k : Nat) => l1.length - k) (0) wW lH ⟨by omega, by omega, by simp, zZ.refl _⟩ ?_
  rintro k w1 ⟨hk, hl, ht, hD⟩
  dsimp only [List.cons_append, List.nil_append]
  refine jg (aV (gG O O) (rW (bg O (fun h2 => ?_) (fun h2 => ?_))))
  ·(try simp only [Z] at h2)
   refine gy (aI (bf (bI O (tX O ?_))))
   obtain ⟨b1, o1, rfl, hq1⟩ := hr1 (by omega)
   obtain ⟨b2, o2, rfl, hq2⟩ := hr2 (by omega)
   have hc1 := hq1 k (by omega)
   have hc2 := hq2 k (by omega)
   refine uD (n := 9) [0, 1, 2, 3, 4, 5, 6, 7, 8] (fun W => W.heap = w1.heap) (by kernel_rfl) (by kernel_rfl) O ?_
   have hS0 : (fun W => W.heap = w1.heap) (w1.drew) := rfl
   refine fD 0 O hS0 O (fD 1 O hS0 O (dS 2 O hS0 (fun _ => dI ah bP O O (by omega)) ?_))
   refine fM 3 O hS0 (fun W hW => dW (bV bC O) O (by rw [ER (hW.trans hD.heap)]; simpa using hc1)) ?_
   refine fD 4 O hS0 O (fD 5 O hS0 O (dS 6 O hS0 (fun _ => dI ah bP O O (by omega)) ?_))
   refine fM 7 O hS0 (fun W hW => dW (bV bC O) O (by rw [ER (hW.trans hD.heap)]; simpa using hc2)) ?_
   refine dS 8 O hS0 (fun _ => fF O O) (lJ (aU (bg O (fun h3 => ?_) (fun h3 => ?_))))
   ·(try simp only [Z] at h3)
    refine jS O (aN (aC (aC (aN (aC (dL results27 O ?_))))))
    exact ⟨by rw [show (l1 == l2) = false from beq_eq_false_iff_ne.2 (by rintro rfl; exact h3 rfl)], hD.drew⟩
   ·(try simp only [Z] at h3)
    refine bU (aH (aU (aF (aV (fH O O (by omega)) (bW O (bT ?_))))))
    refine dN (k + 1) ?_ ?_ ?_ ?_
    ·exact lH
    ·exact wW
    ·(try dsimp only)
     first | done | exact ⟨by omega, by omega, Kr (by omega) (by omega) ht (by simpa using h3), hD.drew⟩
    ·(try dsimp only); omega
  ·(try simp only [Z] at h2)
   refine dR (aP (aP (bH (aU (jS O (dL results27 O ?_))))))
   exact ⟨by rw [show (l1 == l2) = true from beq_iff_eq.2 (by rw [List.take_of_length_le (by omega), List.take_of_length_le (by omega)] at ht; exact ht)], hD⟩
end Go.Proofs.YtpdeedplgmbopaaGreatDoor
end
