import Derived.Test.YtpdeedplgmbopaaGreatDoorZ4
import Derived.Test.YtpdeedplgmbopaaGreatDoorProg
import Derived.Test.YtpdeedplgmbopaaGreatDoorRows
import Derived.Test.YtpdeedplgmbopaaGreatDoorTie
import Derived.Test.YtpdeedplgmbopaaGreatDoorZ3
set_option linter.unusedSimpArgs false
set_option linter.unusedVariables false
/- Texts of mine, joined, their names in short: Tab LaidT Laid Equal Slices. -/
section
namespace Go.Proofs.YtpdeedplgmbopaaGreatDoor
open Go.RowKit
open _root_.Go.Proofs.Tryz
def kS (r : Int) : Bool := decide (0 ≤ r ∧ r < 55296 ∨ 57343 < r ∧ r ≤ 1114111)
def jU (r : Int) : Bool := decide (0 ≤ r ∧ r < 32 ∨ 127 ≤ r ∧ r ≤ 159)
def within (r : Int) (T : List (Int × Int)) : Bool := T.any fun x => decide (x.1 ≤ r ∧ r ≤ x.2)
def QB : List (Int × Int) := [(768, 879), (1155, 1161), (1425, 1469), (1552, 1562), (1611, 1631), (3633, 3633), (3636, 3642), (3655, 3662), (6832, 6911), (7616, 7679), (8203, 8207), (8400, 8447), (12441, 12442), (65024, 65039), (65056, 65071)]
def QC : List (Int × Int) := [(4352, 4447), (11904, 12350), (12353, 13311), (13312, 19903), (19968, 40959), (40960, 42191), (44032, 55203), (63744, 64255), (65072, 65135), (65280, 65376), (65504, 65510), (127744, 128591), (129280, 129535), (131072, 262141)]
def zD (r : Int) : Int := if !kS r || jU r || within r QB then 0 else if within r QC then 2 else 1
def dM (r : Int) : Bool :=
  if r < 192 then decide (48 ≤ r ∧ r ≤ 57 ∨ 65 ≤ r ∧ r ≤ 90 ∨ 97 ≤ r ∧ r ≤ 122)
  else if r = 215 ∨ r = 247 ∨ r = 65533 ∨ 8192 ≤ r ∧ r ≤ 8303 ∨ 12288 ≤ r ∧ r ≤ 12351 ∨ 65280 ≤ r ∧ r ≤ 65295 then false
  else kS r && decide (0 < zD r)
theorem V.cell {w0 w : World} {F : HP} (H : V w0 w F) {a : Addr} {v : Value} (h : w0.cell? a = some v) : w.cell? a = some v := (H.base.cell (World.block_lt_of_cell? _ _ h)).trans h
theorem RS {w : World} {b o : Nat} {u v : Value} (h : w.cell? ⟨b, o, none⟩ = some u) (k : w.cell? ⟨b, o + 1, none⟩ = some v) : ∀ (j : Nat) x, ([u, v] : List Value)[j]? = some x → w.cell? ⟨b, o + j, none⟩ = some x := by
  intro j x hj
  match j, hj with
  | 0, hj => cases hj; exact h
  | 1, hj => cases hj; exact k
  | j + 2, hj => simp at hj
def qV (T : List (Int × Int)) : List Value := T.flatMap fun x => [.int .i32 x.1, .int .i32 x.2]
structure yG (w : World) : Prop where
  abe : Rd w 2 (.slice (some ⟨0, 0, none⟩) 15 15) 15 (qV QB)
  abf : Rd w 2 (.slice (some ⟨1, 0, none⟩) 14 14) 14 (qV QC)
section
variable {w0 w : World} {F : HP} {r : Int}
theorem RU : gI prog 145 #[.int .i32 r] w fun v w' => v = .bool (kS r) ∧ w = w' := by
 refine gG func145 ntmps145 ?_
 refine jg O (aP (aY (bP O (aV (pI O O) (jP O (fun h1 => ?_) (fun h1 => ?_))))))
 ·(try simp only [Z] at h1)
  try (exfalso; first | contradiction | omega)
  all_goals
   refine bC (bQ O (bC (aV (iL O O) (jF O O (gJ O (bJ O (fun h2 => ?_) (fun h2 => ?_)))))))
   ·(try simp only [Z] at h2)
    try (exfalso; first | contradiction | omega)
    all_goals
     refine jC O (aT (aF (dG oM O ?_)))
     refine ⟨?_, O⟩; congr 1; first | (symm; rw [kS, decide_eq_true_eq]; omega) | (symm; rw [kS, decide_eq_false_iff_not]; omega) | (rw [kS, decide_eq_decide]; omega)
   ·(try simp only [Z] at h2)
    try (exfalso; first | contradiction | omega)
    all_goals
     refine bP O (aV (iL O O) (jP O (fun h3 => ?_) (fun h3 => ?_)))
     ·(try simp only [Z] at h3)
      try (exfalso; first | contradiction | omega)
      all_goals
       refine bC (bQ O (bC (aV (pI O O) (jF O O (gJ O (bJ O (fun h4 => ?_) (fun h4 => ?_)))))))
       ·(try simp only [Z] at h4)
        try (exfalso; first | contradiction | omega)
        all_goals
         refine jC O (aT (aF (dG oM O ?_)))
         refine ⟨?_, O⟩; congr 1; first | (symm; rw [kS, decide_eq_true_eq]; omega) | (symm; rw [kS, decide_eq_false_iff_not]; omega) | (rw [kS, decide_eq_decide]; omega)
       ·(try simp only [Z] at h4)
        try (exfalso; first | contradiction | omega)
        all_goals
         refine bY (aJ (aX (jC O (dG oM O ?_))))
         refine ⟨?_, O⟩; congr 1; first | (symm; rw [kS, decide_eq_true_eq]; omega) | (symm; rw [kS, decide_eq_false_iff_not]; omega) | (rw [kS, decide_eq_decide]; omega)
     ·(try simp only [Z] at h3)
      try (exfalso; first | contradiction | omega)
      all_goals
       refine bI (bI (iM O O (gJ O (qy (bY (aJ (aX (jC O (dG oM O ?_)))))))))
       refine ⟨?_, O⟩; congr 1; first | (symm; rw [kS, decide_eq_true_eq]; omega) | (symm; rw [kS, decide_eq_false_iff_not]; omega) | (rw [kS, decide_eq_decide]; omega)
 ·(try simp only [Z] at h1)
  try (exfalso; first | contradiction | omega)
  all_goals
   refine bI (bI (iM O O (gJ O (qy (bP O (aV (iL O O) (jP O (fun h5 => ?_) (fun h5 => ?_))))))))
   ·(try simp only [Z] at h5)
    try (exfalso; first | contradiction | omega)
    all_goals
     refine bC (bQ O (bC (aV (pI O O) (jF O O (gJ O (bJ O (fun h6 => ?_) (fun h6 => ?_)))))))
     ·(try simp only [Z] at h6)
      try (exfalso; first | contradiction | omega)
      all_goals
       refine jC O (aT (aF (dG oM O ?_)))
       refine ⟨?_, O⟩; congr 1; first | (symm; rw [kS, decide_eq_true_eq]; omega) | (symm; rw [kS, decide_eq_false_iff_not]; omega) | (rw [kS, decide_eq_decide]; omega)
     ·(try simp only [Z] at h6)
      try (exfalso; first | contradiction | omega)
      all_goals
       refine bY (aJ (aX (jC O (dG oM O ?_))))
       refine ⟨?_, O⟩; congr 1; first | (symm; rw [kS, decide_eq_true_eq]; omega) | (symm; rw [kS, decide_eq_false_iff_not]; omega) | (rw [kS, decide_eq_decide]; omega)
   ·(try simp only [Z] at h5)
    try (exfalso; first | contradiction | omega)
    all_goals
     refine bI (bI (iM O O (gJ O (qy (bY (aJ (aX (jC O (dG oM O ?_)))))))))
     refine ⟨?_, O⟩; congr 1; first | (symm; rw [kS, decide_eq_true_eq]; omega) | (symm; rw [kS, decide_eq_false_iff_not]; omega) | (rw [kS, decide_eq_decide]; omega)
theorem rM : gI prog 103 #[.int .i32 r] w fun v w' => v = .bool (kS r) ∧ w = w' := by
  refine gG func103 ntmps103 ?_
  refine jg O (bP O (dS O func145 (RU) ?_))
  rintro _ _ ⟨rfl, rfl⟩
  refine eY O (dG results103 O ?_)
  exact ⟨O, O⟩
theorem LQ : gI prog 146 #[.int .i32 r] w fun v w' => v = .bool (jU r) ∧ w = w' := by
  refine gG func146 ntmps146 ?_
  refine jg O (bP O (aV (lK O O) (jP O (fun h1 => ?_) (fun h1 => ?_))))
  · (try simp only [Z] at h1)
    try (exfalso; first | contradiction | omega)
    all_goals
      refine bC (bQ O (bC (aV (iL O O) (jF O O (jP O (fun h2 => ?_) (fun h2 => ?_))))))
      · (try simp only [Z] at h2)
        try (exfalso; first | contradiction | omega)
        all_goals
          refine bI (bI (bI (mV (mV (bI (jF O O (eY O (dG results146 O ?_))))))))
          refine ⟨?_, O⟩; congr 1; first | (symm; rw [jU, decide_eq_true_eq]; omega) | (symm; rw [jU, decide_eq_false_iff_not]; omega) | (rw [jU, decide_eq_decide]; omega)
      · (try simp only [Z] at h2)
        try (exfalso; first | contradiction | omega)
        all_goals
          refine bC (bQ O (bC (aV (lK O O) (bC (jP O (fun h3 => ?_) (fun h3 => ?_))))))
          · (try simp only [Z] at h3)
            try (exfalso; first | contradiction | omega)
            all_goals
              refine bC (bQ O (bC (aV (pI O O) (bC (jF O O (iM O O (eY O (dG results146 O ?_))))))))
              refine ⟨?_, O⟩; congr 1; first | (symm; rw [jU, decide_eq_true_eq]; omega) | (symm; rw [jU, decide_eq_false_iff_not]; omega) | (rw [jU, decide_eq_decide]; omega)
          · (try simp only [Z] at h3)
            try (exfalso; first | contradiction | omega)
            all_goals
              refine bI (bI (bC (iM O O (iM O O (eY O (dG results146 O ?_))))))
              refine ⟨?_, O⟩; congr 1; first | (symm; rw [jU, decide_eq_true_eq]; omega) | (symm; rw [jU, decide_eq_false_iff_not]; omega) | (rw [jU, decide_eq_decide]; omega)
  · (try simp only [Z] at h1)
    try (exfalso; first | contradiction | omega)
    all_goals
      refine bI (bI (iM O O (bQ O (bC (bQ O (bC (aV (lK O O) (bC (jP O (fun h4 => ?_) (fun h4 => ?_))))))))))
      · (try simp only [Z] at h4)
        try (exfalso; first | contradiction | omega)
        all_goals
          refine bC (bQ O (bC (aV (pI O O) (bC (jF O O (iM O O (eY O (dG results146 O ?_))))))))
          refine ⟨?_, O⟩; congr 1; first | (symm; rw [jU, decide_eq_true_eq]; omega) | (symm; rw [jU, decide_eq_false_iff_not]; omega) | (rw [jU, decide_eq_decide]; omega)
      · (try simp only [Z] at h4)
        try (exfalso; first | contradiction | omega)
        all_goals
          refine bI (bI (bC (iM O O (iM O O (eY O (dG results146 O ?_))))))
          refine ⟨?_, O⟩; congr 1; first | (symm; rw [jU, decide_eq_true_eq]; omega) | (symm; rw [jU, decide_eq_false_iff_not]; omega) | (rw [jU, decide_eq_decide]; omega)
theorem J4 (T : List (Int × Int)) : (qV T).length = T.length * 2 := by
  induction T with
  | nil => rfl
  | cons x r ih => simp only [qV, List.flatMap_cons, List.length_append] at *; simp [ih]; omega
theorem FP (T : List (Int × Int)) (k : Nat) (h : k < T.length) : (qV T).getD (k * 2) undef = .int .i32 (T.getD k (0, 0)).1 ∧ (qV T).getD (k * 2 + 1) undef = .int .i32 (T.getD k (0, 0)).2 := by
  induction T generalizing k with
  | nil => simp at h
  | cons x r ih =>
    cases k with
    | zero => exact ⟨rfl, rfl⟩
    | succ k =>
      have := ih k (by simpa using h)
      rw [show (k + 1) * 2 = k * 2 + 2 from by omega, show k * 2 + 2 + 1 = (k * 2 + 1) + 2 from by omega]
      simpa [qV, List.getD_eq_getElem?_getD] using this
theorem En {r : Int} {T : List (Int × Int)} {k : Nat} (h : k < T.length) : within r (T.take (k + 1)) = (within r (T.take k) || decide ((T.getD k (0, 0)).1 ≤ r ∧ r ≤ (T.getD k (0, 0)).2)) := by
  unfold within
  rw [List.take_succ_eq_append_getElem h, List.any_append]
  simp [List.getD_eq_getElem?_getD, h]
theorem OQ {r : Int} {T : List (Int × Int)} {k : Nat} (h : k < T.length) (hk : (T.getD k (0, 0)).1 ≤ r ∧ r ≤ (T.getD k (0, 0)).2) : within r T = true := by
  unfold within
  rw [List.any_eq_true]
  refine ⟨T.getD k (0, 0), ?_, by simpa using hk⟩
  rw [List.getD_eq_getElem?_getD, List.getElem?_eq_getElem h]
  exact List.getElem_mem h
theorem FQ {v : Value} {T : List (Int × Int)} (H : V w0 w F) (hr : Rd w0 2 v T.length (qV T)) (hT : T.length < 1000000) :
  gI prog 147 #[.int .i32 r, v] w fun v w' => v = .bool (within r T) ∧ V w0 w' F := by
 obtain ⟨hlen, a, c, rfl, hc1, hc2, hcell⟩ := hr
 refine oq func147 ntmps147 ?_
 refine jg O (aP (bP O (aV (ny underlying211 O) (bQ O (iJ (aY ?_))))))
 refine fF [(0, _), (7, _), (8, _)] (fun (k : Nat) => [(9, .int .i64 (k : Int))]) (fun (k : Nat) W => k ≤ T.length ∧ within r (T.take k) = false ∧ V w0 W F) (fun (k : Nat) => T.length - k) (0) uM lI ⟨by omega, O, H⟩ ?_
 rintro k w1 ⟨hk, hno, HL⟩
 dsimp only [List.cons_append, List.nil_append]
 refine iE (aV (iL O O) (pJ (bJ O (fun h1 => ?_) (fun h1 => ?_))))
 ·(try simp only [Z] at h1)
  try (exfalso; first | contradiction | omega)
  all_goals
   refine fZ (aP (aY (aP ?_)))
   have hk1 : k < T.length := by omega
   obtain ⟨b0, o, rfl, hq⟩ := hcell (by omega)
   have hq0 := hq (k * 2) (by omega)
   have hq1 := hq (k * 2 + 1) (by omega)
   rw [(FP T k hk1).1] at hq0
   rw [(FP T k hk1).2] at hq1
   rw [← Nat.add_assoc] at hq1
   refine aC (aV (dI underlying211 sizeOf213 O O (by omega)) ?_)
   refine aV (yE (cs := [.int .i32 (T.getD k (0, 0)).1, .int .i32 (T.getD k (0, 0)).2]) (by rw [underlying213]; rfl) (LD underlying213 O) sizeOf213 O O (RS (by rw [show ((k : Int).toNat * 2) = k * 2 from by omega]; exact HL.cell hq0) (by rw [show ((k : Int).toNat * 2) = k * 2 from by omega]; exact HL.cell hq1))) ?_
   refine jr (EY HL zeroValue213) ?_
   rintro _ w2 ⟨b2, rfl, H2⟩
   refine aH (xq (cs := #[.int .i32 (T.getD k (0, 0)).1, .int .i32 (T.getD k (0, 0)).2]) H2 sizeOf213 O O O O (by simp [Value.oneCell'])) ?_
   rintro _ w3 H3
   have HN := H3.right
   refine qH O (bD 0 underlying213 O bT O (fG bg O H3.get.2 O (aV (lK O O) (jP O (fun h2 => ?_) (fun h2 => ?_)))))
   ·(try simp only [Z] at h2)
    try (exfalso; first | contradiction | omega)
    all_goals
     refine bC (bQ O (bC (bD 1 underlying213 O bT O (bC (fG bg O H3.get.2 O (bC (aV (pI O O) (jF O O (jh O (fun h3 => ?_) (fun h3 => ?_))))))))))
     ·(try simp only [Z] at h3)
      try (exfalso; first | contradiction | omega)
      all_goals
       refine jC O (aT (aF (aF (aT (aF (dG results147 O ?_))))))
       exact ⟨by rw [OQ hk1 (by omega)], HN⟩
     ·(try simp only [Z] at h3)
      try (exfalso; first | contradiction | omega)
      all_goals
       refine bY (aJ (aX (aC (aV (gy O O (by omega)) (bQ O (bM ?_))))))
       refine dL (k + 1) ?_ ?_ ?_ ?_
       ·exact lI
       ·exact uM
       ·(try dsimp only)
        first | done | exact ⟨by omega, by rw [En hk1, hno, Bool.false_or, decide_eq_false_iff_not]; omega, HN⟩
       ·(try dsimp only); omega
   ·(try simp only [Z] at h2)
    try (exfalso; first | contradiction | omega)
    all_goals
     refine bI (bI (bI (bI (iM O O (iJ (qy (bY (aJ (aX (aC (aV (gy O O (by omega)) (bQ O (bM ?_)))))))))))))
     refine dL (k + 1) ?_ ?_ ?_ ?_
     ·exact lI
     ·exact uM
     ·(try dsimp only)
      first | done | exact ⟨by omega, by rw [En hk1, hno, Bool.false_or, decide_eq_false_iff_not]; omega, HN⟩
     ·(try dsimp only); omega
 ·(try simp only [Z] at h1)
  try (exfalso; first | contradiction | omega)
  all_goals
   refine dB (aI (aI (aZ (aX (jC O (dG results147 O ?_))))))
   exact ⟨by rw [← hno, List.take_of_length_le (by omega)], HL⟩
theorem mJ (H : V w0 w F) (hT : yG w0) : gI prog 104 #[.int .i32 r] w fun v w' => v = .int .i64 (zD r) ∧ V w0 w' F := by
 refine gG func104 ntmps104 ?_
 refine jg O (aP (aY (bP O (dS O func103 (rM) ?_))))
 rintro _ _ ⟨rfl, rfl⟩
 refine aV (lY O) (jP O (fun h1 => ?_) (fun h1 => ?_))
 ·(try simp only [Z] at h1)
  try (exfalso; first | contradiction | omega)
  all_goals
   refine bI (bI (jF O O (bQ O (bI (bI (bI (jF O O (gJ O (EK (jC O (aT (aF (dG results104 O ?_)))))))))))))
   exact ⟨by unfold zD; simp [*], H⟩
 ·(try simp only [Z] at h1)
  try (exfalso; first | contradiction | omega)
  all_goals
   refine bC (bQ O (bC (dS O func146 (LQ) ?_)))
   rintro _ _ ⟨rfl, rfl⟩
   refine iM O O (jP O (fun h2 => ?_) (fun h2 => ?_))
   ·(try simp only [Z] at h2)
    try (exfalso; first | contradiction | omega)
    all_goals
     refine bI (bI (bI (jF O O (gJ O (EK (jC O (aT (aF (dG results104 O ?_)))))))))
     exact ⟨by unfold zD; simp [*], H⟩
   ·(try simp only [Z] at h2)
    try (exfalso; first | contradiction | omega)
    all_goals
     refine bC (bQ O (bC (aV (Em underlying214 sizeOf213 O) ?_)))
     refine bC (dS O func147 (FQ (T := QB) H hT.abe (by decide)) ?_)
     rintro _ w3 ⟨rfl, H3⟩
     refine iM O O (gJ O (bJ O (fun h3 => ?_) (fun h3 => ?_)))
     ·(try simp only [Z] at h3)
      try (exfalso; first | contradiction | omega)
      all_goals
       refine jC O (aT (aF (dG results104 O ?_)))
       exact ⟨by unfold zD; simp [*], H3⟩
     ·(try simp only [Z] at h3)
      try (exfalso; first | contradiction | omega)
      all_goals
       refine bP O (aV (Em underlying215 sizeOf213 O) ?_)
       refine dS O func147 (FQ (T := QC) H3 hT.abf (by decide)) ?_
       rintro _ w4 ⟨rfl, H4⟩
       refine gJ O (bJ O (fun h4 => ?_) (fun h4 => ?_))
       ·(try simp only [Z] at h4)
        try (exfalso; first | contradiction | omega)
        all_goals
         refine jC O (aT (aF (dG results104 O ?_)))
         exact ⟨by unfold zD; simp [*], H4⟩
       ·(try simp only [Z] at h4)
        try (exfalso; first | contradiction | omega)
        all_goals
         refine bY (aJ (aX (jC O (dG results104 O ?_))))
         exact ⟨by unfold zD; simp [*], H4⟩
theorem OT (H : V w0 w F) (hT : yG w0) : gI prog 47 #[.int .i32 r] w fun v w' => v = .bool (dM r) ∧ V w0 w' F := by
 refine gG func47 ntmps47 ?_
 refine jg O (aP (bP O (aV (iL O O) (jh O (fun h1 => ?_) (fun h1 => ?_)))))
 ·(try simp only [Z] at h1)
  try (exfalso; first | contradiction | omega)
  all_goals
   refine bP O (aV (lK O O) (jP O (fun h2 => ?_) (fun h2 => ?_)))
   ·(try simp only [Z] at h2)
    try (exfalso; first | contradiction | omega)
    all_goals
     refine bC (bQ O (bC (aV (pI O O) (jF O O (jP O (fun h3 => ?_) (fun h3 => ?_))))))
     ·(try simp only [Z] at h3)
      try (exfalso; first | contradiction | omega)
      all_goals
       refine bI (bI (bI (mV (mV (bI (jF O O (bQ O (bI (bI (bI (mV (mV (bI (jF O O (eY O (aF (dG bV O ?_)))))))))))))))))
       refine ⟨?_, H⟩; congr 1; rw [dM, if_pos (by omega)]; first | (symm; rw [decide_eq_true_eq]; omega) | (symm; rw [decide_eq_false_iff_not]; omega) | (rw [decide_eq_decide]; omega)
     ·(try simp only [Z] at h3)
      try (exfalso; first | contradiction | omega)
      all_goals
       refine bC (bQ O (bC (aV (lK O O) (bC (jP O (fun h4 => ?_) (fun h4 => ?_))))))
       ·(try simp only [Z] at h4)
        try (exfalso; first | contradiction | omega)
        all_goals
         refine bC (bQ O (bC (aV (pI O O) (bC (jF O O (iM O O (jP O (fun h5 => ?_) (fun h5 => ?_))))))))
         ·(try simp only [Z] at h5)
          try (exfalso; first | contradiction | omega)
          all_goals
           refine bI (bI (bI (mV (mV (bI (jF O O (eY O (aF (dG bV O ?_)))))))))
           refine ⟨?_, H⟩; congr 1; rw [dM, if_pos (by omega)]; first | (symm; rw [decide_eq_true_eq]; omega) | (symm; rw [decide_eq_false_iff_not]; omega) | (rw [decide_eq_decide]; omega)
         ·(try simp only [Z] at h5)
          try (exfalso; first | contradiction | omega)
          all_goals
           refine bC (bQ O (bC (aV (lK O O) (bC (jP O (fun h6 => ?_) (fun h6 => ?_))))))
           ·(try simp only [Z] at h6)
            try (exfalso; first | contradiction | omega)
            all_goals
             refine bC (bQ O (bC (aV (pI O O) (bC (jF O O (iM O O (eY O (aF (dG bV O ?_)))))))))
             refine ⟨?_, H⟩; congr 1; rw [dM, if_pos (by omega)]; first | (symm; rw [decide_eq_true_eq]; omega) | (symm; rw [decide_eq_false_iff_not]; omega) | (rw [decide_eq_decide]; omega)
           ·(try simp only [Z] at h6)
            try (exfalso; first | contradiction | omega)
            all_goals
             refine bI (bI (bC (iM O O (iM O O (eY O (aF (dG bV O ?_)))))))
             refine ⟨?_, H⟩; congr 1; rw [dM, if_pos (by omega)]; first | (symm; rw [decide_eq_true_eq]; omega) | (symm; rw [decide_eq_false_iff_not]; omega) | (rw [decide_eq_decide]; omega)
       ·(try simp only [Z] at h4)
        try (exfalso; first | contradiction | omega)
        all_goals
         refine bI (bI (bC (iM O O (iM O O (bQ O (bC (bQ O (bC (aV (lK O O) (bC (jP O (fun h7 => ?_) (fun h7 => ?_))))))))))))
         ·(try simp only [Z] at h7)
          try (exfalso; first | contradiction | omega)
          all_goals
           refine bC (bQ O (bC (aV (pI O O) (bC (jF O O (iM O O (eY O (aF (dG bV O ?_)))))))))
           refine ⟨?_, H⟩; congr 1; rw [dM, if_pos (by omega)]; first | (symm; rw [decide_eq_true_eq]; omega) | (symm; rw [decide_eq_false_iff_not]; omega) | (rw [decide_eq_decide]; omega)
         ·(try simp only [Z] at h7)
          try (exfalso; first | contradiction | omega)
          all_goals
           refine bI (bI (bC (iM O O (iM O O (eY O (aF (dG bV O ?_)))))))
           refine ⟨?_, H⟩; congr 1; rw [dM, if_pos (by omega)]; first | (symm; rw [decide_eq_true_eq]; omega) | (symm; rw [decide_eq_false_iff_not]; omega) | (rw [decide_eq_decide]; omega)
   ·(try simp only [Z] at h2)
    try (exfalso; first | contradiction | omega)
    all_goals
     refine bI (bI (iM O O (bQ O (bC (bQ O (bC (aV (lK O O) (bC (jP O (fun h8 => ?_) (fun h8 => ?_))))))))))
     ·(try simp only [Z] at h8)
      try (exfalso; first | contradiction | omega)
      all_goals
       refine bC (bQ O (bC (aV (pI O O) (bC (jF O O (iM O O (jP O (fun h9 => ?_) (fun h9 => ?_))))))))
       ·(try simp only [Z] at h9)
        try (exfalso; first | contradiction | omega)
        all_goals
         refine bI (bI (bI (mV (mV (bI (jF O O (eY O (aF (dG bV O ?_)))))))))
         refine ⟨?_, H⟩; congr 1; rw [dM, if_pos (by omega)]; first | (symm; rw [decide_eq_true_eq]; omega) | (symm; rw [decide_eq_false_iff_not]; omega) | (rw [decide_eq_decide]; omega)
       ·(try simp only [Z] at h9)
        try (exfalso; first | contradiction | omega)
        all_goals
         refine bC (bQ O (bC (aV (lK O O) (bC (jP O (fun h10 => ?_) (fun h10 => ?_))))))
         ·(try simp only [Z] at h10)
          try (exfalso; first | contradiction | omega)
          all_goals
           refine bC (bQ O (bC (aV (pI O O) (bC (jF O O (iM O O (eY O (aF (dG bV O ?_)))))))))
           refine ⟨?_, H⟩; congr 1; rw [dM, if_pos (by omega)]; first | (symm; rw [decide_eq_true_eq]; omega) | (symm; rw [decide_eq_false_iff_not]; omega) | (rw [decide_eq_decide]; omega)
         ·(try simp only [Z] at h10)
          try (exfalso; first | contradiction | omega)
          all_goals
           refine bI (bI (bC (iM O O (iM O O (eY O (aF (dG bV O ?_)))))))
           refine ⟨?_, H⟩; congr 1; rw [dM, if_pos (by omega)]; first | (symm; rw [decide_eq_true_eq]; omega) | (symm; rw [decide_eq_false_iff_not]; omega) | (rw [decide_eq_decide]; omega)
     ·(try simp only [Z] at h8)
      try (exfalso; first | contradiction | omega)
      all_goals
       refine bI (bI (bC (iM O O (iM O O (bQ O (bC (bQ O (bC (aV (lK O O) (bC (jP O (fun h11 => ?_) (fun h11 => ?_))))))))))))
       ·(try simp only [Z] at h11)
        try (exfalso; first | contradiction | omega)
        all_goals
         refine bC (bQ O (bC (aV (pI O O) (bC (jF O O (iM O O (eY O (aF (dG bV O ?_)))))))))
         refine ⟨?_, H⟩; congr 1; rw [dM, if_pos (by omega)]; first | (symm; rw [decide_eq_true_eq]; omega) | (symm; rw [decide_eq_false_iff_not]; omega) | (rw [decide_eq_decide]; omega)
       ·(try simp only [Z] at h11)
        try (exfalso; first | contradiction | omega)
        all_goals
         refine bI (bI (bC (iM O O (iM O O (eY O (aF (dG bV O ?_)))))))
         refine ⟨?_, H⟩; congr 1; rw [dM, if_pos (by omega)]; first | (symm; rw [decide_eq_true_eq]; omega) | (symm; rw [decide_eq_false_iff_not]; omega) | (rw [decide_eq_decide]; omega)
 ·(try simp only [Z] at h1)
  try (exfalso; first | contradiction | omega)
  all_goals
   refine fZ (aP (aY (aP (bP O (aV (dV O O) (jP O (fun h12 => ?_) (fun h12 => ?_)))))))
   ·(try simp only [Z] at h12)
    try (exfalso; first | contradiction | omega)
    all_goals
     refine bI (bI (jF O O (bQ O (bI (bI (jF O O (gJ O (EK (fZ (EK (jC O (aT (aF (dG bV O ?_))))))))))))))
     refine ⟨?_, H⟩; congr 1; rw [dM, if_neg (by omega), if_pos (by omega)]
   ·(try simp only [Z] at h12)
    try (exfalso; first | contradiction | omega)
    all_goals
     refine bC (bQ O (bC (aV (dV O O) (iM O O (jP O (fun h13 => ?_) (fun h13 => ?_))))))
     ·(try simp only [Z] at h13)
      try (exfalso; first | contradiction | omega)
      all_goals
       refine bI (bI (jF O O (gJ O (EK (fZ (EK (jC O (aT (aF (dG bV O ?_))))))))))
       refine ⟨?_, H⟩; congr 1; rw [dM, if_neg (by omega), if_pos (by omega)]
     ·(try simp only [Z] at h13)
      try (exfalso; first | contradiction | omega)
      all_goals
       refine bC (bQ O (bC (aV (dV O O) (iM O O (gJ O (bJ O (fun h14 => ?_) (fun h14 => ?_)))))))
       ·(try simp only [Z] at h14)
        try (exfalso; first | contradiction | omega)
        all_goals
         refine fZ (bJ O (fun h15 => ?_) (fun h15 => ?_))
         ·(try simp only [Z] at h15)
          try (exfalso; first | contradiction | omega)
          all_goals
           refine jC O (aT (aF (dG bV O ?_)))
           refine ⟨?_, H⟩; congr 1; rw [dM, if_neg (by omega), if_pos (by omega)]
         ·(try simp only [Z] at h15)
          try (exfalso; first | contradiction | omega)
          all_goals
           refine bY (aJ (aX (bP O (dS O func103 (rM) ?_))))
           rintro _ _ ⟨rfl, rfl⟩
           refine jP O (fun h16 => ?_) (fun h16 => ?_)
           ·(try simp only [Z] at h16)
            try (exfalso; first | contradiction | omega)
            all_goals
             refine bC (bQ O (bC (dS O func104 (mJ H hT) ?_)))
             rintro _ w2 ⟨rfl, H2⟩
             refine bC (aV (iV O O) (jF O O (eY O (dG bV O ?_))))
             refine ⟨?_, H2⟩; congr 1; rw [dM, if_neg (by omega), if_neg (by omega)]; simp [*]
           ·(try simp only [Z] at h16)
            try (exfalso; first | contradiction | omega)
            all_goals
             refine bI (bI (bI (iM O O (eY O (dG bV O ?_)))))
             refine ⟨?_, H⟩; congr 1; rw [dM, if_neg (by omega), if_neg (by omega)]; simp [*]
       ·(try simp only [Z] at h14)
        try (exfalso; first | contradiction | omega)
        all_goals
         refine bP O (aV (lK O O) (jP O (fun h17 => ?_) (fun h17 => ?_)))
         ·(try simp only [Z] at h17)
          try (exfalso; first | contradiction | omega)
          all_goals
           refine bC (bQ O (bC (aV (pI O O) (jF O O (gJ O (bJ O (fun h18 => ?_) (fun h18 => ?_)))))))
           ·(try simp only [Z] at h18)
            try (exfalso; first | contradiction | omega)
            all_goals
             refine fZ (bJ O (fun h19 => ?_) (fun h19 => ?_))
             ·(try simp only [Z] at h19)
              try (exfalso; first | contradiction | omega)
              all_goals
               refine jC O (aT (aF (dG bV O ?_)))
               refine ⟨?_, H⟩; congr 1; rw [dM, if_neg (by omega), if_pos (by omega)]
             ·(try simp only [Z] at h19)
              try (exfalso; first | contradiction | omega)
              all_goals
               refine bY (aJ (aX (bP O (dS O func103 (rM) ?_))))
               rintro _ _ ⟨rfl, rfl⟩
               refine jP O (fun h20 => ?_) (fun h20 => ?_)
               ·(try simp only [Z] at h20)
                try (exfalso; first | contradiction | omega)
                all_goals
                 refine bC (bQ O (bC (dS O func104 (mJ H hT) ?_)))
                 rintro _ w4 ⟨rfl, H4⟩
                 refine bC (aV (iV O O) (jF O O (eY O (dG bV O ?_))))
                 refine ⟨?_, H4⟩; congr 1; rw [dM, if_neg (by omega), if_neg (by omega)]; simp [*]
               ·(try simp only [Z] at h20)
                try (exfalso; first | contradiction | omega)
                all_goals
                 refine bI (bI (bI (iM O O (eY O (dG bV O ?_)))))
                 refine ⟨?_, H⟩; congr 1; rw [dM, if_neg (by omega), if_neg (by omega)]; simp [*]
           ·(try simp only [Z] at h18)
            try (exfalso; first | contradiction | omega)
            all_goals
             refine bP O (aV (lK O O) (jP O (fun h21 => ?_) (fun h21 => ?_)))
             ·(try simp only [Z] at h21)
              try (exfalso; first | contradiction | omega)
              all_goals
               refine bC (bQ O (bC (aV (pI O O) (jF O O (gJ O (bJ O (fun h22 => ?_) (fun h22 => ?_)))))))
               ·(try simp only [Z] at h22)
                try (exfalso; first | contradiction | omega)
                all_goals
                 refine fZ (bJ O (fun h23 => ?_) (fun h23 => ?_))
                 ·(try simp only [Z] at h23)
                  try (exfalso; first | contradiction | omega)
                  all_goals
                   refine jC O (aT (aF (dG bV O ?_)))
                   refine ⟨?_, H⟩; congr 1; rw [dM, if_neg (by omega), if_pos (by omega)]
                 ·(try simp only [Z] at h23)
                  try (exfalso; first | contradiction | omega)
                  all_goals
                   refine bY (aJ (aX (bP O (dS O func103 (rM) ?_))))
                   rintro _ _ ⟨rfl, rfl⟩
                   refine jP O (fun h24 => ?_) (fun h24 => ?_)
                   ·(try simp only [Z] at h24)
                    try (exfalso; first | contradiction | omega)
                    all_goals
                     refine bC (bQ O (bC (dS O func104 (mJ H hT) ?_)))
                     rintro _ w6 ⟨rfl, H6⟩
                     refine bC (aV (iV O O) (jF O O (eY O (dG bV O ?_))))
                     refine ⟨?_, H6⟩; congr 1; rw [dM, if_neg (by omega), if_neg (by omega)]; simp [*]
                   ·(try simp only [Z] at h24)
                    try (exfalso; first | contradiction | omega)
                    all_goals
                     refine bI (bI (bI (iM O O (eY O (dG bV O ?_)))))
                     refine ⟨?_, H⟩; congr 1; rw [dM, if_neg (by omega), if_neg (by omega)]; simp [*]
               ·(try simp only [Z] at h22)
                try (exfalso; first | contradiction | omega)
                all_goals
                 refine aC (bQ O (aV (lK O O) (jP O (fun h25 => ?_) (fun h25 => ?_))))
                 ·(try simp only [Z] at h25)
                  try (exfalso; first | contradiction | omega)
                  all_goals
                   refine bC (bQ O (bC (aV (pI O O) (jF O O (gJ O (bJ O (fun h26 => ?_) (fun h26 => ?_)))))))
                   ·(try simp only [Z] at h26)
                    try (exfalso; first | contradiction | omega)
                    all_goals
                     refine jC O (aT (aF (dG bV O ?_)))
                     refine ⟨?_, H⟩; congr 1; rw [dM, if_neg (by omega), if_pos (by omega)]
                   ·(try simp only [Z] at h26)
                    try (exfalso; first | contradiction | omega)
                    all_goals
                     refine bY (aJ (aX (bP O (dS O func103 (rM) ?_))))
                     rintro _ _ ⟨rfl, rfl⟩
                     refine jP O (fun h27 => ?_) (fun h27 => ?_)
                     ·(try simp only [Z] at h27)
                      try (exfalso; first | contradiction | omega)
                      all_goals
                       refine bC (bQ O (bC (dS O func104 (mJ H hT) ?_)))
                       rintro _ w8 ⟨rfl, H8⟩
                       refine bC (aV (iV O O) (jF O O (eY O (dG bV O ?_))))
                       refine ⟨?_, H8⟩; congr 1; rw [dM, if_neg (by omega), if_neg (by omega)]; simp [*]
                     ·(try simp only [Z] at h27)
                      try (exfalso; first | contradiction | omega)
                      all_goals
                       refine bI (bI (bI (iM O O (eY O (dG bV O ?_)))))
                       refine ⟨?_, H⟩; congr 1; rw [dM, if_neg (by omega), if_neg (by omega)]; simp [*]
                 ·(try simp only [Z] at h25)
                  try (exfalso; first | contradiction | omega)
                  all_goals
                   refine bI (bI (iM O O (gJ O (qy (bY (aJ (aX (bP O (dS O func103 (rM) ?_)))))))))
                   rintro _ _ ⟨rfl, rfl⟩
                   refine jP O (fun h28 => ?_) (fun h28 => ?_)
                   ·(try simp only [Z] at h28)
                    try (exfalso; first | contradiction | omega)
                    all_goals
                     refine bC (bQ O (bC (dS O func104 (mJ H hT) ?_)))
                     rintro _ w10 ⟨rfl, pV⟩
                     refine bC (aV (iV O O) (jF O O (eY O (dG bV O ?_))))
                     refine ⟨?_, pV⟩; congr 1; rw [dM, if_neg (by omega), if_neg (by omega)]; simp [*]
                   ·(try simp only [Z] at h28)
                    try (exfalso; first | contradiction | omega)
                    all_goals
                     refine bI (bI (bI (iM O O (eY O (dG bV O ?_)))))
                     refine ⟨?_, H⟩; congr 1; rw [dM, if_neg (by omega), if_neg (by omega)]; simp [*]
             ·(try simp only [Z] at h21)
              try (exfalso; first | contradiction | omega)
              all_goals
               refine bI (bI (iM O O (gJ O (qy (aC (bQ O (aV (lK O O) (jP O (fun h29 => ?_) (fun h29 => ?_)))))))))
               ·(try simp only [Z] at h29)
                try (exfalso; first | contradiction | omega)
                all_goals
                 refine bC (bQ O (bC (aV (pI O O) (jF O O (gJ O (bJ O (fun h30 => ?_) (fun h30 => ?_)))))))
                 ·(try simp only [Z] at h30)
                  try (exfalso; first | contradiction | omega)
                  all_goals
                   refine jC O (aT (aF (dG bV O ?_)))
                   refine ⟨?_, H⟩; congr 1; rw [dM, if_neg (by omega), if_pos (by omega)]
                 ·(try simp only [Z] at h30)
                  try (exfalso; first | contradiction | omega)
                  all_goals
                   refine bY (aJ (aX (bP O (dS O func103 (rM) ?_))))
                   rintro _ _ ⟨rfl, rfl⟩
                   refine jP O (fun h31 => ?_) (fun h31 => ?_)
                   ·(try simp only [Z] at h31)
                    try (exfalso; first | contradiction | omega)
                    all_goals
                     refine bC (bQ O (bC (dS O func104 (mJ H hT) ?_)))
                     rintro _ w12 ⟨rfl, um⟩
                     refine bC (aV (iV O O) (jF O O (eY O (dG bV O ?_))))
                     refine ⟨?_, um⟩; congr 1; rw [dM, if_neg (by omega), if_neg (by omega)]; simp [*]
                   ·(try simp only [Z] at h31)
                    try (exfalso; first | contradiction | omega)
                    all_goals
                     refine bI (bI (bI (iM O O (eY O (dG bV O ?_)))))
                     refine ⟨?_, H⟩; congr 1; rw [dM, if_neg (by omega), if_neg (by omega)]; simp [*]
               ·(try simp only [Z] at h29)
                try (exfalso; first | contradiction | omega)
                all_goals
                 refine bI (bI (iM O O (gJ O (qy (bY (aJ (aX (bP O (dS O func103 (rM) ?_)))))))))
                 rintro _ _ ⟨rfl, rfl⟩
                 refine jP O (fun h32 => ?_) (fun h32 => ?_)
                 ·(try simp only [Z] at h32)
                  try (exfalso; first | contradiction | omega)
                  all_goals
                   refine bC (bQ O (bC (dS O func104 (mJ H hT) ?_)))
                   rintro _ RV ⟨rfl, Ag⟩
                   refine bC (aV (iV O O) (jF O O (eY O (dG bV O ?_))))
                   refine ⟨?_, Ag⟩; congr 1; rw [dM, if_neg (by omega), if_neg (by omega)]; simp [*]
                 ·(try simp only [Z] at h32)
                  try (exfalso; first | contradiction | omega)
                  all_goals
                   refine bI (bI (bI (iM O O (eY O (dG bV O ?_)))))
                   refine ⟨?_, H⟩; congr 1; rw [dM, if_neg (by omega), if_neg (by omega)]; simp [*]
         ·(try simp only [Z] at h17)
          try (exfalso; first | contradiction | omega)
          all_goals
           refine bI (bI (iM O O (gJ O (qy (bP O (aV (lK O O) (jP O (fun h33 => ?_) (fun h33 => ?_))))))))
           ·(try simp only [Z] at h33)
            try (exfalso; first | contradiction | omega)
            all_goals
             refine bC (bQ O (bC (aV (pI O O) (jF O O (gJ O (bJ O (fun h34 => ?_) (fun h34 => ?_)))))))
             ·(try simp only [Z] at h34)
              try (exfalso; first | contradiction | omega)
              all_goals
               refine fZ (bJ O (fun h35 => ?_) (fun h35 => ?_))
               ·(try simp only [Z] at h35)
                try (exfalso; first | contradiction | omega)
                all_goals
                 refine jC O (aT (aF (dG bV O ?_)))
                 refine ⟨?_, H⟩; congr 1; rw [dM, if_neg (by omega), if_pos (by omega)]
               ·(try simp only [Z] at h35)
                try (exfalso; first | contradiction | omega)
                all_goals
                 refine bY (aJ (aX (bP O (dS O func103 (rM) ?_))))
                 rintro _ _ ⟨rfl, rfl⟩
                 refine jP O (fun h36 => ?_) (fun h36 => ?_)
                 ·(try simp only [Z] at h36)
                  try (exfalso; first | contradiction | omega)
                  all_goals
                   refine bC (bQ O (bC (dS O func104 (mJ H hT) ?_)))
                   rintro _ w16 ⟨rfl, yH⟩
                   refine bC (aV (iV O O) (jF O O (eY O (dG bV O ?_))))
                   refine ⟨?_, yH⟩; congr 1; rw [dM, if_neg (by omega), if_neg (by omega)]; simp [*]
                 ·(try simp only [Z] at h36)
                  try (exfalso; first | contradiction | omega)
                  all_goals
                   refine bI (bI (bI (iM O O (eY O (dG bV O ?_)))))
                   refine ⟨?_, H⟩; congr 1; rw [dM, if_neg (by omega), if_neg (by omega)]; simp [*]
             ·(try simp only [Z] at h34)
              try (exfalso; first | contradiction | omega)
              all_goals
               refine aC (bQ O (aV (lK O O) (jP O (fun h37 => ?_) (fun h37 => ?_))))
               ·(try simp only [Z] at h37)
                try (exfalso; first | contradiction | omega)
                all_goals
                 refine bC (bQ O (bC (aV (pI O O) (jF O O (gJ O (bJ O (fun h38 => ?_) (fun h38 => ?_)))))))
                 ·(try simp only [Z] at h38)
                  try (exfalso; first | contradiction | omega)
                  all_goals
                   refine jC O (aT (aF (dG bV O ?_)))
                   refine ⟨?_, H⟩; congr 1; rw [dM, if_neg (by omega), if_pos (by omega)]
                 ·(try simp only [Z] at h38)
                  try (exfalso; first | contradiction | omega)
                  all_goals
                   refine bY (aJ (aX (bP O (dS O func103 (rM) ?_))))
                   rintro _ _ ⟨rfl, rfl⟩
                   refine jP O (fun h39 => ?_) (fun h39 => ?_)
                   ·(try simp only [Z] at h39)
                    try (exfalso; first | contradiction | omega)
                    all_goals
                     refine bC (bQ O (bC (dS O func104 (mJ H hT) ?_)))
                     rintro _ XF ⟨rfl, CG⟩
                     refine bC (aV (iV O O) (jF O O (eY O (dG bV O ?_))))
                     refine ⟨?_, CG⟩; congr 1; rw [dM, if_neg (by omega), if_neg (by omega)]; simp [*]
                   ·(try simp only [Z] at h39)
                    try (exfalso; first | contradiction | omega)
                    all_goals
                     refine bI (bI (bI (iM O O (eY O (dG bV O ?_)))))
                     refine ⟨?_, H⟩; congr 1; rw [dM, if_neg (by omega), if_neg (by omega)]; simp [*]
               ·(try simp only [Z] at h37)
                try (exfalso; first | contradiction | omega)
                all_goals
                 refine bI (bI (iM O O (gJ O (qy (bY (aJ (aX (bP O (dS O func103 (rM) ?_)))))))))
                 rintro _ _ ⟨rfl, rfl⟩
                 refine jP O (fun h40 => ?_) (fun h40 => ?_)
                 ·(try simp only [Z] at h40)
                  try (exfalso; first | contradiction | omega)
                  all_goals
                   refine bC (bQ O (bC (dS O func104 (mJ H hT) ?_)))
                   rintro _ w20 ⟨rfl, OU⟩
                   refine bC (aV (iV O O) (jF O O (eY O (dG bV O ?_))))
                   refine ⟨?_, OU⟩; congr 1; rw [dM, if_neg (by omega), if_neg (by omega)]; simp [*]
                 ·(try simp only [Z] at h40)
                  try (exfalso; first | contradiction | omega)
                  all_goals
                   refine bI (bI (bI (iM O O (eY O (dG bV O ?_)))))
                   refine ⟨?_, H⟩; congr 1; rw [dM, if_neg (by omega), if_neg (by omega)]; simp [*]
           ·(try simp only [Z] at h33)
            try (exfalso; first | contradiction | omega)
            all_goals
             refine bI (bI (iM O O (gJ O (qy (aC (bQ O (aV (lK O O) (jP O (fun h41 => ?_) (fun h41 => ?_)))))))))
             ·(try simp only [Z] at h41)
              try (exfalso; first | contradiction | omega)
              all_goals
               refine bC (bQ O (bC (aV (pI O O) (jF O O (gJ O (bJ O (fun h42 => ?_) (fun h42 => ?_)))))))
               ·(try simp only [Z] at h42)
                try (exfalso; first | contradiction | omega)
                all_goals
                 refine jC O (aT (aF (dG bV O ?_)))
                 refine ⟨?_, H⟩; congr 1; rw [dM, if_neg (by omega), if_pos (by omega)]
               ·(try simp only [Z] at h42)
                try (exfalso; first | contradiction | omega)
                all_goals
                 refine bY (aJ (aX (bP O (dS O func103 (rM) ?_))))
                 rintro _ _ ⟨rfl, rfl⟩
                 refine jP O (fun h43 => ?_) (fun h43 => ?_)
                 ·(try simp only [Z] at h43)
                  try (exfalso; first | contradiction | omega)
                  all_goals
                   refine bC (bQ O (bC (dS O func104 (mJ H hT) ?_)))
                   rintro _ w22 ⟨rfl, OV⟩
                   refine bC (aV (iV O O) (jF O O (eY O (dG bV O ?_))))
                   refine ⟨?_, OV⟩; congr 1; rw [dM, if_neg (by omega), if_neg (by omega)]; simp [*]
                 ·(try simp only [Z] at h43)
                  try (exfalso; first | contradiction | omega)
                  all_goals
                   refine bI (bI (bI (iM O O (eY O (dG bV O ?_)))))
                   refine ⟨?_, H⟩; congr 1; rw [dM, if_neg (by omega), if_neg (by omega)]; simp [*]
             ·(try simp only [Z] at h41)
              try (exfalso; first | contradiction | omega)
              all_goals
               refine bI (bI (iM O O (gJ O (qy (bY (aJ (aX (bP O (dS O func103 (rM) ?_)))))))))
               rintro _ _ ⟨rfl, rfl⟩
               refine jP O (fun h44 => ?_) (fun h44 => ?_)
               ·(try simp only [Z] at h44)
                try (exfalso; first | contradiction | omega)
                all_goals
                 refine bC (bQ O (bC (dS O func104 (mJ H hT) ?_)))
                 rintro _ w24 ⟨rfl, Xh⟩
                 refine bC (aV (iV O O) (jF O O (eY O (dG bV O ?_))))
                 refine ⟨?_, Xh⟩; congr 1; rw [dM, if_neg (by omega), if_neg (by omega)]; simp [*]
               ·(try simp only [Z] at h44)
                try (exfalso; first | contradiction | omega)
                all_goals
                 refine bI (bI (bI (iM O O (eY O (dG bV O ?_)))))
                 refine ⟨?_, H⟩; congr 1; rw [dM, if_neg (by omega), if_neg (by omega)]; simp [*]
end
end Go.Proofs.YtpdeedplgmbopaaGreatDoor
end
section
set_option maxRecDepth 100000
namespace Go.Proofs.YtpdeedplgmbopaaGreatDoor
open Go.ChangeShapes Go.WideShapes Go.ChangeAt Go.RowKit
def QD (x : Int × Int) : DataW Unit := .agg [.lit (.int .i32 x.1), .lit (.int .i32 x.2)]
section
variable {enc : TypeId × Value → Unit} {w : World} {base : Nat} {spare : Nat → Bool} {held : Bool} {fuel : Nat} {ps : List MemPlace}
theorem XG {cs : List Value} {x : Int × Int} (h : DataW.trod enc Tryz.prog w base spare held fuel 213 cs = some (QD x, ps)) : cs = [.int .i32 x.1, .int .i32 x.2] := by
  obtain ⟨xs, n, -, hx, hl, hl2, hf⟩ := DataW.trod_struct Tryz.underlying213 h
  rw [show Tryz.prog.cellsOf 213 = 2 from by kernel_rfl] at hl
  simp only [Prod.mk.injEq, QD, DataW.agg.injEq] at hx
  match xs, hl2, hx, cs, hl with
  | [y0, y1], _, hx, [c0, c1], _ =>
    have h0 : DataW.trod enc Tryz.prog w base spare held n 21 (([c0, c1].drop 0).take (Tryz.prog.cellsOf 21)) = some y0 := hf 0 _ rfl
    have h1 : DataW.trod enc Tryz.prog w base spare held n 21 (([c0, c1].drop 1).take (Tryz.prog.cellsOf 21)) = some y1 := hf 1 _ rfl
    simp only [List.map_cons, List.map_nil, List.cons.injEq] at hx
    obtain ⟨n0, e0, d0, -⟩ := DataW.trod_int Tryz.underlying21 h0
    obtain ⟨n1, e1, d1, -⟩ := DataW.trod_int Tryz.underlying21 h1
    rw [show Tryz.prog.cellsOf 21 = 1 from by kernel_rfl] at e0 e1
    simp at e0 e1
    rw [d0, d1] at hx
    simp at hx
    subst e0; subst e1
    rw [hx.1.1, hx.1.2]
theorem Uu {t n : Nat} {cs : List Value} {T : List (Int × Int)} (ht : Tryz.prog.underlying t = some (.array n 213)) (hc : Tryz.prog.cellsOf t = n * 2) (h : DataW.trod enc Tryz.prog w base spare held fuel t cs = some (.agg (T.map QD), ps)) : cs = qV T := by
  obtain ⟨xs, m, -, hx, hl, hl2, hel⟩ := DataW.trod_array ht h
  simp only [Prod.mk.injEq, DataW.agg.injEq] at hx
  rw [hc] at hl
  have hTn : T.length = n := by have := congrArg List.length hx.1; simpa [hl2] using this
  have hv := J4 T
  apply List.ext_getElem?
  intro j
  by_cases hj : j < n * 2
  · have hk : j / 2 < n := by omega
    have h1 := hel (j / 2) hk
    rw [show Tryz.prog.cellsOf 213 = 2 from by kernel_rfl, List.getElem?_eq_getElem (by omega)] at h1
    have h2 : xs[j / 2].1 = QD (T.getD (j / 2) (0, 0)) := by
      have := congrArg (fun l => l[j / 2]?) hx.1
      simp [List.getElem?_eq_getElem (show j / 2 < T.length by omega), List.getElem?_eq_getElem (show j / 2 < xs.length by omega)] at this
      rw [List.getD_eq_getElem?_getD, List.getElem?_eq_getElem (show j / 2 < T.length by omega), Option.getD_some, this]
    have h3 := XG (x := T.getD (j / 2) (0, 0)) (ps := xs[j / 2].2) (by rw [h1, ← h2])
    obtain ⟨e0, e1⟩ := FP T (j / 2) (by omega)
    have hq : (qV T)[j]? = some ((qV T).getD j undef) := by rw [List.getD_eq_getElem?_getD, List.getElem?_eq_getElem (by omega)]; rfl
    rw [hq]
    rcases (show j = j / 2 * 2 ∨ j = j / 2 * 2 + 1 by omega) with hj2 | hj2
    · have := congrArg (fun l => l[0]?) h3
      simp [List.getElem?_drop] at this
      rw [show j / 2 * 2 = j from by omega] at this e0
      rw [this, e0]; simp [List.getD_eq_getElem?_getD]
    · have := congrArg (fun l => l[1]?) h3
      simp [List.getElem?_take, List.getElem?_drop] at this
      rw [show j / 2 * 2 + 1 = j from by omega] at this e1
      rw [this, e1]; simp [List.getD_eq_getElem?_getD]
  · rw [List.getElem?_eq_none (by omega), List.getElem?_eq_none (by omega)]
end
end Go.Proofs.YtpdeedplgmbopaaGreatDoor
end
section
namespace Go.Proofs.YtpdeedplgmbopaaGreatDoor
open Go.ChangeShapes Go.WideShapes Go.ChangeAt Go.RowKit
theorem abg : Tryz.prog.globalNamed "lanyard/ucell.none" = some 0 := by kernel_rfl
theorem abh : Tryz.prog.globalNamed "lanyard/ucell.wide" = some 1 := by kernel_rfl
theorem abj : (Tryz.prog.globals[0]?).map (·.type) = some 214 := by kernel_rfl
theorem abk : (Tryz.prog.globals[1]?).map (·.type) = some 215 := by kernel_rfl
abbrev QE : List (String × DataW Unit) := [("lanyard/ucell.none", Rows.laid_lanyard_ucell_none), ("lanyard/ucell.wide", Rows.laid_lanyard_ucell_wide)]
theorem XH {W : World} (h : laidMetH Tryz.prog QE W) : yG W := by
  rw [MakeChecks.laidMetH_plain _ _ _ (by kernel_rfl)] at h
  obtain ⟨ps, ⟨g0, t0, cs0, f0, p0, q0, hg0, ht0, hv0, hd0, ⟨g1, t1, cs1, f1, p1, q1, hg1, ht1, hv1, hd1, _, _⟩, _⟩, _, _⟩ := h
  obtain rfl := Option.some.inj (abg.symm.trans hg0)
  obtain rfl := Option.some.inj (abh.symm.trans hg1)
  obtain rfl := Option.some.inj (abj.symm.trans ht0)
  obtain rfl := Option.some.inj (abk.symm.trans ht1)
  have e0 := Uu (T := QB) Tryz.underlying214 (by kernel_rfl) hd0
  have e1 := Uu (T := QC) Tryz.underlying215 (by kernel_rfl) hd1
  refine ⟨⟨by decide, _, 15, rfl, by decide, by decide, fun _ => ⟨0, 0, rfl, fun j hj => ?_⟩⟩, ⟨by decide, _, 14, rfl, by decide, by decide, fun _ => ⟨1, 0, rfl, fun j hj => ?_⟩⟩⟩
  · rw [Nat.zero_add, World.var?_cell hg0 hv0 j, ← Array.getElem?_toList, e0, List.getD_eq_getElem?_getD, List.getElem?_eq_getElem (by rw [J4]; exact hj)]; rfl
  · rw [Nat.zero_add, World.var?_cell hg1 hv1 j, ← Array.getElem?_toList, e1, List.getD_eq_getElem?_getD, List.getElem?_eq_getElem (by rw [J4]; exact hj)]; rfl
theorem Uw (os : Os) (args : Array Value) : laidMetH Tryz.prog QE ((World.doorLaid Tryz.prog 400 os).forCall (fun _ _ => 0) ⟨#[], args, []⟩).memory :=
  laidMetH_of_parts3 (fuel := 8) (laidMet_of_run' 8 (by kernel_rfl) (by kernel_rfl)) (by kernel_rfl) (by kernel_rfl)
end Go.Proofs.YtpdeedplgmbopaaGreatDoor
end
section
namespace Go.Proofs.YtpdeedplgmbopaaGreatDoor
open Go.RowKit

end Go.Proofs.YtpdeedplgmbopaaGreatDoor
end
section
namespace Go.Proofs.YtpdeedplgmbopaaGreatDoor
open Go.RowKit
open _root_.Go.Proofs.Tryz
theorem CJ : (prog.info? 21).map (fun i => (i.zero, i.size, i.bytes)) = some (some (.int .i32 0), 1, 4) := by kernel_rfl
theorem pq {w0 w : World} {F : HP} {v : Value} {l : List Int} (H : V w0 w F) (hr : jZ w0 F .i32 v l) (hb : l.length * 4 ≤ 140737488355328) :
    gI prog 71 #[v] w fun v' w' => V w0 w' (kQ 21 .i32 v' l • F) := by
  obtain ⟨a, c, rfl, h1, h2, h3⟩ := (hr w H).open
  refine gG func71 ntmps71 ?_
  refine jg O (aP (bP O (aV (zq aB O O) ?_)))
  refine jh O (fun h1 => ?_) (fun h1 => ?_)
  · (try simp only [Z] at h1)
    refine jC O (aF (dG results71 O ?_))
    obtain rfl : a = none := by simpa using h1
    obtain rfl : l = [] := by
      cases l with
      | nil => rfl
      | cons x l => obtain ⟨b, o, e, _⟩ := h3 (by simp); cases e
    exact H.iP none
  · (try simp only [Z] at h1)
    refine fZ (iE (jr (jQ (vs := []) H aB bT uO O O O (by decide) (by simp)) ?_))
    rintro _ w1 H1
    refine bQ O (jr (lD (l := []) H1 (hr.under _ H1) aB CJ O O (by simp; omega) (by simpa using hb)) ?_)
    rintro _ w2 H2
    refine eY O (dG results71 O ?_)
    exact H2
theorem Ux {w0 w : World} {F : HP} {n : Int} (H : V w0 w F) (h0 : 0 ≤ n) (hb : n ≤ 70368744177664) :
  gI prog 195 #[.slice none 0 0, .int .i64 n] w fun v' w' => V w0 w' (kQ 21 .i32 v' [] • F) := by
 refine oq func195 ntmps195 ?_
 refine jg O (aP (bP O (aV (iL O O) (iJ (wcB O (fun h1 => ?_))))))
 (try simp only [Z] at h1)
 refine fZ (aP (bP O (bQ O (aV (YT aB O) (bQ O (aV (ny aB O) (aV (kX O O (by omega)) (aV (kX O O (by omega)) (gJ O (bP O (aV (iV O O) (jh O (fun h2 => ?_) (fun h2 => ?_)))))))))))))
 ·(try simp only [Z] at h2)
  refine aC (jJ O O (aV (YT aB O) (aV (Cj aB bT O O O (by omega)) ?_)))
  refine bQ O (jr (FI H aB aK CJ O O (by omega) (by omega) (by omega)) ?_)
  rintro _ w1 ⟨g, c, cur, rfl, hc1, hc2, hc3, H1⟩
  refine bQ O (aV (ny aB O) (aV (Cj aB bT O O O (by omega)) ?_))
  refine gJ O (bP O (eY O (dG results195 O ?_)))
  exact H1.zB (o := 0) (by simp) (Jh 1 0 g 0 _ c) (by simp) hc2 (by simpa using hc3) (by simp)
 ·(try simp only [Z] at h2)
  refine fZ (bP O (eY O (dG results195 O ?_)))
  exact H.iP none
theorem OW {w0 w : World} {F : HP} {v : Value} {vs : List Value} {ls : List (List Int)} (H : V w0 w F) (hv : Ul w0 F 1 v ls.length vs) (hls : ∀ k, k < ls.length → jZ w0 F .i32 (vs.getD k undef) (ls.getD k [])) (hb : ls.flatten.length * 4 ≤ 140737488355328) :
  gI prog 172 #[v] w fun v' w' => V w0 w' (kQ 21 .i32 v' ls.flatten • F) := by
 obtain ⟨_, a, c, rfl, hc1, hc2, _⟩ := hv w H
 refine gG func172 ntmps172 ?_
 refine jg O (jg O (aP (bP O (aV (ny iK O) (bQ O (iJ (aY ?_)))))))
 refine fF [(0, _), (9, _), (10, _)] (fun (k : Nat) => [(3, .int .i64 ((ls.take k).flatten.length : Int)), (11, .int .i64 (k : Int))]) (fun (k : Nat) W => k ≤ ls.length ∧ V w0 W F) (fun (k : Nat) => ls.length - k) (0) uM (Sub.jE O (by simp) (Sub.jE O (O) (Sub.nil _))) ⟨by omega, H⟩ ?_
 rintro k w1 ⟨hk, HL⟩
 dsimp only [List.cons_append, List.nil_append]
 refine iE (aV (iL O O) (pJ (bJ O (fun h1 => ?_) (fun h1 => ?_))))
 ·(try simp only [Z] at h1)
  refine fZ (aP (aY (aP ?_)))
  have hk1 : k < ls.length := by omega
  obtain ⟨b, o, rfl, hc⟩ := hv.cell HL (j := k) (by omega)
  obtain ⟨ak, ck, ek, hk2, hk3, _⟩ := (hls k hk1 _ HL).open
  rw [ek] at hc
  have hfl := JV ls (k + 1)
  rw [Ae ls hk1, List.length_append] at hfl
  refine aC (aV (dI iK dH O O (by omega)) ?_)
  refine aV (fA (dn aB O) O (by rw [show ((k : Int).toNat * 1) = k from by omega]; exact hc)) ?_
  refine gJ O (bP O (bQ O (aV (ny aB O) (aV (gy O O (by omega)) (gJ O (bP O (aV (iL O O) (iJ (wcB O (fun h2 => ?_))))))))))
  (try simp only [Z] at h2)
  refine bY (aJ (aX (aC (aV (gy O O (by omega)) (bQ O (bM ?_))))))
  refine dL (k + 1) ?_ ?_ ?_ ?_
  ·exact (Sub.jE O (by rw [Ae ls hk1, List.length_append, Int.natCast_add]) lI)
  ·exact uM
  ·(try dsimp only)
   first | done | exact ⟨by omega, HL⟩
  ·(try dsimp only); omega
 ·(try simp only [Z] at h1)
  refine dB (aI (aI (aZ (aX (bP O (dS O func195 (Ux HL (by omega) (by have := JV ls k; omega)) ?_))))))
  rintro vg w2 H2
  refine vk O (bP O (aV (ny iK O) (bQ O (iJ (aY ?_)))))
  refine fF [(25, _), (26, _)] (fun (⟨k, u⟩ : Nat × Value) => [(6, u), (27, .int .i64 (k : Int))]) (fun (⟨k, u⟩ : Nat × Value) W => k ≤ ls.length ∧ V w0 W (kQ 21 .i32 u (ls.take k).flatten • F)) (fun (⟨k, u⟩ : Nat × Value) => ls.length - k) ((0, vg)) qB qB ⟨by omega, H2⟩ ?_
  rintro ⟨k, u⟩ w3 ⟨hk, HM⟩
  dsimp only [List.cons_append, List.nil_append]
  refine iE (aV (iL O O) (pJ (bJ O (fun h3 => ?_) (fun h3 => ?_))))
  ·(try simp only [Z] at h3)
   refine fZ (aP (aY (aP ?_)))
   have hk1 : k < ls.length := by omega
   obtain ⟨b, o, rfl, hc⟩ := hv.cell HM.right (j := k) (by omega)
   have hrk := hls k hk1
   have hfl := JV ls (k + 1)
   rw [Ae ls hk1, List.length_append] at hfl
   refine aC (aV (dI iK dH O O (by omega)) ?_)
   refine aV (fA (dn aB O) O (by rw [show ((k : Int).toNat * 1) = k from by omega]; exact hc)) ?_
   refine gJ O (aC (jJ O O (jr (lD HM (hrk _ HM.right) aB CJ O O (by omega) (by omega)) ?_)))
   rintro va w4 H4
   refine fU O (bM (aJ (aX (aC (aV (gy O O (by omega)) (bQ O (bM ?_)))))))
   refine dL ((k + 1, va)) ?_ ?_ ?_ ?_
   ·exact qB
   ·exact qB
   ·(try dsimp only)
    first | done | exact ⟨by omega, by rw [Ae ls hk1]; exact H4⟩
   ·(try dsimp only); omega
  ·(try simp only [Z] at h3)
   refine dB (aI (aI (aZ (aX (bP O (eY O (dG results172 O ?_)))))))
   rw [List.take_of_length_le (by omega)] at HM; exact HM
theorem LU {w0 w : World} {F : HP} {b : Nat} {T : TypeId} {u1 u2 : Value} {l1 l2 : List Int} (H : V w0 w (dK b (.cells #[u1, u2] T (0, 0)) • F)) (h1 : jZ w0 (dK b (.cells #[u1, u2] T (0, 0)) • F) .i32 u1 l1) (h2 : jZ w0 (dK b (.cells #[u1, u2] T (0, 0)) • F) .i32 u2 l2)
    (hb : (l1.length + l2.length) * 4 ≤ 140737488355328) :
    gI prog 172 #[.slice (some ⟨b, 0, none⟩) 2 2] w fun v' w' => V w0 w' (kQ 21 .i32 v' (l1 ++ l2) • dK b (.cells #[u1, u2] T (0, 0)) • F) := by
  have := OW (ls := [l1, l2]) (vs := [u1, u2]) (v := .slice (some ⟨b, 0, none⟩) 2 2) H (fun W HW => ⟨rfl, _, 2, rfl, by simp, by decide, fun _ => ⟨b, 0, rfl, fun j hj => ?_⟩⟩) (fun k hk => ?_) (by simpa using hb)
  · simpa using this
  · refine je HW.get.2 ?_
    simp at hj
    match j, hj with
    | 0, _ => rfl
    | 1, _ => rfl
  · simp at hk
    match k, hk with
    | 0, _ => exact h1
    | 1, _ => exact h2
end Go.Proofs.YtpdeedplgmbopaaGreatDoor
end
