import Derived.Test.YtpdeedplgmbopaaGreatDoorZ4
import Derived.Test.YtpdeedplgmbopaaGreatDoorProg
import Derived.Test.YtpdeedplgmbopaaGreatDoorRows
import Derived.Test.YtpdeedplgmbopaaGreatDoorTie
import Derived.Test.YtpdeedplgmbopaaGreatDoorZ3
set_option linter.unusedSimpArgs false
set_option linter.unusedVariables false
/- Texts of mine, joined, their names in short: Tab LaidT Laid Equal Slices. -/
section
namespace Go.Proofs.YtpdeedplgmbopaaGreatDoor
open Go.RowKit
open _root_.Go.Proofs.Tryz
def iE (r : Int) : Bool := decide (0 ≤ r ∧ r < 55296 ∨ 57343 < r ∧ r ≤ 1114111)
def fU (r : Int) : Bool := decide (0 ≤ r ∧ r < 32 ∨ 127 ≤ r ∧ r ≤ 159)
def within (r : Int) (T : List (Int × Int)) : Bool := T.any fun x => decide (x.1 ≤ r ∧ r ≤ x.2)
def GX : List (Int × Int) := [(768, 879), (1155, 1161), (1425, 1469), (1552, 1562), (1611, 1631), (3633, 3633), (3636, 3642), (3655, 3662), (6832, 6911), (7616, 7679), (8203, 8207), (8400, 8447), (12441, 12442), (65024, 65039), (65056, 65071)]
def GY : List (Int × Int) := [(4352, 4447), (11904, 12350), (12353, 13311), (13312, 19903), (19968, 40959), (40960, 42191), (44032, 55203), (63744, 64255), (65072, 65135), (65280, 65376), (65504, 65510), (127744, 128591), (129280, 129535), (131072, 262141)]
def qZ (r : Int) : Int := if !iE r || fU r || within r GX then 0 else if within r GY then 2 else 1
def dO (r : Int) : Bool :=
  if r < 192 then decide (48 ≤ r ∧ r ≤ 57 ∨ 65 ≤ r ∧ r ≤ 90 ∨ 97 ≤ r ∧ r ≤ 122)
  else if r = 215 ∨ r = 247 ∨ r = 65533 ∨ 8192 ≤ r ∧ r ≤ 8303 ∨ 12288 ≤ r ∧ r ≤ 12351 ∨ 65280 ≤ r ∧ r ≤ 65295 then false
  else iE r && decide (0 < qZ r)
theorem V.cell {w0 w : World} {F : HP} (H : V w0 w F) {a : Addr} {v : Value} (h : w0.cell? a = some v) : w.cell? a = some v := (H.base.cell (World.block_lt_of_cell? _ _ h)).trans h
theorem TL {w : World} {b o : Nat} {u v : Value} (h : w.cell? ⟨b, o, none⟩ = some u) (k : w.cell? ⟨b, o + 1, none⟩ = some v) : ∀ (j : Nat) x, ([u, v] : List Value)[j]? = some x → w.cell? ⟨b, o + j, none⟩ = some x := by
  intro j x hj
  match j, hj with
  | 0, hj => cases hj; exact h
  | 1, hj => cases hj; exact k
  | j + 2, hj => simp at hj
def sW (T : List (Int × Int)) : List Value := T.flatMap fun x => [.int .i32 x.1, .int .i32 x.2]
structure zA (w : World) : Prop where
  abV : Rd w 2 (.slice (some ⟨0, 0, none⟩) 15 15) 15 (sW GX)
  abW : Rd w 2 (.slice (some ⟨1, 0, none⟩) 14 14) 14 (sW GY)
section
variable {w0 w : World} {F : HP} {r : Int}
theorem TM : ig prog 145 #[.int .i32 r] w fun v w' => v = .bool (iE r) ∧ w = w' := by
 refine iK func145 ntmps145 ?_
 refine jy O (aK (aV (bM O (Z (oC O O) (iZ O (fun h1 => ?_) (fun h1 => ?_))))))
 ·(try simp only [aC] at h1)
  try (exfalso; first | contradiction | omega)
  all_goals
   refine bg (bG O (bg (Z (fF O O) (iM O O (fV O (bI O (fun h2 => ?_) (fun h2 => ?_)))))))
   ·(try simp only [aC] at h2)
    try (exfalso; first | contradiction | omega)
    all_goals
     refine jB O (aN (ay (dF qE O ?_)))
     refine ⟨?_, O⟩; congr 1; first | (symm; rw [iE, decide_eq_true_eq]; omega) | (symm; rw [iE, decide_eq_false_iff_not]; omega) | (rw [iE, decide_eq_decide]; omega)
   ·(try simp only [aC] at h2)
    try (exfalso; first | contradiction | omega)
    all_goals
     refine bM O (Z (fF O O) (iZ O (fun h3 => ?_) (fun h3 => ?_)))
     ·(try simp only [aC] at h3)
      try (exfalso; first | contradiction | omega)
      all_goals
       refine bg (bG O (bg (Z (oC O O) (iM O O (fV O (bI O (fun h4 => ?_) (fun h4 => ?_)))))))
       ·(try simp only [aC] at h4)
        try (exfalso; first | contradiction | omega)
        all_goals
         refine jB O (aN (ay (dF qE O ?_)))
         refine ⟨?_, O⟩; congr 1; first | (symm; rw [iE, decide_eq_true_eq]; omega) | (symm; rw [iE, decide_eq_false_iff_not]; omega) | (rw [iE, decide_eq_decide]; omega)
       ·(try simp only [aC] at h4)
        try (exfalso; first | contradiction | omega)
        all_goals
         refine bY (aG (aW (jB O (dF qE O ?_))))
         refine ⟨?_, O⟩; congr 1; first | (symm; rw [iE, decide_eq_true_eq]; omega) | (symm; rw [iE, decide_eq_false_iff_not]; omega) | (rw [iE, decide_eq_decide]; omega)
     ·(try simp only [aC] at h3)
      try (exfalso; first | contradiction | omega)
      all_goals
       refine bn (bn (gI O O (fV O (oD (bY (aG (aW (jB O (dF qE O ?_)))))))))
       refine ⟨?_, O⟩; congr 1; first | (symm; rw [iE, decide_eq_true_eq]; omega) | (symm; rw [iE, decide_eq_false_iff_not]; omega) | (rw [iE, decide_eq_decide]; omega)
 ·(try simp only [aC] at h1)
  try (exfalso; first | contradiction | omega)
  all_goals
   refine bn (bn (gI O O (fV O (oD (bM O (Z (fF O O) (iZ O (fun h5 => ?_) (fun h5 => ?_))))))))
   ·(try simp only [aC] at h5)
    try (exfalso; first | contradiction | omega)
    all_goals
     refine bg (bG O (bg (Z (oC O O) (iM O O (fV O (bI O (fun h6 => ?_) (fun h6 => ?_)))))))
     ·(try simp only [aC] at h6)
      try (exfalso; first | contradiction | omega)
      all_goals
       refine jB O (aN (ay (dF qE O ?_)))
       refine ⟨?_, O⟩; congr 1; first | (symm; rw [iE, decide_eq_true_eq]; omega) | (symm; rw [iE, decide_eq_false_iff_not]; omega) | (rw [iE, decide_eq_decide]; omega)
     ·(try simp only [aC] at h6)
      try (exfalso; first | contradiction | omega)
      all_goals
       refine bY (aG (aW (jB O (dF qE O ?_))))
       refine ⟨?_, O⟩; congr 1; first | (symm; rw [iE, decide_eq_true_eq]; omega) | (symm; rw [iE, decide_eq_false_iff_not]; omega) | (rw [iE, decide_eq_decide]; omega)
   ·(try simp only [aC] at h5)
    try (exfalso; first | contradiction | omega)
    all_goals
     refine bn (bn (gI O O (fV O (oD (bY (aG (aW (jB O (dF qE O ?_)))))))))
     refine ⟨?_, O⟩; congr 1; first | (symm; rw [iE, decide_eq_true_eq]; omega) | (symm; rw [iE, decide_eq_false_iff_not]; omega) | (rw [iE, decide_eq_decide]; omega)
theorem uo : ig prog 103 #[.int .i32 r] w fun v w' => v = .bool (iE r) ∧ w = w' := by
  refine iK func103 ntmps103 ?_
  refine jy O (bM O (dX O func145 (TM) ?_))
  rintro _ _ ⟨rfl, rfl⟩
  refine dU O (dF results103 O ?_)
  exact ⟨O, O⟩
theorem NI : ig prog 146 #[.int .i32 r] w fun v w' => v = .bool (fU r) ∧ w = w' := by
  refine iK func146 ntmps146 ?_
  refine jy O (bM O (Z (jw O O) (iZ O (fun h1 => ?_) (fun h1 => ?_))))
  · (try simp only [aC] at h1)
    try (exfalso; first | contradiction | omega)
    all_goals
      refine bg (bG O (bg (Z (fF O O) (iM O O (iZ O (fun h2 => ?_) (fun h2 => ?_))))))
      · (try simp only [aC] at h2)
        try (exfalso; first | contradiction | omega)
        all_goals
          refine bn (bn (bn (mV (mV (bn (iM O O (dU O (dF results146 O ?_))))))))
          refine ⟨?_, O⟩; congr 1; first | (symm; rw [fU, decide_eq_true_eq]; omega) | (symm; rw [fU, decide_eq_false_iff_not]; omega) | (rw [fU, decide_eq_decide]; omega)
      · (try simp only [aC] at h2)
        try (exfalso; first | contradiction | omega)
        all_goals
          refine bg (bG O (bg (Z (jw O O) (bg (iZ O (fun h3 => ?_) (fun h3 => ?_))))))
          · (try simp only [aC] at h3)
            try (exfalso; first | contradiction | omega)
            all_goals
              refine bg (bG O (bg (Z (oC O O) (bg (iM O O (gI O O (dU O (dF results146 O ?_))))))))
              refine ⟨?_, O⟩; congr 1; first | (symm; rw [fU, decide_eq_true_eq]; omega) | (symm; rw [fU, decide_eq_false_iff_not]; omega) | (rw [fU, decide_eq_decide]; omega)
          · (try simp only [aC] at h3)
            try (exfalso; first | contradiction | omega)
            all_goals
              refine bn (bn (bg (gI O O (gI O O (dU O (dF results146 O ?_))))))
              refine ⟨?_, O⟩; congr 1; first | (symm; rw [fU, decide_eq_true_eq]; omega) | (symm; rw [fU, decide_eq_false_iff_not]; omega) | (rw [fU, decide_eq_decide]; omega)
  · (try simp only [aC] at h1)
    try (exfalso; first | contradiction | omega)
    all_goals
      refine bn (bn (gI O O (bG O (bg (bG O (bg (Z (jw O O) (bg (iZ O (fun h4 => ?_) (fun h4 => ?_))))))))))
      · (try simp only [aC] at h4)
        try (exfalso; first | contradiction | omega)
        all_goals
          refine bg (bG O (bg (Z (oC O O) (bg (iM O O (gI O O (dU O (dF results146 O ?_))))))))
          refine ⟨?_, O⟩; congr 1; first | (symm; rw [fU, decide_eq_true_eq]; omega) | (symm; rw [fU, decide_eq_false_iff_not]; omega) | (rw [fU, decide_eq_decide]; omega)
      · (try simp only [aC] at h4)
        try (exfalso; first | contradiction | omega)
        all_goals
          refine bn (bn (bg (gI O O (gI O O (dU O (dF results146 O ?_))))))
          refine ⟨?_, O⟩; congr 1; first | (symm; rw [fU, decide_eq_true_eq]; omega) | (symm; rw [fU, decide_eq_false_iff_not]; omega) | (rw [fU, decide_eq_decide]; omega)
theorem Lm (T : List (Int × Int)) : (sW T).length = T.length * 2 := by
  induction T with
  | nil => rfl
  | cons x r ih => simp only [sW, List.flatMap_cons, List.length_append] at *; simp [ih]; omega
theorem GZ (T : List (Int × Int)) (k : Nat) (h : k < T.length) : (sW T).getD (k * 2) undef = .int .i32 (T.getD k (0, 0)).1 ∧ (sW T).getD (k * 2 + 1) undef = .int .i32 (T.getD k (0, 0)).2 := by
  induction T generalizing k with
  | nil => simp at h
  | cons x r ih =>
    cases k with
    | zero => exact ⟨rfl, rfl⟩
    | succ k =>
      have := ih k (by simpa using h)
      rw [show (k + 1) * 2 = k * 2 + 2 from by omega, show k * 2 + 2 + 1 = (k * 2 + 1) + 2 from by omega]
      simpa [sW, List.getD_eq_getElem?_getD] using this
theorem yg {r : Int} {T : List (Int × Int)} {k : Nat} (h : k < T.length) : within r (T.take (k + 1)) = (within r (T.take k) || decide ((T.getD k (0, 0)).1 ≤ r ∧ r ≤ (T.getD k (0, 0)).2)) := by
  unfold within
  rw [List.take_succ_eq_append_getElem h, List.any_append]
  simp [List.getD_eq_getElem?_getD, h]
theorem G6 {r : Int} {T : List (Int × Int)} {k : Nat} (h : k < T.length) (hk : (T.getD k (0, 0)).1 ≤ r ∧ r ≤ (T.getD k (0, 0)).2) : within r T = true := by
  unfold within
  rw [List.any_eq_true]
  refine ⟨T.getD k (0, 0), ?_, by simpa using hk⟩
  rw [List.getD_eq_getElem?_getD, List.getElem?_eq_getElem h]
  exact List.getElem_mem h
theorem G9 {v : Value} {T : List (Int × Int)} (H : V w0 w F) (hr : Rd w0 2 v T.length (sW T)) (hT : T.length < 1000000) :
  ig prog 147 #[.int .i32 r, v] w fun v w' => v = .bool (within r T) ∧ V w0 w' F := by
 obtain ⟨hlen, a, c, rfl, hc1, hc2, hcell⟩ := hr
 refine nC func147 ntmps147 ?_
 refine jy O (aK (bM O (Z (jZ underlying211 O) (bG O (iy (aV ?_))))))
 refine dJ [(0, _), (7, _), (8, _)] (fun (k : Nat) => [(9, .int .i64 (k : Int))]) (fun (k : Nat) W => k ≤ T.length ∧ within r (T.take k) = false ∧ V w0 W F) (fun (k : Nat) => T.length - k) (0) qC ji ⟨by omega, O, H⟩ ?_
 rintro k w1 ⟨hk, hno, HL⟩
 dsimp only [List.cons_append, List.nil_append]
 refine gW (Z (fF O O) (qW (bI O (fun h1 => ?_) (fun h1 => ?_))))
 ·(try simp only [aC] at h1)
  try (exfalso; first | contradiction | omega)
  all_goals
   refine fG (aK (aV (aK ?_)))
   have hk1 : k < T.length := by omega
   obtain ⟨b0, o, rfl, hq⟩ := hcell (by omega)
   have hq0 := hq (k * 2) (by omega)
   have hq1 := hq (k * 2 + 1) (by omega)
   rw [(GZ T k hk1).1] at hq0
   rw [(GZ T k hk1).2] at hq1
   rw [← Nat.add_assoc] at hq1
   refine aA (Z (dh underlying211 sizeOf213 O O (by omega)) ?_)
   refine Z (zy (cs := [.int .i32 (T.getD k (0, 0)).1, .int .i32 (T.getD k (0, 0)).2]) (by rw [underlying213]; rfl) (Nv underlying213 O) sizeOf213 O O (TL (by rw [show ((k : Int).toNat * 2) = k * 2 from by omega]; exact HL.cell hq0) (by rw [show ((k : Int).toNat * 2) = k * 2 from by omega]; exact HL.cell hq1))) ?_
   refine jL (Gl HL zeroValue213) ?_
   rintro _ w2 ⟨b2, rfl, H2⟩
   refine aO (yC (cs := #[.int .i32 (T.getD k (0, 0)).1, .int .i32 (T.getD k (0, 0)).2]) H2 sizeOf213 O O O O (by simp [Value.oneCell'])) ?_
   rintro _ w3 H3
   have HN := H3.right
   refine sH O (bK 0 underlying213 O bF O (gJ aQ O H3.get.2 O (Z (jw O O) (iZ O (fun h2 => ?_) (fun h2 => ?_)))))
   ·(try simp only [aC] at h2)
    try (exfalso; first | contradiction | omega)
    all_goals
     refine bg (bG O (bg (bK 1 underlying213 O bF O (bg (gJ aQ O H3.get.2 O (bg (Z (oC O O) (iM O O (gQ O (fun h3 => ?_) (fun h3 => ?_))))))))))
     ·(try simp only [aC] at h3)
      try (exfalso; first | contradiction | omega)
      all_goals
       refine jB O (aN (ay (ay (aN (ay (dF results147 O ?_))))))
       exact ⟨by rw [G6 hk1 (by omega)], HN⟩
     ·(try simp only [aC] at h3)
      try (exfalso; first | contradiction | omega)
      all_goals
       refine bY (aG (aW (aA (Z (dP O O (by omega)) (bG O (bD ?_))))))
       refine bZ (k + 1) ?_ ?_ ?_ ?_
       ·exact ji
       ·exact qC
       ·(try dsimp only)
        first | done | exact ⟨by omega, by rw [yg hk1, hno, Bool.false_or, decide_eq_false_iff_not]; omega, HN⟩
       ·(try dsimp only); omega
   ·(try simp only [aC] at h2)
    try (exfalso; first | contradiction | omega)
    all_goals
     refine bn (bn (bn (bn (gI O O (iy (oD (bY (aG (aW (aA (Z (dP O O (by omega)) (bG O (bD ?_)))))))))))))
     refine bZ (k + 1) ?_ ?_ ?_ ?_
     ·exact ji
     ·exact qC
     ·(try dsimp only)
      first | done | exact ⟨by omega, by rw [yg hk1, hno, Bool.false_or, decide_eq_false_iff_not]; omega, HN⟩
     ·(try dsimp only); omega
 ·(try simp only [aC] at h1)
  try (exfalso; first | contradiction | omega)
  all_goals
   refine bQ (aB (aB (aU (aW (jB O (dF results147 O ?_))))))
   exact ⟨by rw [← hno, List.take_of_length_le (by omega)], HL⟩
theorem ni (H : V w0 w F) (hT : zA w0) : ig prog 104 #[.int .i32 r] w fun v w' => v = .int .i64 (qZ r) ∧ V w0 w' F := by
 refine iK func104 ntmps104 ?_
 refine jy O (aK (aV (bM O (dX O func103 (uo) ?_))))
 rintro _ _ ⟨rfl, rfl⟩
 refine Z (mD O) (iZ O (fun h1 => ?_) (fun h1 => ?_))
 ·(try simp only [aC] at h1)
  try (exfalso; first | contradiction | omega)
  all_goals
   refine bn (bn (iM O O (bG O (bn (bn (bn (iM O O (fV O (DC (jB O (aN (ay (dF results104 O ?_)))))))))))))
   exact ⟨by unfold qZ; simp [*], H⟩
 ·(try simp only [aC] at h1)
  try (exfalso; first | contradiction | omega)
  all_goals
   refine bg (bG O (bg (dX O func146 (NI) ?_)))
   rintro _ _ ⟨rfl, rfl⟩
   refine gI O O (iZ O (fun h2 => ?_) (fun h2 => ?_))
   ·(try simp only [aC] at h2)
    try (exfalso; first | contradiction | omega)
    all_goals
     refine bn (bn (bn (iM O O (fV O (DC (jB O (aN (ay (dF results104 O ?_)))))))))
     exact ⟨by unfold qZ; simp [*], H⟩
   ·(try simp only [aC] at h2)
    try (exfalso; first | contradiction | omega)
    all_goals
     refine bg (bG O (bg (Z (Fz underlying214 sizeOf213 O) ?_)))
     refine bg (dX O func147 (G9 (T := GX) H hT.abV (by decide)) ?_)
     rintro _ w3 ⟨rfl, H3⟩
     refine gI O O (fV O (bI O (fun h3 => ?_) (fun h3 => ?_)))
     ·(try simp only [aC] at h3)
      try (exfalso; first | contradiction | omega)
      all_goals
       refine jB O (aN (ay (dF results104 O ?_)))
       exact ⟨by unfold qZ; simp [*], H3⟩
     ·(try simp only [aC] at h3)
      try (exfalso; first | contradiction | omega)
      all_goals
       refine bM O (Z (Fz underlying215 sizeOf213 O) ?_)
       refine dX O func147 (G9 (T := GY) H3 hT.abW (by decide)) ?_
       rintro _ w4 ⟨rfl, H4⟩
       refine fV O (bI O (fun h4 => ?_) (fun h4 => ?_))
       ·(try simp only [aC] at h4)
        try (exfalso; first | contradiction | omega)
        all_goals
         refine jB O (aN (ay (dF results104 O ?_)))
         exact ⟨by unfold qZ; simp [*], H4⟩
       ·(try simp only [aC] at h4)
        try (exfalso; first | contradiction | omega)
        all_goals
         refine bY (aG (aW (jB O (dF results104 O ?_))))
         exact ⟨by unfold qZ; simp [*], H4⟩
theorem Qc (H : V w0 w F) (hT : zA w0) : ig prog 47 #[.int .i32 r] w fun v w' => v = .bool (dO r) ∧ V w0 w' F := by
 refine iK func47 ntmps47 ?_
 refine jy O (aK (bM O (Z (fF O O) (gQ O (fun h1 => ?_) (fun h1 => ?_)))))
 ·(try simp only [aC] at h1)
  try (exfalso; first | contradiction | omega)
  all_goals
   refine bM O (Z (jw O O) (iZ O (fun h2 => ?_) (fun h2 => ?_)))
   ·(try simp only [aC] at h2)
    try (exfalso; first | contradiction | omega)
    all_goals
     refine bg (bG O (bg (Z (oC O O) (iM O O (iZ O (fun h3 => ?_) (fun h3 => ?_))))))
     ·(try simp only [aC] at h3)
      try (exfalso; first | contradiction | omega)
      all_goals
       refine bn (bn (bn (mV (mV (bn (iM O O (bG O (bn (bn (bn (mV (mV (bn (iM O O (dU O (ay (dF dA O ?_)))))))))))))))))
       refine ⟨?_, H⟩; congr 1; rw [dO, if_pos (by omega)]; first | (symm; rw [decide_eq_true_eq]; omega) | (symm; rw [decide_eq_false_iff_not]; omega) | (rw [decide_eq_decide]; omega)
     ·(try simp only [aC] at h3)
      try (exfalso; first | contradiction | omega)
      all_goals
       refine bg (bG O (bg (Z (jw O O) (bg (iZ O (fun h4 => ?_) (fun h4 => ?_))))))
       ·(try simp only [aC] at h4)
        try (exfalso; first | contradiction | omega)
        all_goals
         refine bg (bG O (bg (Z (oC O O) (bg (iM O O (gI O O (iZ O (fun h5 => ?_) (fun h5 => ?_))))))))
         ·(try simp only [aC] at h5)
          try (exfalso; first | contradiction | omega)
          all_goals
           refine bn (bn (bn (mV (mV (bn (iM O O (dU O (ay (dF dA O ?_)))))))))
           refine ⟨?_, H⟩; congr 1; rw [dO, if_pos (by omega)]; first | (symm; rw [decide_eq_true_eq]; omega) | (symm; rw [decide_eq_false_iff_not]; omega) | (rw [decide_eq_decide]; omega)
         ·(try simp only [aC] at h5)
          try (exfalso; first | contradiction | omega)
          all_goals
           refine bg (bG O (bg (Z (jw O O) (bg (iZ O (fun h6 => ?_) (fun h6 => ?_))))))
           ·(try simp only [aC] at h6)
            try (exfalso; first | contradiction | omega)
            all_goals
             refine bg (bG O (bg (Z (oC O O) (bg (iM O O (gI O O (dU O (ay (dF dA O ?_)))))))))
             refine ⟨?_, H⟩; congr 1; rw [dO, if_pos (by omega)]; first | (symm; rw [decide_eq_true_eq]; omega) | (symm; rw [decide_eq_false_iff_not]; omega) | (rw [decide_eq_decide]; omega)
           ·(try simp only [aC] at h6)
            try (exfalso; first | contradiction | omega)
            all_goals
             refine bn (bn (bg (gI O O (gI O O (dU O (ay (dF dA O ?_)))))))
             refine ⟨?_, H⟩; congr 1; rw [dO, if_pos (by omega)]; first | (symm; rw [decide_eq_true_eq]; omega) | (symm; rw [decide_eq_false_iff_not]; omega) | (rw [decide_eq_decide]; omega)
       ·(try simp only [aC] at h4)
        try (exfalso; first | contradiction | omega)
        all_goals
         refine bn (bn (bg (gI O O (gI O O (bG O (bg (bG O (bg (Z (jw O O) (bg (iZ O (fun h7 => ?_) (fun h7 => ?_))))))))))))
         ·(try simp only [aC] at h7)
          try (exfalso; first | contradiction | omega)
          all_goals
           refine bg (bG O (bg (Z (oC O O) (bg (iM O O (gI O O (dU O (ay (dF dA O ?_)))))))))
           refine ⟨?_, H⟩; congr 1; rw [dO, if_pos (by omega)]; first | (symm; rw [decide_eq_true_eq]; omega) | (symm; rw [decide_eq_false_iff_not]; omega) | (rw [decide_eq_decide]; omega)
         ·(try simp only [aC] at h7)
          try (exfalso; first | contradiction | omega)
          all_goals
           refine bn (bn (bg (gI O O (gI O O (dU O (ay (dF dA O ?_)))))))
           refine ⟨?_, H⟩; congr 1; rw [dO, if_pos (by omega)]; first | (symm; rw [decide_eq_true_eq]; omega) | (symm; rw [decide_eq_false_iff_not]; omega) | (rw [decide_eq_decide]; omega)
   ·(try simp only [aC] at h2)
    try (exfalso; first | contradiction | omega)
    all_goals
     refine bn (bn (gI O O (bG O (bg (bG O (bg (Z (jw O O) (bg (iZ O (fun h8 => ?_) (fun h8 => ?_))))))))))
     ·(try simp only [aC] at h8)
      try (exfalso; first | contradiction | omega)
      all_goals
       refine bg (bG O (bg (Z (oC O O) (bg (iM O O (gI O O (iZ O (fun h9 => ?_) (fun h9 => ?_))))))))
       ·(try simp only [aC] at h9)
        try (exfalso; first | contradiction | omega)
        all_goals
         refine bn (bn (bn (mV (mV (bn (iM O O (dU O (ay (dF dA O ?_)))))))))
         refine ⟨?_, H⟩; congr 1; rw [dO, if_pos (by omega)]; first | (symm; rw [decide_eq_true_eq]; omega) | (symm; rw [decide_eq_false_iff_not]; omega) | (rw [decide_eq_decide]; omega)
       ·(try simp only [aC] at h9)
        try (exfalso; first | contradiction | omega)
        all_goals
         refine bg (bG O (bg (Z (jw O O) (bg (iZ O (fun h10 => ?_) (fun h10 => ?_))))))
         ·(try simp only [aC] at h10)
          try (exfalso; first | contradiction | omega)
          all_goals
           refine bg (bG O (bg (Z (oC O O) (bg (iM O O (gI O O (dU O (ay (dF dA O ?_)))))))))
           refine ⟨?_, H⟩; congr 1; rw [dO, if_pos (by omega)]; first | (symm; rw [decide_eq_true_eq]; omega) | (symm; rw [decide_eq_false_iff_not]; omega) | (rw [decide_eq_decide]; omega)
         ·(try simp only [aC] at h10)
          try (exfalso; first | contradiction | omega)
          all_goals
           refine bn (bn (bg (gI O O (gI O O (dU O (ay (dF dA O ?_)))))))
           refine ⟨?_, H⟩; congr 1; rw [dO, if_pos (by omega)]; first | (symm; rw [decide_eq_true_eq]; omega) | (symm; rw [decide_eq_false_iff_not]; omega) | (rw [decide_eq_decide]; omega)
     ·(try simp only [aC] at h8)
      try (exfalso; first | contradiction | omega)
      all_goals
       refine bn (bn (bg (gI O O (gI O O (bG O (bg (bG O (bg (Z (jw O O) (bg (iZ O (fun h11 => ?_) (fun h11 => ?_))))))))))))
       ·(try simp only [aC] at h11)
        try (exfalso; first | contradiction | omega)
        all_goals
         refine bg (bG O (bg (Z (oC O O) (bg (iM O O (gI O O (dU O (ay (dF dA O ?_)))))))))
         refine ⟨?_, H⟩; congr 1; rw [dO, if_pos (by omega)]; first | (symm; rw [decide_eq_true_eq]; omega) | (symm; rw [decide_eq_false_iff_not]; omega) | (rw [decide_eq_decide]; omega)
       ·(try simp only [aC] at h11)
        try (exfalso; first | contradiction | omega)
        all_goals
         refine bn (bn (bg (gI O O (gI O O (dU O (ay (dF dA O ?_)))))))
         refine ⟨?_, H⟩; congr 1; rw [dO, if_pos (by omega)]; first | (symm; rw [decide_eq_true_eq]; omega) | (symm; rw [decide_eq_false_iff_not]; omega) | (rw [decide_eq_decide]; omega)
 ·(try simp only [aC] at h1)
  try (exfalso; first | contradiction | omega)
  all_goals
   refine fG (aK (aV (aK (bM O (Z (cZ O O) (iZ O (fun h12 => ?_) (fun h12 => ?_)))))))
   ·(try simp only [aC] at h12)
    try (exfalso; first | contradiction | omega)
    all_goals
     refine bn (bn (iM O O (bG O (bn (bn (iM O O (fV O (DC (fG (DC (jB O (aN (ay (dF dA O ?_))))))))))))))
     refine ⟨?_, H⟩; congr 1; rw [dO, if_neg (by omega), if_pos (by omega)]
   ·(try simp only [aC] at h12)
    try (exfalso; first | contradiction | omega)
    all_goals
     refine bg (bG O (bg (Z (cZ O O) (gI O O (iZ O (fun h13 => ?_) (fun h13 => ?_))))))
     ·(try simp only [aC] at h13)
      try (exfalso; first | contradiction | omega)
      all_goals
       refine bn (bn (iM O O (fV O (DC (fG (DC (jB O (aN (ay (dF dA O ?_))))))))))
       refine ⟨?_, H⟩; congr 1; rw [dO, if_neg (by omega), if_pos (by omega)]
     ·(try simp only [aC] at h13)
      try (exfalso; first | contradiction | omega)
      all_goals
       refine bg (bG O (bg (Z (cZ O O) (gI O O (fV O (bI O (fun h14 => ?_) (fun h14 => ?_)))))))
       ·(try simp only [aC] at h14)
        try (exfalso; first | contradiction | omega)
        all_goals
         refine fG (bI O (fun h15 => ?_) (fun h15 => ?_))
         ·(try simp only [aC] at h15)
          try (exfalso; first | contradiction | omega)
          all_goals
           refine jB O (aN (ay (dF dA O ?_)))
           refine ⟨?_, H⟩; congr 1; rw [dO, if_neg (by omega), if_pos (by omega)]
         ·(try simp only [aC] at h15)
          try (exfalso; first | contradiction | omega)
          all_goals
           refine bY (aG (aW (bM O (dX O func103 (uo) ?_))))
           rintro _ _ ⟨rfl, rfl⟩
           refine iZ O (fun h16 => ?_) (fun h16 => ?_)
           ·(try simp only [aC] at h16)
            try (exfalso; first | contradiction | omega)
            all_goals
             refine bg (bG O (bg (dX O func104 (ni H hT) ?_)))
             rintro _ w2 ⟨rfl, H2⟩
             refine bg (Z (iw O O) (iM O O (dU O (dF dA O ?_))))
             refine ⟨?_, H2⟩; congr 1; rw [dO, if_neg (by omega), if_neg (by omega)]; simp [*]
           ·(try simp only [aC] at h16)
            try (exfalso; first | contradiction | omega)
            all_goals
             refine bn (bn (bn (gI O O (dU O (dF dA O ?_)))))
             refine ⟨?_, H⟩; congr 1; rw [dO, if_neg (by omega), if_neg (by omega)]; simp [*]
       ·(try simp only [aC] at h14)
        try (exfalso; first | contradiction | omega)
        all_goals
         refine bM O (Z (jw O O) (iZ O (fun h17 => ?_) (fun h17 => ?_)))
         ·(try simp only [aC] at h17)
          try (exfalso; first | contradiction | omega)
          all_goals
           refine bg (bG O (bg (Z (oC O O) (iM O O (fV O (bI O (fun h18 => ?_) (fun h18 => ?_)))))))
           ·(try simp only [aC] at h18)
            try (exfalso; first | contradiction | omega)
            all_goals
             refine fG (bI O (fun h19 => ?_) (fun h19 => ?_))
             ·(try simp only [aC] at h19)
              try (exfalso; first | contradiction | omega)
              all_goals
               refine jB O (aN (ay (dF dA O ?_)))
               refine ⟨?_, H⟩; congr 1; rw [dO, if_neg (by omega), if_pos (by omega)]
             ·(try simp only [aC] at h19)
              try (exfalso; first | contradiction | omega)
              all_goals
               refine bY (aG (aW (bM O (dX O func103 (uo) ?_))))
               rintro _ _ ⟨rfl, rfl⟩
               refine iZ O (fun h20 => ?_) (fun h20 => ?_)
               ·(try simp only [aC] at h20)
                try (exfalso; first | contradiction | omega)
                all_goals
                 refine bg (bG O (bg (dX O func104 (ni H hT) ?_)))
                 rintro _ w4 ⟨rfl, H4⟩
                 refine bg (Z (iw O O) (iM O O (dU O (dF dA O ?_))))
                 refine ⟨?_, H4⟩; congr 1; rw [dO, if_neg (by omega), if_neg (by omega)]; simp [*]
               ·(try simp only [aC] at h20)
                try (exfalso; first | contradiction | omega)
                all_goals
                 refine bn (bn (bn (gI O O (dU O (dF dA O ?_)))))
                 refine ⟨?_, H⟩; congr 1; rw [dO, if_neg (by omega), if_neg (by omega)]; simp [*]
           ·(try simp only [aC] at h18)
            try (exfalso; first | contradiction | omega)
            all_goals
             refine bM O (Z (jw O O) (iZ O (fun h21 => ?_) (fun h21 => ?_)))
             ·(try simp only [aC] at h21)
              try (exfalso; first | contradiction | omega)
              all_goals
               refine bg (bG O (bg (Z (oC O O) (iM O O (fV O (bI O (fun h22 => ?_) (fun h22 => ?_)))))))
               ·(try simp only [aC] at h22)
                try (exfalso; first | contradiction | omega)
                all_goals
                 refine fG (bI O (fun h23 => ?_) (fun h23 => ?_))
                 ·(try simp only [aC] at h23)
                  try (exfalso; first | contradiction | omega)
                  all_goals
                   refine jB O (aN (ay (dF dA O ?_)))
                   refine ⟨?_, H⟩; congr 1; rw [dO, if_neg (by omega), if_pos (by omega)]
                 ·(try simp only [aC] at h23)
                  try (exfalso; first | contradiction | omega)
                  all_goals
                   refine bY (aG (aW (bM O (dX O func103 (uo) ?_))))
                   rintro _ _ ⟨rfl, rfl⟩
                   refine iZ O (fun h24 => ?_) (fun h24 => ?_)
                   ·(try simp only [aC] at h24)
                    try (exfalso; first | contradiction | omega)
                    all_goals
                     refine bg (bG O (bg (dX O func104 (ni H hT) ?_)))
                     rintro _ w6 ⟨rfl, H6⟩
                     refine bg (Z (iw O O) (iM O O (dU O (dF dA O ?_))))
                     refine ⟨?_, H6⟩; congr 1; rw [dO, if_neg (by omega), if_neg (by omega)]; simp [*]
                   ·(try simp only [aC] at h24)
                    try (exfalso; first | contradiction | omega)
                    all_goals
                     refine bn (bn (bn (gI O O (dU O (dF dA O ?_)))))
                     refine ⟨?_, H⟩; congr 1; rw [dO, if_neg (by omega), if_neg (by omega)]; simp [*]
               ·(try simp only [aC] at h22)
                try (exfalso; first | contradiction | omega)
                all_goals
                 refine aA (bG O (Z (jw O O) (iZ O (fun h25 => ?_) (fun h25 => ?_))))
                 ·(try simp only [aC] at h25)
                  try (exfalso; first | contradiction | omega)
                  all_goals
                   refine bg (bG O (bg (Z (oC O O) (iM O O (fV O (bI O (fun h26 => ?_) (fun h26 => ?_)))))))
                   ·(try simp only [aC] at h26)
                    try (exfalso; first | contradiction | omega)
                    all_goals
                     refine jB O (aN (ay (dF dA O ?_)))
                     refine ⟨?_, H⟩; congr 1; rw [dO, if_neg (by omega), if_pos (by omega)]
                   ·(try simp only [aC] at h26)
                    try (exfalso; first | contradiction | omega)
                    all_goals
                     refine bY (aG (aW (bM O (dX O func103 (uo) ?_))))
                     rintro _ _ ⟨rfl, rfl⟩
                     refine iZ O (fun h27 => ?_) (fun h27 => ?_)
                     ·(try simp only [aC] at h27)
                      try (exfalso; first | contradiction | omega)
                      all_goals
                       refine bg (bG O (bg (dX O func104 (ni H hT) ?_)))
                       rintro _ w8 ⟨rfl, H8⟩
                       refine bg (Z (iw O O) (iM O O (dU O (dF dA O ?_))))
                       refine ⟨?_, H8⟩; congr 1; rw [dO, if_neg (by omega), if_neg (by omega)]; simp [*]
                     ·(try simp only [aC] at h27)
                      try (exfalso; first | contradiction | omega)
                      all_goals
                       refine bn (bn (bn (gI O O (dU O (dF dA O ?_)))))
                       refine ⟨?_, H⟩; congr 1; rw [dO, if_neg (by omega), if_neg (by omega)]; simp [*]
                 ·(try simp only [aC] at h25)
                  try (exfalso; first | contradiction | omega)
                  all_goals
                   refine bn (bn (gI O O (fV O (oD (bY (aG (aW (bM O (dX O func103 (uo) ?_)))))))))
                   rintro _ _ ⟨rfl, rfl⟩
                   refine iZ O (fun h28 => ?_) (fun h28 => ?_)
                   ·(try simp only [aC] at h28)
                    try (exfalso; first | contradiction | omega)
                    all_goals
                     refine bg (bG O (bg (dX O func104 (ni H hT) ?_)))
                     rintro _ w10 ⟨rfl, rD⟩
                     refine bg (Z (iw O O) (iM O O (dU O (dF dA O ?_))))
                     refine ⟨?_, rD⟩; congr 1; rw [dO, if_neg (by omega), if_neg (by omega)]; simp [*]
                   ·(try simp only [aC] at h28)
                    try (exfalso; first | contradiction | omega)
                    all_goals
                     refine bn (bn (bn (gI O O (dU O (dF dA O ?_)))))
                     refine ⟨?_, H⟩; congr 1; rw [dO, if_neg (by omega), if_neg (by omega)]; simp [*]
             ·(try simp only [aC] at h21)
              try (exfalso; first | contradiction | omega)
              all_goals
               refine bn (bn (gI O O (fV O (oD (aA (bG O (Z (jw O O) (iZ O (fun h29 => ?_) (fun h29 => ?_)))))))))
               ·(try simp only [aC] at h29)
                try (exfalso; first | contradiction | omega)
                all_goals
                 refine bg (bG O (bg (Z (oC O O) (iM O O (fV O (bI O (fun h30 => ?_) (fun h30 => ?_)))))))
                 ·(try simp only [aC] at h30)
                  try (exfalso; first | contradiction | omega)
                  all_goals
                   refine jB O (aN (ay (dF dA O ?_)))
                   refine ⟨?_, H⟩; congr 1; rw [dO, if_neg (by omega), if_pos (by omega)]
                 ·(try simp only [aC] at h30)
                  try (exfalso; first | contradiction | omega)
                  all_goals
                   refine bY (aG (aW (bM O (dX O func103 (uo) ?_))))
                   rintro _ _ ⟨rfl, rfl⟩
                   refine iZ O (fun h31 => ?_) (fun h31 => ?_)
                   ·(try simp only [aC] at h31)
                    try (exfalso; first | contradiction | omega)
                    all_goals
                     refine bg (bG O (bg (dX O func104 (ni H hT) ?_)))
                     rintro _ w12 ⟨rfl, vX⟩
                     refine bg (Z (iw O O) (iM O O (dU O (dF dA O ?_))))
                     refine ⟨?_, vX⟩; congr 1; rw [dO, if_neg (by omega), if_neg (by omega)]; simp [*]
                   ·(try simp only [aC] at h31)
                    try (exfalso; first | contradiction | omega)
                    all_goals
                     refine bn (bn (bn (gI O O (dU O (dF dA O ?_)))))
                     refine ⟨?_, H⟩; congr 1; rw [dO, if_neg (by omega), if_neg (by omega)]; simp [*]
               ·(try simp only [aC] at h29)
                try (exfalso; first | contradiction | omega)
                all_goals
                 refine bn (bn (gI O O (fV O (oD (bY (aG (aW (bM O (dX O func103 (uo) ?_)))))))))
                 rintro _ _ ⟨rfl, rfl⟩
                 refine iZ O (fun h32 => ?_) (fun h32 => ?_)
                 ·(try simp only [aC] at h32)
                  try (exfalso; first | contradiction | omega)
                  all_goals
                   refine bg (bG O (bg (dX O func104 (ni H hT) ?_)))
                   rintro _ TN ⟨rfl, BJ⟩
                   refine bg (Z (iw O O) (iM O O (dU O (dF dA O ?_))))
                   refine ⟨?_, BJ⟩; congr 1; rw [dO, if_neg (by omega), if_neg (by omega)]; simp [*]
                 ·(try simp only [aC] at h32)
                  try (exfalso; first | contradiction | omega)
                  all_goals
                   refine bn (bn (bn (gI O O (dU O (dF dA O ?_)))))
                   refine ⟨?_, H⟩; congr 1; rw [dO, if_neg (by omega), if_neg (by omega)]; simp [*]
         ·(try simp only [aC] at h17)
          try (exfalso; first | contradiction | omega)
          all_goals
           refine bn (bn (gI O O (fV O (oD (bM O (Z (jw O O) (iZ O (fun h33 => ?_) (fun h33 => ?_))))))))
           ·(try simp only [aC] at h33)
            try (exfalso; first | contradiction | omega)
            all_goals
             refine bg (bG O (bg (Z (oC O O) (iM O O (fV O (bI O (fun h34 => ?_) (fun h34 => ?_)))))))
             ·(try simp only [aC] at h34)
              try (exfalso; first | contradiction | omega)
              all_goals
               refine fG (bI O (fun h35 => ?_) (fun h35 => ?_))
               ·(try simp only [aC] at h35)
                try (exfalso; first | contradiction | omega)
                all_goals
                 refine jB O (aN (ay (dF dA O ?_)))
                 refine ⟨?_, H⟩; congr 1; rw [dO, if_neg (by omega), if_pos (by omega)]
               ·(try simp only [aC] at h35)
                try (exfalso; first | contradiction | omega)
                all_goals
                 refine bY (aG (aW (bM O (dX O func103 (uo) ?_))))
                 rintro _ _ ⟨rfl, rfl⟩
                 refine iZ O (fun h36 => ?_) (fun h36 => ?_)
                 ·(try simp only [aC] at h36)
                  try (exfalso; first | contradiction | omega)
                  all_goals
                   refine bg (bG O (bg (dX O func104 (ni H hT) ?_)))
                   rintro _ w16 ⟨rfl, zB⟩
                   refine bg (Z (iw O O) (iM O O (dU O (dF dA O ?_))))
                   refine ⟨?_, zB⟩; congr 1; rw [dO, if_neg (by omega), if_neg (by omega)]; simp [*]
                 ·(try simp only [aC] at h36)
                  try (exfalso; first | contradiction | omega)
                  all_goals
                   refine bn (bn (bn (gI O O (dU O (dF dA O ?_)))))
                   refine ⟨?_, H⟩; congr 1; rw [dO, if_neg (by omega), if_neg (by omega)]; simp [*]
             ·(try simp only [aC] at h34)
              try (exfalso; first | contradiction | omega)
              all_goals
               refine aA (bG O (Z (jw O O) (iZ O (fun h37 => ?_) (fun h37 => ?_))))
               ·(try simp only [aC] at h37)
                try (exfalso; first | contradiction | omega)
                all_goals
                 refine bg (bG O (bg (Z (oC O O) (iM O O (fV O (bI O (fun h38 => ?_) (fun h38 => ?_)))))))
                 ·(try simp only [aC] at h38)
                  try (exfalso; first | contradiction | omega)
                  all_goals
                   refine jB O (aN (ay (dF dA O ?_)))
                   refine ⟨?_, H⟩; congr 1; rw [dO, if_neg (by omega), if_pos (by omega)]
                 ·(try simp only [aC] at h38)
                  try (exfalso; first | contradiction | omega)
                  all_goals
                   refine bY (aG (aW (bM O (dX O func103 (uo) ?_))))
                   rintro _ _ ⟨rfl, rfl⟩
                   refine iZ O (fun h39 => ?_) (fun h39 => ?_)
                   ·(try simp only [aC] at h39)
                    try (exfalso; first | contradiction | omega)
                    all_goals
                     refine bg (bG O (bg (dX O func104 (ni H hT) ?_)))
                     rintro _ YE ⟨rfl, DT⟩
                     refine bg (Z (iw O O) (iM O O (dU O (dF dA O ?_))))
                     refine ⟨?_, DT⟩; congr 1; rw [dO, if_neg (by omega), if_neg (by omega)]; simp [*]
                   ·(try simp only [aC] at h39)
                    try (exfalso; first | contradiction | omega)
                    all_goals
                     refine bn (bn (bn (gI O O (dU O (dF dA O ?_)))))
                     refine ⟨?_, H⟩; congr 1; rw [dO, if_neg (by omega), if_neg (by omega)]; simp [*]
               ·(try simp only [aC] at h37)
                try (exfalso; first | contradiction | omega)
                all_goals
                 refine bn (bn (gI O O (fV O (oD (bY (aG (aW (bM O (dX O func103 (uo) ?_)))))))))
                 rintro _ _ ⟨rfl, rfl⟩
                 refine iZ O (fun h40 => ?_) (fun h40 => ?_)
                 ·(try simp only [aC] at h40)
                  try (exfalso; first | contradiction | omega)
                  all_goals
                   refine bg (bG O (bg (dX O func104 (ni H hT) ?_)))
                   rintro _ w20 ⟨rfl, Qd⟩
                   refine bg (Z (iw O O) (iM O O (dU O (dF dA O ?_))))
                   refine ⟨?_, Qd⟩; congr 1; rw [dO, if_neg (by omega), if_neg (by omega)]; simp [*]
                 ·(try simp only [aC] at h40)
                  try (exfalso; first | contradiction | omega)
                  all_goals
                   refine bn (bn (bn (gI O O (dU O (dF dA O ?_)))))
                   refine ⟨?_, H⟩; congr 1; rw [dO, if_neg (by omega), if_neg (by omega)]; simp [*]
           ·(try simp only [aC] at h33)
            try (exfalso; first | contradiction | omega)
            all_goals
             refine bn (bn (gI O O (fV O (oD (aA (bG O (Z (jw O O) (iZ O (fun h41 => ?_) (fun h41 => ?_)))))))))
             ·(try simp only [aC] at h41)
              try (exfalso; first | contradiction | omega)
              all_goals
               refine bg (bG O (bg (Z (oC O O) (iM O O (fV O (bI O (fun h42 => ?_) (fun h42 => ?_)))))))
               ·(try simp only [aC] at h42)
                try (exfalso; first | contradiction | omega)
                all_goals
                 refine jB O (aN (ay (dF dA O ?_)))
                 refine ⟨?_, H⟩; congr 1; rw [dO, if_neg (by omega), if_pos (by omega)]
               ·(try simp only [aC] at h42)
                try (exfalso; first | contradiction | omega)
                all_goals
                 refine bY (aG (aW (bM O (dX O func103 (uo) ?_))))
                 rintro _ _ ⟨rfl, rfl⟩
                 refine iZ O (fun h43 => ?_) (fun h43 => ?_)
                 ·(try simp only [aC] at h43)
                  try (exfalso; first | contradiction | omega)
                  all_goals
                   refine bg (bG O (bg (dX O func104 (ni H hT) ?_)))
                   rintro _ w22 ⟨rfl, Qe⟩
                   refine bg (Z (iw O O) (iM O O (dU O (dF dA O ?_))))
                   refine ⟨?_, Qe⟩; congr 1; rw [dO, if_neg (by omega), if_neg (by omega)]; simp [*]
                 ·(try simp only [aC] at h43)
                  try (exfalso; first | contradiction | omega)
                  all_goals
                   refine bn (bn (bn (gI O O (dU O (dF dA O ?_)))))
                   refine ⟨?_, H⟩; congr 1; rw [dO, if_neg (by omega), if_neg (by omega)]; simp [*]
             ·(try simp only [aC] at h41)
              try (exfalso; first | contradiction | omega)
              all_goals
               refine bn (bn (gI O O (fV O (oD (bY (aG (aW (bM O (dX O func103 (uo) ?_)))))))))
               rintro _ _ ⟨rfl, rfl⟩
               refine iZ O (fun h44 => ?_) (fun h44 => ?_)
               ·(try simp only [aC] at h44)
                try (exfalso; first | contradiction | omega)
                all_goals
                 refine bg (bG O (bg (dX O func104 (ni H hT) ?_)))
                 rintro _ w24 ⟨rfl, Yi⟩
                 refine bg (Z (iw O O) (iM O O (dU O (dF dA O ?_))))
                 refine ⟨?_, Yi⟩; congr 1; rw [dO, if_neg (by omega), if_neg (by omega)]; simp [*]
               ·(try simp only [aC] at h44)
                try (exfalso; first | contradiction | omega)
                all_goals
                 refine bn (bn (bn (gI O O (dU O (dF dA O ?_)))))
                 refine ⟨?_, H⟩; congr 1; rw [dO, if_neg (by omega), if_neg (by omega)]; simp [*]
end
end Go.Proofs.YtpdeedplgmbopaaGreatDoor
end
section
set_option maxRecDepth 100000
namespace Go.Proofs.YtpdeedplgmbopaaGreatDoor
open Go.ChangeShapes Go.WideShapes Go.ChangeAt Go.RowKit
def RJ (x : Int × Int) : DataW Unit := .agg [.lit (.int .i32 x.1), .lit (.int .i32 x.2)]
section
variable {enc : TypeId × Value → Unit} {w : World} {base : Nat} {spare : Nat → Bool} {held : Bool} {fuel : Nat} {ps : List MemPlace}
theorem YF {cs : List Value} {x : Int × Int} (h : DataW.trod enc Tryz.prog w base spare held fuel 213 cs = some (RJ x, ps)) : cs = [.int .i32 x.1, .int .i32 x.2] := by
  obtain ⟨xs, n, -, hx, hl, hl2, hf⟩ := DataW.trod_struct Tryz.underlying213 h
  rw [show Tryz.prog.cellsOf 213 = 2 from by kernel_rfl] at hl
  simp only [Prod.mk.injEq, RJ, DataW.agg.injEq] at hx
  match xs, hl2, hx, cs, hl with
  | [y0, y1], _, hx, [c0, c1], _ =>
    have h0 : DataW.trod enc Tryz.prog w base spare held n 21 (([c0, c1].drop 0).take (Tryz.prog.cellsOf 21)) = some y0 := hf 0 _ rfl
    have h1 : DataW.trod enc Tryz.prog w base spare held n 21 (([c0, c1].drop 1).take (Tryz.prog.cellsOf 21)) = some y1 := hf 1 _ rfl
    simp only [List.map_cons, List.map_nil, List.cons.injEq] at hx
    obtain ⟨n0, e0, d0, -⟩ := DataW.trod_int Tryz.underlying21 h0
    obtain ⟨n1, e1, d1, -⟩ := DataW.trod_int Tryz.underlying21 h1
    rw [show Tryz.prog.cellsOf 21 = 1 from by kernel_rfl] at e0 e1
    simp at e0 e1
    rw [d0, d1] at hx
    simp at hx
    subst e0; subst e1
    rw [hx.1.1, hx.1.2]
theorem Vr {t n : Nat} {cs : List Value} {T : List (Int × Int)} (ht : Tryz.prog.underlying t = some (.array n 213)) (hc : Tryz.prog.cellsOf t = n * 2) (h : DataW.trod enc Tryz.prog w base spare held fuel t cs = some (.agg (T.map RJ), ps)) : cs = sW T := by
  obtain ⟨xs, m, -, hx, hl, hl2, hel⟩ := DataW.trod_array ht h
  simp only [Prod.mk.injEq, DataW.agg.injEq] at hx
  rw [hc] at hl
  have hTn : T.length = n := by have := congrArg List.length hx.1; simpa [hl2] using this
  have hv := Lm T
  apply List.ext_getElem?
  intro j
  by_cases hj : j < n * 2
  · have hk : j / 2 < n := by omega
    have h1 := hel (j / 2) hk
    rw [show Tryz.prog.cellsOf 213 = 2 from by kernel_rfl, List.getElem?_eq_getElem (by omega)] at h1
    have h2 : xs[j / 2].1 = RJ (T.getD (j / 2) (0, 0)) := by
      have := congrArg (fun l => l[j / 2]?) hx.1
      simp [List.getElem?_eq_getElem (show j / 2 < T.length by omega), List.getElem?_eq_getElem (show j / 2 < xs.length by omega)] at this
      rw [List.getD_eq_getElem?_getD, List.getElem?_eq_getElem (show j / 2 < T.length by omega), Option.getD_some, this]
    have h3 := YF (x := T.getD (j / 2) (0, 0)) (ps := xs[j / 2].2) (by rw [h1, ← h2])
    obtain ⟨e0, e1⟩ := GZ T (j / 2) (by omega)
    have hq : (sW T)[j]? = some ((sW T).getD j undef) := by rw [List.getD_eq_getElem?_getD, List.getElem?_eq_getElem (by omega)]; rfl
    rw [hq]
    rcases (show j = j / 2 * 2 ∨ j = j / 2 * 2 + 1 by omega) with hj2 | hj2
    · have := congrArg (fun l => l[0]?) h3
      simp [List.getElem?_drop] at this
      rw [show j / 2 * 2 = j from by omega] at this e0
      rw [this, e0]; simp [List.getD_eq_getElem?_getD]
    · have := congrArg (fun l => l[1]?) h3
      simp [List.getElem?_take, List.getElem?_drop] at this
      rw [show j / 2 * 2 + 1 = j from by omega] at this e1
      rw [this, e1]; simp [List.getD_eq_getElem?_getD]
  · rw [List.getElem?_eq_none (by omega), List.getElem?_eq_none (by omega)]
end
end Go.Proofs.YtpdeedplgmbopaaGreatDoor
end
section
namespace Go.Proofs.YtpdeedplgmbopaaGreatDoor
open Go.ChangeShapes Go.WideShapes Go.ChangeAt Go.RowKit
theorem abX : Tryz.prog.globalNamed "lanyard/ucell.none" = some 0 := by kernel_rfl
theorem abY : Tryz.prog.globalNamed "lanyard/ucell.wide" = some 1 := by kernel_rfl
theorem abZ : (Tryz.prog.globals[0]?).map (·.type) = some 214 := by kernel_rfl
theorem ab0 : (Tryz.prog.globals[1]?).map (·.type) = some 215 := by kernel_rfl
abbrev RN : List (String × DataW Unit) := [("lanyard/ucell.none", Rows.laid_lanyard_ucell_none), ("lanyard/ucell.wide", Rows.laid_lanyard_ucell_wide)]
theorem YG {W : World} (h : laidMetH Tryz.prog RN W) : zA W := by
  rw [MakeChecks.laidMetH_plain _ _ _ (by kernel_rfl)] at h
  obtain ⟨ps, ⟨g0, t0, cs0, f0, p0, q0, hg0, ht0, hv0, hd0, ⟨g1, t1, cs1, f1, p1, q1, hg1, ht1, hv1, hd1, _, _⟩, _⟩, _, _⟩ := h
  obtain rfl := Option.some.inj (abX.symm.trans hg0)
  obtain rfl := Option.some.inj (abY.symm.trans hg1)
  obtain rfl := Option.some.inj (abZ.symm.trans ht0)
  obtain rfl := Option.some.inj (ab0.symm.trans ht1)
  have e0 := Vr (T := GX) Tryz.underlying214 (by kernel_rfl) hd0
  have e1 := Vr (T := GY) Tryz.underlying215 (by kernel_rfl) hd1
  refine ⟨⟨by decide, _, 15, rfl, by decide, by decide, fun _ => ⟨0, 0, rfl, fun j hj => ?_⟩⟩, ⟨by decide, _, 14, rfl, by decide, by decide, fun _ => ⟨1, 0, rfl, fun j hj => ?_⟩⟩⟩
  · rw [Nat.zero_add, World.var?_cell hg0 hv0 j, ← Array.getElem?_toList, e0, List.getD_eq_getElem?_getD, List.getElem?_eq_getElem (by rw [Lm]; exact hj)]; rfl
  · rw [Nat.zero_add, World.var?_cell hg1 hv1 j, ← Array.getElem?_toList, e1, List.getD_eq_getElem?_getD, List.getElem?_eq_getElem (by rw [Lm]; exact hj)]; rfl
theorem Vs (os : Os) (args : Array Value) : laidMetH Tryz.prog RN ((World.doorLaid Tryz.prog 400 os).forCall (fun _ _ => 0) ⟨#[], args, []⟩).memory :=
  laidMetH_of_parts3 (fuel := 8) (laidMet_of_run' 8 (by kernel_rfl) (by kernel_rfl)) (by kernel_rfl) (by kernel_rfl)
end Go.Proofs.YtpdeedplgmbopaaGreatDoor
end
section
namespace Go.Proofs.YtpdeedplgmbopaaGreatDoor
open Go.RowKit

end Go.Proofs.YtpdeedplgmbopaaGreatDoor
end
section
namespace Go.Proofs.YtpdeedplgmbopaaGreatDoor
open Go.RowKit
open _root_.Go.Proofs.Tryz
theorem DU : (prog.info? 21).map (fun i => (i.zero, i.size, i.bytes)) = some (some (.int .i32 0), 1, 4) := by kernel_rfl
theorem qP {w0 w : World} {F : HP} {v : Value} {l : List Int} (H : V w0 w F) (hr : jE w0 F .i32 v l) (hb : l.length * 4 ≤ 140737488355328) :
    ig prog 71 #[v] w fun v' w' => V w0 w' (lD 21 .i32 v' l • F) := by
  obtain ⟨a, c, rfl, h1, h2, h3⟩ := (hr w H).open
  refine iK func71 ntmps71 ?_
  refine jy O (aK (bM O (Z (Am aj O O) ?_)))
  refine gQ O (fun h1 => ?_) (fun h1 => ?_)
  · (try simp only [aC] at h1)
    refine jB O (ay (dF results71 O ?_))
    obtain rfl : a = none := by simpa using h1
    obtain rfl : l = [] := by
      cases l with
      | nil => rfl
      | cons x l => obtain ⟨b, o, e, _⟩ := h3 (by simp); cases e
    exact H.jk none
  · (try simp only [aC] at h1)
    refine fG (gW (jL (kH (vs := []) H aj bF nG O O O (by decide) (by simp)) ?_))
    rintro _ w1 H1
    refine bG O (jL (lV (l := []) H1 (hr.under _ H1) aj DU O O (by simp; omega) (by simpa using hb)) ?_)
    rintro _ w2 H2
    refine dU O (dF results71 O ?_)
    exact H2
theorem Vt {w0 w : World} {F : HP} {n : Int} (H : V w0 w F) (h0 : 0 ≤ n) (hb : n ≤ 70368744177664) :
  ig prog 195 #[.slice none 0 0, .int .i64 n] w fun v' w' => V w0 w' (lD 21 .i32 v' [] • F) := by
 refine nC func195 ntmps195 ?_
 refine jy O (aK (bM O (Z (fF O O) (iy (wcB O (fun h1 => ?_))))))
 (try simp only [aC] at h1)
 refine fG (aK (bM O (bG O (Z (ZF aj O) (bG O (Z (jZ aj O) (Z (iG O O (by omega)) (Z (iG O O (by omega)) (fV O (bM O (Z (iw O O) (gQ O (fun h2 => ?_) (fun h2 => ?_)))))))))))))
 ·(try simp only [aC] at h2)
  refine aA (jr O O (Z (ZF aj O) (Z (DK aj bF O O O (by omega)) ?_)))
  refine bG O (jL (GR H aj aP DU O O (by omega) (by omega) (by omega)) ?_)
  rintro _ w1 ⟨g, c, cur, rfl, hc1, hc2, hc3, H1⟩
  refine bG O (Z (jZ aj O) (Z (DK aj bF O O O (by omega)) ?_))
  refine fV O (bM O (dU O (dF results195 O ?_)))
  exact H1.Au (o := 0) (by simp) (Kq 1 0 g 0 _ c) (by simp) hc2 (by simpa using hc3) (by simp)
 ·(try simp only [aC] at h2)
  refine fG (bM O (dU O (dF results195 O ?_)))
  exact H.jk none
theorem Qg {w0 w : World} {F : HP} {v : Value} {vs : List Value} {ls : List (List Int)} (H : V w0 w F) (hv : TI w0 F 1 v ls.length vs) (hls : ∀ k, k < ls.length → jE w0 F .i32 (vs.getD k undef) (ls.getD k [])) (hb : ls.flatten.length * 4 ≤ 140737488355328) :
  ig prog 172 #[v] w fun v' w' => V w0 w' (lD 21 .i32 v' ls.flatten • F) := by
 obtain ⟨_, a, c, rfl, hc1, hc2, _⟩ := hv w H
 refine iK func172 ntmps172 ?_
 refine jy O (jy O (aK (bM O (Z (jZ jh O) (bG O (iy (aV ?_)))))))
 refine dJ [(0, _), (9, _), (10, _)] (fun (k : Nat) => [(3, .int .i64 ((ls.take k).flatten.length : Int)), (11, .int .i64 (k : Int))]) (fun (k : Nat) W => k ≤ ls.length ∧ V w0 W F) (fun (k : Nat) => ls.length - k) (0) qC (Sub.eP O (by simp) (Sub.eP O (O) (Sub.nil _))) ⟨by omega, H⟩ ?_
 rintro k w1 ⟨hk, HL⟩
 dsimp only [List.cons_append, List.nil_append]
 refine gW (Z (fF O O) (qW (bI O (fun h1 => ?_) (fun h1 => ?_))))
 ·(try simp only [aC] at h1)
  refine fG (aK (aV (aK ?_)))
  have hk1 : k < ls.length := by omega
  obtain ⟨b, o, rfl, hc⟩ := hv.cell HL (j := k) (by omega)
  obtain ⟨ak, ck, ek, hk2, hk3, _⟩ := (hls k hk1 _ HL).open
  rw [ek] at hc
  have hfl := Ld ls (k + 1)
  rw [BG ls hk1, List.length_append] at hfl
  refine aA (Z (dh jh dV O O (by omega)) ?_)
  refine Z (dH (bT aj O) O (by rw [show ((k : Int).toNat * 1) = k from by omega]; exact hc)) ?_
  refine fV O (bM O (bG O (Z (jZ aj O) (Z (dP O O (by omega)) (fV O (bM O (Z (fF O O) (iy (wcB O (fun h2 => ?_))))))))))
  (try simp only [aC] at h2)
  refine bY (aG (aW (aA (Z (dP O O (by omega)) (bG O (bD ?_))))))
  refine bZ (k + 1) ?_ ?_ ?_ ?_
  ·exact (Sub.eP O (by rw [BG ls hk1, List.length_append, Int.natCast_add]) ji)
  ·exact qC
  ·(try dsimp only)
   first | done | exact ⟨by omega, HL⟩
  ·(try dsimp only); omega
 ·(try simp only [aC] at h1)
  refine bQ (aB (aB (aU (aW (bM O (dX O func195 (Vt HL (by omega) (by have := Ld ls k; omega)) ?_))))))
  rintro vg w2 H2
  refine tX O (bM O (Z (jZ jh O) (bG O (iy (aV ?_)))))
  refine dJ [(25, _), (26, _)] (fun (⟨k, u⟩ : Nat × Value) => [(6, u), (27, .int .i64 (k : Int))]) (fun (⟨k, u⟩ : Nat × Value) W => k ≤ ls.length ∧ V w0 W (lD 21 .i32 u (ls.take k).flatten • F)) (fun (⟨k, u⟩ : Nat × Value) => ls.length - k) ((0, vg)) mW mW ⟨by omega, H2⟩ ?_
  rintro ⟨k, u⟩ w3 ⟨hk, HM⟩
  dsimp only [List.cons_append, List.nil_append]
  refine gW (Z (fF O O) (qW (bI O (fun h3 => ?_) (fun h3 => ?_))))
  ·(try simp only [aC] at h3)
   refine fG (aK (aV (aK ?_)))
   have hk1 : k < ls.length := by omega
   obtain ⟨b, o, rfl, hc⟩ := hv.cell HM.right (j := k) (by omega)
   have hrk := hls k hk1
   have hfl := Ld ls (k + 1)
   rw [BG ls hk1, List.length_append] at hfl
   refine aA (Z (dh jh dV O O (by omega)) ?_)
   refine Z (dH (bT aj O) O (by rw [show ((k : Int).toNat * 1) = k from by omega]; exact hc)) ?_
   refine fV O (aA (jr O O (jL (lV HM (hrk _ HM.right) aj DU O O (by omega) (by omega)) ?_)))
   rintro va w4 H4
   refine dL O (bD (aG (aW (aA (Z (dP O O (by omega)) (bG O (bD ?_)))))))
   refine bZ ((k + 1, va)) ?_ ?_ ?_ ?_
   ·exact mW
   ·exact mW
   ·(try dsimp only)
    first | done | exact ⟨by omega, by rw [BG ls hk1]; exact H4⟩
   ·(try dsimp only); omega
  ·(try simp only [aC] at h3)
   refine bQ (aB (aB (aU (aW (bM O (dU O (dF results172 O ?_)))))))
   rw [List.take_of_length_le (by omega)] at HM; exact HM
theorem NJ {w0 w : World} {F : HP} {b : Nat} {T : TypeId} {u1 u2 : Value} {l1 l2 : List Int} (H : V w0 w (dS b (.cells #[u1, u2] T (0, 0)) • F)) (h1 : jE w0 (dS b (.cells #[u1, u2] T (0, 0)) • F) .i32 u1 l1) (h2 : jE w0 (dS b (.cells #[u1, u2] T (0, 0)) • F) .i32 u2 l2)
    (hb : (l1.length + l2.length) * 4 ≤ 140737488355328) :
    ig prog 172 #[.slice (some ⟨b, 0, none⟩) 2 2] w fun v' w' => V w0 w' (lD 21 .i32 v' (l1 ++ l2) • dS b (.cells #[u1, u2] T (0, 0)) • F) := by
  have := Qg (ls := [l1, l2]) (vs := [u1, u2]) (v := .slice (some ⟨b, 0, none⟩) 2 2) H (fun W HW => ⟨rfl, _, 2, rfl, by simp, by decide, fun _ => ⟨b, 0, rfl, fun j hj => ?_⟩⟩) (fun k hk => ?_) (by simpa using hb)
  · simpa using this
  · refine iT HW.get.2 ?_
    simp at hj
    match j, hj with
    | 0, _ => rfl
    | 1, _ => rfl
  · simp at hk
    match k, hk with
    | 0, _ => exact h1
    | 1, _ => exact h2
end Go.Proofs.YtpdeedplgmbopaaGreatDoor
end
