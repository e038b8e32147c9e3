import Derived.Test.YtpdeedplgmbopaaGreatDoorZ4
import Derived.Test.YtpdeedplgmbopaaGreatDoorProg
import Derived.Test.YtpdeedplgmbopaaGreatDoorRows
import Derived.Test.YtpdeedplgmbopaaGreatDoorTie
import Derived.Test.YtpdeedplgmbopaaGreatDoorZ3
set_option linter.unusedSimpArgs false
set_option linter.unusedVariables false
/- Texts of mine, joined, their names in short: Tab LaidT Laid Equal Slices. -/
section
namespace Go.Proofs.YtpdeedplgmbopaaGreatDoor
open Go.RowKit
open _root_.Go.Proofs.Tryz
def nY (r : Int) : Bool := decide (0 ≤ r ∧ r < 55296 ∨ 57343 < r ∧ r ≤ 1114111)
def mD (r : Int) : Bool := decide (0 ≤ r ∧ r < 32 ∨ 127 ≤ r ∧ r ≤ 159)
def within (r : Int) (T : List (Int × Int)) : Bool := T.any fun x => decide (x.1 ≤ r ∧ r ≤ x.2)
def XI : List (Int × Int) := [(768, 879), (1155, 1161), (1425, 1469), (1552, 1562), (1611, 1631), (3633, 3633), (3636, 3642), (3655, 3662), (6832, 6911), (7616, 7679), (8203, 8207), (8400, 8447), (12441, 12442), (65024, 65039), (65056, 65071)]
def XJ : List (Int × Int) := [(4352, 4447), (11904, 12350), (12353, 13311), (13312, 19903), (19968, 40959), (40960, 42191), (44032, 55203), (63744, 64255), (65072, 65135), (65280, 65376), (65504, 65510), (127744, 128591), (129280, 129535), (131072, 262141)]
def Ec (r : Int) : Int := if !nY r || mD r || within r XI then 0 else if within r XJ then 2 else 1
def fH (r : Int) : Bool :=
  if r < 192 then decide (48 ≤ r ∧ r ≤ 57 ∨ 65 ≤ r ∧ r ≤ 90 ∨ 97 ≤ r ∧ r ≤ 122)
  else if r = 215 ∨ r = 247 ∨ r = 65533 ∨ 8192 ≤ r ∧ r ≤ 8303 ∨ 12288 ≤ r ∧ r ≤ 12351 ∨ 65280 ≤ r ∧ r ≤ 65295 then false
  else nY r && decide (0 < Ec r)
theorem V.cell {w0 w : World} {F : HP} (H : V w0 w F) {a : Addr} {v : Value} (h : w0.cell? a = some v) : w.cell? a = some v := (H.base.cell (World.block_lt_of_cell? _ _ h)).trans h
theorem YR {w : World} {b o : Nat} {u v : Value} (h : w.cell? ⟨b, o, none⟩ = some u) (k : w.cell? ⟨b, o + 1, none⟩ = some v) : ∀ (j : Nat) x, ([u, v] : List Value)[j]? = some x → w.cell? ⟨b, o + j, none⟩ = some x := by
  intro j x hj
  match j, hj with
  | 0, hj => cases hj; exact h
  | 1, hj => cases hj; exact k
  | j + 2, hj => simp at hj
def wU (T : List (Int × Int)) : List Value := T.flatMap fun x => [.int .i32 x.1, .int .i32 x.2]
structure vZ (w : World) : Prop where
  agf : Rd w 2 (.slice (some ⟨0, 0, none⟩) 15 15) 15 (wU XI)
  agh : Rd w 2 (.slice (some ⟨1, 0, none⟩) 14 14) 14 (wU XJ)
section
variable {w0 w : World} {F : HP} {r : Int}
theorem YS : iQ prog 145 #[.int .i32 r] w fun v w' => v = .bool (nY r) ∧ w = w' := by
 refine ji func145 ntmps145 ?_
 refine ku O (aI (bf (bM O (aQ (pV O O) (jm O (fun h1 => ?_) (fun h1 => ?_))))))
 ·(try simp only [Z] at h1)
  try (exfalso; first | contradiction | omega)
  all_goals
   refine aY (bJ O (aY (aQ (gW O O) (je O O (dZ O (aZ O (fun h2 => ?_) (fun h2 => ?_)))))))
   ·(try simp only [Z] at h2)
    try (exfalso; first | contradiction | omega)
    all_goals
     refine kC O (aU (aA (dI sZ O ?_)))
     refine ⟨?_, O⟩; congr 1; first | (symm; rw [nY, decide_eq_true_eq]; omega) | (symm; rw [nY, decide_eq_false_iff_not]; omega) | (rw [nY, decide_eq_decide]; omega)
   ·(try simp only [Z] at h2)
    try (exfalso; first | contradiction | omega)
    all_goals
     refine bM O (aQ (gW O O) (jm O (fun h3 => ?_) (fun h3 => ?_)))
     ·(try simp only [Z] at h3)
      try (exfalso; first | contradiction | omega)
      all_goals
       refine aY (bJ O (aY (aQ (pV O O) (je O O (dZ O (aZ O (fun h4 => ?_) (fun h4 => ?_)))))))
       ·(try simp only [Z] at h4)
        try (exfalso; first | contradiction | omega)
        all_goals
         refine kC O (aU (aA (dI sZ O ?_)))
         refine ⟨?_, O⟩; congr 1; first | (symm; rw [nY, decide_eq_true_eq]; omega) | (symm; rw [nY, decide_eq_false_iff_not]; omega) | (rw [nY, decide_eq_decide]; omega)
       ·(try simp only [Z] at h4)
        try (exfalso; first | contradiction | omega)
        all_goals
         refine dh (aH (aX (kC O (dI sZ O ?_))))
         refine ⟨?_, O⟩; congr 1; first | (symm; rw [nY, decide_eq_true_eq]; omega) | (symm; rw [nY, decide_eq_false_iff_not]; omega) | (rw [nY, decide_eq_decide]; omega)
     ·(try simp only [Z] at h3)
      try (exfalso; first | contradiction | omega)
      all_goals
       refine bn (bn (fG O O (dZ O (oh (dh (aH (aX (kC O (dI sZ O ?_)))))))))
       refine ⟨?_, O⟩; congr 1; first | (symm; rw [nY, decide_eq_true_eq]; omega) | (symm; rw [nY, decide_eq_false_iff_not]; omega) | (rw [nY, decide_eq_decide]; omega)
 ·(try simp only [Z] at h1)
  try (exfalso; first | contradiction | omega)
  all_goals
   refine bn (bn (fG O O (dZ O (oh (bM O (aQ (gW O O) (jm O (fun h5 => ?_) (fun h5 => ?_))))))))
   ·(try simp only [Z] at h5)
    try (exfalso; first | contradiction | omega)
    all_goals
     refine aY (bJ O (aY (aQ (pV O O) (je O O (dZ O (aZ O (fun h6 => ?_) (fun h6 => ?_)))))))
     ·(try simp only [Z] at h6)
      try (exfalso; first | contradiction | omega)
      all_goals
       refine kC O (aU (aA (dI sZ O ?_)))
       refine ⟨?_, O⟩; congr 1; first | (symm; rw [nY, decide_eq_true_eq]; omega) | (symm; rw [nY, decide_eq_false_iff_not]; omega) | (rw [nY, decide_eq_decide]; omega)
     ·(try simp only [Z] at h6)
      try (exfalso; first | contradiction | omega)
      all_goals
       refine dh (aH (aX (kC O (dI sZ O ?_))))
       refine ⟨?_, O⟩; congr 1; first | (symm; rw [nY, decide_eq_true_eq]; omega) | (symm; rw [nY, decide_eq_false_iff_not]; omega) | (rw [nY, decide_eq_decide]; omega)
   ·(try simp only [Z] at h5)
    try (exfalso; first | contradiction | omega)
    all_goals
     refine bn (bn (fG O O (dZ O (oh (dh (aH (aX (kC O (dI sZ O ?_)))))))))
     refine ⟨?_, O⟩; congr 1; first | (symm; rw [nY, decide_eq_true_eq]; omega) | (symm; rw [nY, decide_eq_false_iff_not]; omega) | (rw [nY, decide_eq_decide]; omega)
theorem xW : iQ prog 103 #[.int .i32 r] w fun v w' => v = .bool (nY r) ∧ w = w' := by
  refine ji func103 ntmps103 ?_
  refine ku O (bM O (dS O func145 (YS) ?_))
  rintro _ _ ⟨rfl, rfl⟩
  refine fA O (dI results103 O ?_)
  exact ⟨O, O⟩
theorem SV : iQ prog 146 #[.int .i32 r] w fun v w' => v = .bool (mD r) ∧ w = w' := by
  refine ji func146 ntmps146 ?_
  refine ku O (bM O (aQ (lI O O) (jm O (fun h1 => ?_) (fun h1 => ?_))))
  · (try simp only [Z] at h1)
    try (exfalso; first | contradiction | omega)
    all_goals
      refine aY (bJ O (aY (aQ (gW O O) (je O O (jm O (fun h2 => ?_) (fun h2 => ?_))))))
      · (try simp only [Z] at h2)
        try (exfalso; first | contradiction | omega)
        all_goals
          refine bn (bn (bn (lH (lH (bn (je O O (fA O (dI results146 O ?_))))))))
          refine ⟨?_, O⟩; congr 1; first | (symm; rw [mD, decide_eq_true_eq]; omega) | (symm; rw [mD, decide_eq_false_iff_not]; omega) | (rw [mD, decide_eq_decide]; omega)
      · (try simp only [Z] at h2)
        try (exfalso; first | contradiction | omega)
        all_goals
          refine aY (bJ O (aY (aQ (lI O O) (aY (jm O (fun h3 => ?_) (fun h3 => ?_))))))
          · (try simp only [Z] at h3)
            try (exfalso; first | contradiction | omega)
            all_goals
              refine aY (bJ O (aY (aQ (pV O O) (aY (je O O (fG O O (fA O (dI results146 O ?_))))))))
              refine ⟨?_, O⟩; congr 1; first | (symm; rw [mD, decide_eq_true_eq]; omega) | (symm; rw [mD, decide_eq_false_iff_not]; omega) | (rw [mD, decide_eq_decide]; omega)
          · (try simp only [Z] at h3)
            try (exfalso; first | contradiction | omega)
            all_goals
              refine bn (bn (aY (fG O O (fG O O (fA O (dI results146 O ?_))))))
              refine ⟨?_, O⟩; congr 1; first | (symm; rw [mD, decide_eq_true_eq]; omega) | (symm; rw [mD, decide_eq_false_iff_not]; omega) | (rw [mD, decide_eq_decide]; omega)
  · (try simp only [Z] at h1)
    try (exfalso; first | contradiction | omega)
    all_goals
      refine bn (bn (fG O O (bJ O (aY (bJ O (aY (aQ (lI O O) (aY (jm O (fun h4 => ?_) (fun h4 => ?_))))))))))
      · (try simp only [Z] at h4)
        try (exfalso; first | contradiction | omega)
        all_goals
          refine aY (bJ O (aY (aQ (pV O O) (aY (je O O (fG O O (fA O (dI results146 O ?_))))))))
          refine ⟨?_, O⟩; congr 1; first | (symm; rw [mD, decide_eq_true_eq]; omega) | (symm; rw [mD, decide_eq_false_iff_not]; omega) | (rw [mD, decide_eq_decide]; omega)
      · (try simp only [Z] at h4)
        try (exfalso; first | contradiction | omega)
        all_goals
          refine bn (bn (aY (fG O O (fG O O (fA O (dI results146 O ?_))))))
          refine ⟨?_, O⟩; congr 1; first | (symm; rw [mD, decide_eq_true_eq]; omega) | (symm; rw [mD, decide_eq_false_iff_not]; omega) | (rw [mD, decide_eq_decide]; omega)
theorem QE (T : List (Int × Int)) : (wU T).length = T.length * 2 := by
  induction T with
  | nil => rfl
  | cons x r ih => simp only [wU, List.flatMap_cons, List.length_append] at *; simp [ih]; omega
theorem LM (T : List (Int × Int)) (k : Nat) (h : k < T.length) : (wU T).getD (k * 2) undef = .int .i32 (T.getD k (0, 0)).1 ∧ (wU T).getD (k * 2 + 1) undef = .int .i32 (T.getD k (0, 0)).2 := by
  induction T generalizing k with
  | nil => simp at h
  | cons x r ih =>
    cases k with
    | zero => exact ⟨rfl, rfl⟩
    | succ k =>
      have := ih k (by simpa using h)
      rw [show (k + 1) * 2 = k * 2 + 2 from by omega, show k * 2 + 2 + 1 = (k * 2 + 1) + 2 from by omega]
      simpa [wU, List.getD_eq_getElem?_getD] using this
theorem JK {r : Int} {T : List (Int × Int)} {k : Nat} (h : k < T.length) : within r (T.take (k + 1)) = (within r (T.take k) || decide ((T.getD k (0, 0)).1 ≤ r ∧ r ≤ (T.getD k (0, 0)).2)) := by
  unfold within
  rw [List.take_succ_eq_append_getElem h, List.any_append]
  simp [List.getD_eq_getElem?_getD, h]
theorem VI {r : Int} {T : List (Int × Int)} {k : Nat} (h : k < T.length) (hk : (T.getD k (0, 0)).1 ≤ r ∧ r ≤ (T.getD k (0, 0)).2) : within r T = true := by
  unfold within
  rw [List.any_eq_true]
  refine ⟨T.getD k (0, 0), ?_, by simpa using hk⟩
  rw [List.getD_eq_getElem?_getD, List.getElem?_eq_getElem h]
  exact List.getElem_mem h
theorem LP {v : Value} {T : List (Int × Int)} (H : V w0 w F) (hr : Rd w0 2 v T.length (wU T)) (hT : T.length < 1000000) :
  iQ prog 147 #[.int .i32 r, v] w fun v w' => v = .bool (within r T) ∧ V w0 w' F := by
 obtain ⟨hlen, a, c, rfl, hc1, hc2, hcell⟩ := hr
 refine qc func147 ntmps147 ?_
 refine ku O (aI (bM O (aQ (jH underlying211 O) (bJ O (iE (bf ?_))))))
 refine iC [(0, _), (7, _), (8, _)] (fun (k : Nat) => [(9, .int .i64 (k : Int))]) (fun (k : Nat) W => k ≤ T.length ∧ within r (T.take k) = false ∧ V w0 W F) (fun (k : Nat) => T.length - k) (0) vC mO ⟨by omega, O, H⟩ ?_
 rintro k w1 ⟨hk, hno, HL⟩
 dsimp only [List.cons_append, List.nil_append]
 refine iy (aQ (gW O O) (rP (aZ O (fun h1 => ?_) (fun h1 => ?_))))
 ·(try simp only [Z] at h1)
  try (exfalso; first | contradiction | omega)
  all_goals
   refine fV (aI (bf (aI ?_)))
   have hk1 : k < T.length := by omega
   obtain ⟨b0, o, rfl, hq⟩ := hcell (by omega)
   have hq0 := hq (k * 2) (by omega)
   have hq1 := hq (k * 2 + 1) (by omega)
   rw [(LM T k hk1).1] at hq0
   rw [(LM T k hk1).2] at hq1
   rw [← Nat.add_assoc] at hq1
   refine aB (aQ (dM underlying211 sizeOf213 O O (by omega)) ?_)
   refine aQ (CZ (cs := [.int .i32 (T.getD k (0, 0)).1, .int .i32 (T.getD k (0, 0)).2]) (by rw [underlying213]; rfl) (SI underlying213 O) sizeOf213 O O (YR (by rw [show ((k : Int).toNat * 2) = k * 2 from by omega]; exact HL.cell hq0) (by rw [show ((k : Int).toNat * 2) = k * 2 from by omega]; exact HL.cell hq1))) ?_
   refine kF (Bg HL zeroValue213) ?_
   rintro _ w2 ⟨b2, rfl, H2⟩
   refine aJ (iM (cs := #[.int .i32 (T.getD k (0, 0)).1, .int .i32 (T.getD k (0, 0)).2]) H2 sizeOf213 O O O O (by simp [Value.oneCell'])) ?_
   rintro _ w3 H3
   have HN := H3.right
   refine sG O (bI 0 underlying213 O bK O (fC bC O H3.get.2 O (aQ (lI O O) (jm O (fun h2 => ?_) (fun h2 => ?_)))))
   ·(try simp only [Z] at h2)
    try (exfalso; first | contradiction | omega)
    all_goals
     refine aY (bJ O (aY (bI 1 underlying213 O bK O (aY (fC bC O H3.get.2 O (aY (aQ (pV O O) (je O O (jr O (fun h3 => ?_) (fun h3 => ?_))))))))))
     ·(try simp only [Z] at h3)
      try (exfalso; first | contradiction | omega)
      all_goals
       refine kC O (aU (aA (aA (aU (aA (dI results147 O ?_))))))
       exact ⟨by rw [VI hk1 (by omega)], HN⟩
     ·(try simp only [Z] at h3)
      try (exfalso; first | contradiction | omega)
      all_goals
       refine dh (aH (aX (aB (aQ (fQ O O (by omega)) (bJ O (bZ ?_))))))
       refine dX (k + 1) ?_ ?_ ?_ ?_
       ·exact mO
       ·exact vC
       ·(try dsimp only)
        first | done | exact ⟨by omega, by rw [JK hk1, hno, Bool.false_or, decide_eq_false_iff_not]; omega, HN⟩
       ·(try dsimp only); omega
   ·(try simp only [Z] at h2)
    try (exfalso; first | contradiction | omega)
    all_goals
     refine bn (bn (bn (bn (fG O O (iE (oh (dh (aH (aX (aB (aQ (fQ O O (by omega)) (bJ O (bZ ?_)))))))))))))
     refine dX (k + 1) ?_ ?_ ?_ ?_
     ·exact mO
     ·exact vC
     ·(try dsimp only)
      first | done | exact ⟨by omega, by rw [JK hk1, hno, Bool.false_or, decide_eq_false_iff_not]; omega, HN⟩
     ·(try dsimp only); omega
 ·(try simp only [Z] at h1)
  try (exfalso; first | contradiction | omega)
  all_goals
   refine dR (aO (aO (bG (aX (kC O (dI results147 O ?_))))))
   exact ⟨by rw [← hno, List.take_of_length_le (by omega)], HL⟩
theorem pK (H : V w0 w F) (hT : vZ w0) : iQ prog 104 #[.int .i32 r] w fun v w' => v = .int .i64 (Ec r) ∧ V w0 w' F := by
 refine ji func104 ntmps104 ?_
 refine ku O (aI (bf (bM O (dS O func103 (xW) ?_))))
 rintro _ _ ⟨rfl, rfl⟩
 refine aQ (kG O) (jm O (fun h1 => ?_) (fun h1 => ?_))
 ·(try simp only [Z] at h1)
  try (exfalso; first | contradiction | omega)
  all_goals
   refine bn (bn (je O O (bJ O (bn (bn (bn (je O O (dZ O (C9 (kC O (aU (aA (dI results104 O ?_)))))))))))))
   exact ⟨by unfold Ec; simp [*], H⟩
 ·(try simp only [Z] at h1)
  try (exfalso; first | contradiction | omega)
  all_goals
   refine aY (bJ O (aY (dS O func146 (SV) ?_)))
   rintro _ _ ⟨rfl, rfl⟩
   refine fG O O (jm O (fun h2 => ?_) (fun h2 => ?_))
   ·(try simp only [Z] at h2)
    try (exfalso; first | contradiction | omega)
    all_goals
     refine bn (bn (bn (je O O (dZ O (C9 (kC O (aU (aA (dI results104 O ?_)))))))))
     exact ⟨by unfold Ec; simp [*], H⟩
   ·(try simp only [Z] at h2)
    try (exfalso; first | contradiction | omega)
    all_goals
     refine aY (bJ O (aY (aQ (JJ underlying214 sizeOf213 O) ?_)))
     refine aY (dS O func147 (LP (T := XI) H hT.agf (by decide)) ?_)
     rintro _ w3 ⟨rfl, H3⟩
     refine fG O O (dZ O (aZ O (fun h3 => ?_) (fun h3 => ?_)))
     ·(try simp only [Z] at h3)
      try (exfalso; first | contradiction | omega)
      all_goals
       refine kC O (aU (aA (dI results104 O ?_)))
       exact ⟨by unfold Ec; simp [*], H3⟩
     ·(try simp only [Z] at h3)
      try (exfalso; first | contradiction | omega)
      all_goals
       refine bM O (aQ (JJ underlying215 sizeOf213 O) ?_)
       refine dS O func147 (LP (T := XJ) H3 hT.agh (by decide)) ?_
       rintro _ w4 ⟨rfl, H4⟩
       refine dZ O (aZ O (fun h4 => ?_) (fun h4 => ?_))
       ·(try simp only [Z] at h4)
        try (exfalso; first | contradiction | omega)
        all_goals
         refine kC O (aU (aA (dI results104 O ?_)))
         exact ⟨by unfold Ec; simp [*], H4⟩
       ·(try simp only [Z] at h4)
        try (exfalso; first | contradiction | omega)
        all_goals
         refine dh (aH (aX (kC O (dI results104 O ?_))))
         exact ⟨by unfold Ec; simp [*], H4⟩
theorem VJ (H : V w0 w F) (hT : vZ w0) : iQ prog 47 #[.int .i32 r] w fun v w' => v = .bool (fH r) ∧ V w0 w' F := by
 refine ji func47 ntmps47 ?_
 refine ku O (aI (bM O (aQ (gW O O) (jr O (fun h1 => ?_) (fun h1 => ?_)))))
 ·(try simp only [Z] at h1)
  try (exfalso; first | contradiction | omega)
  all_goals
   refine bM O (aQ (lI O O) (jm O (fun h2 => ?_) (fun h2 => ?_)))
   ·(try simp only [Z] at h2)
    try (exfalso; first | contradiction | omega)
    all_goals
     refine aY (bJ O (aY (aQ (pV O O) (je O O (jm O (fun h3 => ?_) (fun h3 => ?_))))))
     ·(try simp only [Z] at h3)
      try (exfalso; first | contradiction | omega)
      all_goals
       refine bn (bn (bn (lH (lH (bn (je O O (bJ O (bn (bn (bn (lH (lH (bn (je O O (fA O (aA (dI dJ O ?_)))))))))))))))))
       refine ⟨?_, H⟩; congr 1; rw [fH, if_pos (by omega)]; first | (symm; rw [decide_eq_true_eq]; omega) | (symm; rw [decide_eq_false_iff_not]; omega) | (rw [decide_eq_decide]; omega)
     ·(try simp only [Z] at h3)
      try (exfalso; first | contradiction | omega)
      all_goals
       refine aY (bJ O (aY (aQ (lI O O) (aY (jm O (fun h4 => ?_) (fun h4 => ?_))))))
       ·(try simp only [Z] at h4)
        try (exfalso; first | contradiction | omega)
        all_goals
         refine aY (bJ O (aY (aQ (pV O O) (aY (je O O (fG O O (jm O (fun h5 => ?_) (fun h5 => ?_))))))))
         ·(try simp only [Z] at h5)
          try (exfalso; first | contradiction | omega)
          all_goals
           refine bn (bn (bn (lH (lH (bn (je O O (fA O (aA (dI dJ O ?_)))))))))
           refine ⟨?_, H⟩; congr 1; rw [fH, if_pos (by omega)]; first | (symm; rw [decide_eq_true_eq]; omega) | (symm; rw [decide_eq_false_iff_not]; omega) | (rw [decide_eq_decide]; omega)
         ·(try simp only [Z] at h5)
          try (exfalso; first | contradiction | omega)
          all_goals
           refine aY (bJ O (aY (aQ (lI O O) (aY (jm O (fun h6 => ?_) (fun h6 => ?_))))))
           ·(try simp only [Z] at h6)
            try (exfalso; first | contradiction | omega)
            all_goals
             refine aY (bJ O (aY (aQ (pV O O) (aY (je O O (fG O O (fA O (aA (dI dJ O ?_)))))))))
             refine ⟨?_, H⟩; congr 1; rw [fH, if_pos (by omega)]; first | (symm; rw [decide_eq_true_eq]; omega) | (symm; rw [decide_eq_false_iff_not]; omega) | (rw [decide_eq_decide]; omega)
           ·(try simp only [Z] at h6)
            try (exfalso; first | contradiction | omega)
            all_goals
             refine bn (bn (aY (fG O O (fG O O (fA O (aA (dI dJ O ?_)))))))
             refine ⟨?_, H⟩; congr 1; rw [fH, if_pos (by omega)]; first | (symm; rw [decide_eq_true_eq]; omega) | (symm; rw [decide_eq_false_iff_not]; omega) | (rw [decide_eq_decide]; omega)
       ·(try simp only [Z] at h4)
        try (exfalso; first | contradiction | omega)
        all_goals
         refine bn (bn (aY (fG O O (fG O O (bJ O (aY (bJ O (aY (aQ (lI O O) (aY (jm O (fun h7 => ?_) (fun h7 => ?_))))))))))))
         ·(try simp only [Z] at h7)
          try (exfalso; first | contradiction | omega)
          all_goals
           refine aY (bJ O (aY (aQ (pV O O) (aY (je O O (fG O O (fA O (aA (dI dJ O ?_)))))))))
           refine ⟨?_, H⟩; congr 1; rw [fH, if_pos (by omega)]; first | (symm; rw [decide_eq_true_eq]; omega) | (symm; rw [decide_eq_false_iff_not]; omega) | (rw [decide_eq_decide]; omega)
         ·(try simp only [Z] at h7)
          try (exfalso; first | contradiction | omega)
          all_goals
           refine bn (bn (aY (fG O O (fG O O (fA O (aA (dI dJ O ?_)))))))
           refine ⟨?_, H⟩; congr 1; rw [fH, if_pos (by omega)]; first | (symm; rw [decide_eq_true_eq]; omega) | (symm; rw [decide_eq_false_iff_not]; omega) | (rw [decide_eq_decide]; omega)
   ·(try simp only [Z] at h2)
    try (exfalso; first | contradiction | omega)
    all_goals
     refine bn (bn (fG O O (bJ O (aY (bJ O (aY (aQ (lI O O) (aY (jm O (fun h8 => ?_) (fun h8 => ?_))))))))))
     ·(try simp only [Z] at h8)
      try (exfalso; first | contradiction | omega)
      all_goals
       refine aY (bJ O (aY (aQ (pV O O) (aY (je O O (fG O O (jm O (fun h9 => ?_) (fun h9 => ?_))))))))
       ·(try simp only [Z] at h9)
        try (exfalso; first | contradiction | omega)
        all_goals
         refine bn (bn (bn (lH (lH (bn (je O O (fA O (aA (dI dJ O ?_)))))))))
         refine ⟨?_, H⟩; congr 1; rw [fH, if_pos (by omega)]; first | (symm; rw [decide_eq_true_eq]; omega) | (symm; rw [decide_eq_false_iff_not]; omega) | (rw [decide_eq_decide]; omega)
       ·(try simp only [Z] at h9)
        try (exfalso; first | contradiction | omega)
        all_goals
         refine aY (bJ O (aY (aQ (lI O O) (aY (jm O (fun h10 => ?_) (fun h10 => ?_))))))
         ·(try simp only [Z] at h10)
          try (exfalso; first | contradiction | omega)
          all_goals
           refine aY (bJ O (aY (aQ (pV O O) (aY (je O O (fG O O (fA O (aA (dI dJ O ?_)))))))))
           refine ⟨?_, H⟩; congr 1; rw [fH, if_pos (by omega)]; first | (symm; rw [decide_eq_true_eq]; omega) | (symm; rw [decide_eq_false_iff_not]; omega) | (rw [decide_eq_decide]; omega)
         ·(try simp only [Z] at h10)
          try (exfalso; first | contradiction | omega)
          all_goals
           refine bn (bn (aY (fG O O (fG O O (fA O (aA (dI dJ O ?_)))))))
           refine ⟨?_, H⟩; congr 1; rw [fH, if_pos (by omega)]; first | (symm; rw [decide_eq_true_eq]; omega) | (symm; rw [decide_eq_false_iff_not]; omega) | (rw [decide_eq_decide]; omega)
     ·(try simp only [Z] at h8)
      try (exfalso; first | contradiction | omega)
      all_goals
       refine bn (bn (aY (fG O O (fG O O (bJ O (aY (bJ O (aY (aQ (lI O O) (aY (jm O (fun h11 => ?_) (fun h11 => ?_))))))))))))
       ·(try simp only [Z] at h11)
        try (exfalso; first | contradiction | omega)
        all_goals
         refine aY (bJ O (aY (aQ (pV O O) (aY (je O O (fG O O (fA O (aA (dI dJ O ?_)))))))))
         refine ⟨?_, H⟩; congr 1; rw [fH, if_pos (by omega)]; first | (symm; rw [decide_eq_true_eq]; omega) | (symm; rw [decide_eq_false_iff_not]; omega) | (rw [decide_eq_decide]; omega)
       ·(try simp only [Z] at h11)
        try (exfalso; first | contradiction | omega)
        all_goals
         refine bn (bn (aY (fG O O (fG O O (fA O (aA (dI dJ O ?_)))))))
         refine ⟨?_, H⟩; congr 1; rw [fH, if_pos (by omega)]; first | (symm; rw [decide_eq_true_eq]; omega) | (symm; rw [decide_eq_false_iff_not]; omega) | (rw [decide_eq_decide]; omega)
 ·(try simp only [Z] at h1)
  try (exfalso; first | contradiction | omega)
  all_goals
   refine fV (aI (bf (aI (bM O (aQ (eF O O) (jm O (fun h12 => ?_) (fun h12 => ?_)))))))
   ·(try simp only [Z] at h12)
    try (exfalso; first | contradiction | omega)
    all_goals
     refine bn (bn (je O O (bJ O (bn (bn (je O O (dZ O (C9 (fV (C9 (kC O (aU (aA (dI dJ O ?_))))))))))))))
     refine ⟨?_, H⟩; congr 1; rw [fH, if_neg (by omega), if_pos (by omega)]
   ·(try simp only [Z] at h12)
    try (exfalso; first | contradiction | omega)
    all_goals
     refine aY (bJ O (aY (aQ (eF O O) (fG O O (jm O (fun h13 => ?_) (fun h13 => ?_))))))
     ·(try simp only [Z] at h13)
      try (exfalso; first | contradiction | omega)
      all_goals
       refine bn (bn (je O O (dZ O (C9 (fV (C9 (kC O (aU (aA (dI dJ O ?_))))))))))
       refine ⟨?_, H⟩; congr 1; rw [fH, if_neg (by omega), if_pos (by omega)]
     ·(try simp only [Z] at h13)
      try (exfalso; first | contradiction | omega)
      all_goals
       refine aY (bJ O (aY (aQ (eF O O) (fG O O (dZ O (aZ O (fun h14 => ?_) (fun h14 => ?_)))))))
       ·(try simp only [Z] at h14)
        try (exfalso; first | contradiction | omega)
        all_goals
         refine fV (aZ O (fun h15 => ?_) (fun h15 => ?_))
         ·(try simp only [Z] at h15)
          try (exfalso; first | contradiction | omega)
          all_goals
           refine kC O (aU (aA (dI dJ O ?_)))
           refine ⟨?_, H⟩; congr 1; rw [fH, if_neg (by omega), if_pos (by omega)]
         ·(try simp only [Z] at h15)
          try (exfalso; first | contradiction | omega)
          all_goals
           refine dh (aH (aX (bM O (dS O func103 (xW) ?_))))
           rintro _ _ ⟨rfl, rfl⟩
           refine jm O (fun h16 => ?_) (fun h16 => ?_)
           ·(try simp only [Z] at h16)
            try (exfalso; first | contradiction | omega)
            all_goals
             refine aY (bJ O (aY (dS O func104 (pK H hT) ?_)))
             rintro _ w2 ⟨rfl, H2⟩
             refine aY (aQ (eX O O) (je O O (fA O (dI dJ O ?_))))
             refine ⟨?_, H2⟩; congr 1; rw [fH, if_neg (by omega), if_neg (by omega)]; simp [*]
           ·(try simp only [Z] at h16)
            try (exfalso; first | contradiction | omega)
            all_goals
             refine bn (bn (bn (fG O O (fA O (dI dJ O ?_)))))
             refine ⟨?_, H⟩; congr 1; rw [fH, if_neg (by omega), if_neg (by omega)]; simp [*]
       ·(try simp only [Z] at h14)
        try (exfalso; first | contradiction | omega)
        all_goals
         refine bM O (aQ (lI O O) (jm O (fun h17 => ?_) (fun h17 => ?_)))
         ·(try simp only [Z] at h17)
          try (exfalso; first | contradiction | omega)
          all_goals
           refine aY (bJ O (aY (aQ (pV O O) (je O O (dZ O (aZ O (fun h18 => ?_) (fun h18 => ?_)))))))
           ·(try simp only [Z] at h18)
            try (exfalso; first | contradiction | omega)
            all_goals
             refine fV (aZ O (fun h19 => ?_) (fun h19 => ?_))
             ·(try simp only [Z] at h19)
              try (exfalso; first | contradiction | omega)
              all_goals
               refine kC O (aU (aA (dI dJ O ?_)))
               refine ⟨?_, H⟩; congr 1; rw [fH, if_neg (by omega), if_pos (by omega)]
             ·(try simp only [Z] at h19)
              try (exfalso; first | contradiction | omega)
              all_goals
               refine dh (aH (aX (bM O (dS O func103 (xW) ?_))))
               rintro _ _ ⟨rfl, rfl⟩
               refine jm O (fun h20 => ?_) (fun h20 => ?_)
               ·(try simp only [Z] at h20)
                try (exfalso; first | contradiction | omega)
                all_goals
                 refine aY (bJ O (aY (dS O func104 (pK H hT) ?_)))
                 rintro _ w4 ⟨rfl, H4⟩
                 refine aY (aQ (eX O O) (je O O (fA O (dI dJ O ?_))))
                 refine ⟨?_, H4⟩; congr 1; rw [fH, if_neg (by omega), if_neg (by omega)]; simp [*]
               ·(try simp only [Z] at h20)
                try (exfalso; first | contradiction | omega)
                all_goals
                 refine bn (bn (bn (fG O O (fA O (dI dJ O ?_)))))
                 refine ⟨?_, H⟩; congr 1; rw [fH, if_neg (by omega), if_neg (by omega)]; simp [*]
           ·(try simp only [Z] at h18)
            try (exfalso; first | contradiction | omega)
            all_goals
             refine bM O (aQ (lI O O) (jm O (fun h21 => ?_) (fun h21 => ?_)))
             ·(try simp only [Z] at h21)
              try (exfalso; first | contradiction | omega)
              all_goals
               refine aY (bJ O (aY (aQ (pV O O) (je O O (dZ O (aZ O (fun h22 => ?_) (fun h22 => ?_)))))))
               ·(try simp only [Z] at h22)
                try (exfalso; first | contradiction | omega)
                all_goals
                 refine fV (aZ O (fun h23 => ?_) (fun h23 => ?_))
                 ·(try simp only [Z] at h23)
                  try (exfalso; first | contradiction | omega)
                  all_goals
                   refine kC O (aU (aA (dI dJ O ?_)))
                   refine ⟨?_, H⟩; congr 1; rw [fH, if_neg (by omega), if_pos (by omega)]
                 ·(try simp only [Z] at h23)
                  try (exfalso; first | contradiction | omega)
                  all_goals
                   refine dh (aH (aX (bM O (dS O func103 (xW) ?_))))
                   rintro _ _ ⟨rfl, rfl⟩
                   refine jm O (fun h24 => ?_) (fun h24 => ?_)
                   ·(try simp only [Z] at h24)
                    try (exfalso; first | contradiction | omega)
                    all_goals
                     refine aY (bJ O (aY (dS O func104 (pK H hT) ?_)))
                     rintro _ w6 ⟨rfl, H6⟩
                     refine aY (aQ (eX O O) (je O O (fA O (dI dJ O ?_))))
                     refine ⟨?_, H6⟩; congr 1; rw [fH, if_neg (by omega), if_neg (by omega)]; simp [*]
                   ·(try simp only [Z] at h24)
                    try (exfalso; first | contradiction | omega)
                    all_goals
                     refine bn (bn (bn (fG O O (fA O (dI dJ O ?_)))))
                     refine ⟨?_, H⟩; congr 1; rw [fH, if_neg (by omega), if_neg (by omega)]; simp [*]
               ·(try simp only [Z] at h22)
                try (exfalso; first | contradiction | omega)
                all_goals
                 refine aB (bJ O (aQ (lI O O) (jm O (fun h25 => ?_) (fun h25 => ?_))))
                 ·(try simp only [Z] at h25)
                  try (exfalso; first | contradiction | omega)
                  all_goals
                   refine aY (bJ O (aY (aQ (pV O O) (je O O (dZ O (aZ O (fun h26 => ?_) (fun h26 => ?_)))))))
                   ·(try simp only [Z] at h26)
                    try (exfalso; first | contradiction | omega)
                    all_goals
                     refine kC O (aU (aA (dI dJ O ?_)))
                     refine ⟨?_, H⟩; congr 1; rw [fH, if_neg (by omega), if_pos (by omega)]
                   ·(try simp only [Z] at h26)
                    try (exfalso; first | contradiction | omega)
                    all_goals
                     refine dh (aH (aX (bM O (dS O func103 (xW) ?_))))
                     rintro _ _ ⟨rfl, rfl⟩
                     refine jm O (fun h27 => ?_) (fun h27 => ?_)
                     ·(try simp only [Z] at h27)
                      try (exfalso; first | contradiction | omega)
                      all_goals
                       refine aY (bJ O (aY (dS O func104 (pK H hT) ?_)))
                       rintro _ w8 ⟨rfl, H8⟩
                       refine aY (aQ (eX O O) (je O O (fA O (dI dJ O ?_))))
                       refine ⟨?_, H8⟩; congr 1; rw [fH, if_neg (by omega), if_neg (by omega)]; simp [*]
                     ·(try simp only [Z] at h27)
                      try (exfalso; first | contradiction | omega)
                      all_goals
                       refine bn (bn (bn (fG O O (fA O (dI dJ O ?_)))))
                       refine ⟨?_, H⟩; congr 1; rw [fH, if_neg (by omega), if_neg (by omega)]; simp [*]
                 ·(try simp only [Z] at h25)
                  try (exfalso; first | contradiction | omega)
                  all_goals
                   refine bn (bn (fG O O (dZ O (oh (dh (aH (aX (bM O (dS O func103 (xW) ?_)))))))))
                   rintro _ _ ⟨rfl, rfl⟩
                   refine jm O (fun h28 => ?_) (fun h28 => ?_)
                   ·(try simp only [Z] at h28)
                    try (exfalso; first | contradiction | omega)
                    all_goals
                     refine aY (bJ O (aY (dS O func104 (pK H hT) ?_)))
                     rintro _ w10 ⟨rfl, pz⟩
                     refine aY (aQ (eX O O) (je O O (fA O (dI dJ O ?_))))
                     refine ⟨?_, pz⟩; congr 1; rw [fH, if_neg (by omega), if_neg (by omega)]; simp [*]
                   ·(try simp only [Z] at h28)
                    try (exfalso; first | contradiction | omega)
                    all_goals
                     refine bn (bn (bn (fG O O (fA O (dI dJ O ?_)))))
                     refine ⟨?_, H⟩; congr 1; rw [fH, if_neg (by omega), if_neg (by omega)]; simp [*]
             ·(try simp only [Z] at h21)
              try (exfalso; first | contradiction | omega)
              all_goals
               refine bn (bn (fG O O (dZ O (oh (aB (bJ O (aQ (lI O O) (jm O (fun h29 => ?_) (fun h29 => ?_)))))))))
               ·(try simp only [Z] at h29)
                try (exfalso; first | contradiction | omega)
                all_goals
                 refine aY (bJ O (aY (aQ (pV O O) (je O O (dZ O (aZ O (fun h30 => ?_) (fun h30 => ?_)))))))
                 ·(try simp only [Z] at h30)
                  try (exfalso; first | contradiction | omega)
                  all_goals
                   refine kC O (aU (aA (dI dJ O ?_)))
                   refine ⟨?_, H⟩; congr 1; rw [fH, if_neg (by omega), if_pos (by omega)]
                 ·(try simp only [Z] at h30)
                  try (exfalso; first | contradiction | omega)
                  all_goals
                   refine dh (aH (aX (bM O (dS O func103 (xW) ?_))))
                   rintro _ _ ⟨rfl, rfl⟩
                   refine jm O (fun h31 => ?_) (fun h31 => ?_)
                   ·(try simp only [Z] at h31)
                    try (exfalso; first | contradiction | omega)
                    all_goals
                     refine aY (bJ O (aY (dS O func104 (pK H hT) ?_)))
                     rintro _ w12 ⟨rfl, vM⟩
                     refine aY (aQ (eX O O) (je O O (fA O (dI dJ O ?_))))
                     refine ⟨?_, vM⟩; congr 1; rw [fH, if_neg (by omega), if_neg (by omega)]; simp [*]
                   ·(try simp only [Z] at h31)
                    try (exfalso; first | contradiction | omega)
                    all_goals
                     refine bn (bn (bn (fG O O (fA O (dI dJ O ?_)))))
                     refine ⟨?_, H⟩; congr 1; rw [fH, if_neg (by omega), if_neg (by omega)]; simp [*]
               ·(try simp only [Z] at h29)
                try (exfalso; first | contradiction | omega)
                all_goals
                 refine bn (bn (fG O O (dZ O (oh (dh (aH (aX (bM O (dS O func103 (xW) ?_)))))))))
                 rintro _ _ ⟨rfl, rfl⟩
                 refine jm O (fun h32 => ?_) (fun h32 => ?_)
                 ·(try simp only [Z] at h32)
                  try (exfalso; first | contradiction | omega)
                  all_goals
                   refine aY (bJ O (aY (dS O func104 (pK H hT) ?_)))
                   rintro _ Pz ⟨rfl, yF⟩
                   refine aY (aQ (eX O O) (je O O (fA O (dI dJ O ?_))))
                   refine ⟨?_, yF⟩; congr 1; rw [fH, if_neg (by omega), if_neg (by omega)]; simp [*]
                 ·(try simp only [Z] at h32)
                  try (exfalso; first | contradiction | omega)
                  all_goals
                   refine bn (bn (bn (fG O O (fA O (dI dJ O ?_)))))
                   refine ⟨?_, H⟩; congr 1; rw [fH, if_neg (by omega), if_neg (by omega)]; simp [*]
         ·(try simp only [Z] at h17)
          try (exfalso; first | contradiction | omega)
          all_goals
           refine bn (bn (fG O O (dZ O (oh (bM O (aQ (lI O O) (jm O (fun h33 => ?_) (fun h33 => ?_))))))))
           ·(try simp only [Z] at h33)
            try (exfalso; first | contradiction | omega)
            all_goals
             refine aY (bJ O (aY (aQ (pV O O) (je O O (dZ O (aZ O (fun h34 => ?_) (fun h34 => ?_)))))))
             ·(try simp only [Z] at h34)
              try (exfalso; first | contradiction | omega)
              all_goals
               refine fV (aZ O (fun h35 => ?_) (fun h35 => ?_))
               ·(try simp only [Z] at h35)
                try (exfalso; first | contradiction | omega)
                all_goals
                 refine kC O (aU (aA (dI dJ O ?_)))
                 refine ⟨?_, H⟩; congr 1; rw [fH, if_neg (by omega), if_pos (by omega)]
               ·(try simp only [Z] at h35)
                try (exfalso; first | contradiction | omega)
                all_goals
                 refine dh (aH (aX (bM O (dS O func103 (xW) ?_))))
                 rintro _ _ ⟨rfl, rfl⟩
                 refine jm O (fun h36 => ?_) (fun h36 => ?_)
                 ·(try simp only [Z] at h36)
                  try (exfalso; first | contradiction | omega)
                  all_goals
                   refine aY (bJ O (aY (dS O func104 (pK H hT) ?_)))
                   rintro _ w16 ⟨rfl, vN⟩
                   refine aY (aQ (eX O O) (je O O (fA O (dI dJ O ?_))))
                   refine ⟨?_, vN⟩; congr 1; rw [fH, if_neg (by omega), if_neg (by omega)]; simp [*]
                 ·(try simp only [Z] at h36)
                  try (exfalso; first | contradiction | omega)
                  all_goals
                   refine bn (bn (bn (fG O O (fA O (dI dJ O ?_)))))
                   refine ⟨?_, H⟩; congr 1; rw [fH, if_neg (by omega), if_neg (by omega)]; simp [*]
             ·(try simp only [Z] at h34)
              try (exfalso; first | contradiction | omega)
              all_goals
               refine aB (bJ O (aQ (lI O O) (jm O (fun h37 => ?_) (fun h37 => ?_))))
               ·(try simp only [Z] at h37)
                try (exfalso; first | contradiction | omega)
                all_goals
                 refine aY (bJ O (aY (aQ (pV O O) (je O O (dZ O (aZ O (fun h38 => ?_) (fun h38 => ?_)))))))
                 ·(try simp only [Z] at h38)
                  try (exfalso; first | contradiction | omega)
                  all_goals
                   refine kC O (aU (aA (dI dJ O ?_)))
                   refine ⟨?_, H⟩; congr 1; rw [fH, if_neg (by omega), if_pos (by omega)]
                 ·(try simp only [Z] at h38)
                  try (exfalso; first | contradiction | omega)
                  all_goals
                   refine dh (aH (aX (bM O (dS O func103 (xW) ?_))))
                   rintro _ _ ⟨rfl, rfl⟩
                   refine jm O (fun h39 => ?_) (fun h39 => ?_)
                   ·(try simp only [Z] at h39)
                    try (exfalso; first | contradiction | omega)
                    all_goals
                     refine aY (bJ O (aY (dS O func104 (pK H hT) ?_)))
                     rintro _ w18 ⟨rfl, DZ⟩
                     refine aY (aQ (eX O O) (je O O (fA O (dI dJ O ?_))))
                     refine ⟨?_, DZ⟩; congr 1; rw [fH, if_neg (by omega), if_neg (by omega)]; simp [*]
                   ·(try simp only [Z] at h39)
                    try (exfalso; first | contradiction | omega)
                    all_goals
                     refine bn (bn (bn (fG O O (fA O (dI dJ O ?_)))))
                     refine ⟨?_, H⟩; congr 1; rw [fH, if_neg (by omega), if_neg (by omega)]; simp [*]
               ·(try simp only [Z] at h37)
                try (exfalso; first | contradiction | omega)
                all_goals
                 refine bn (bn (fG O O (dZ O (oh (dh (aH (aX (bM O (dS O func103 (xW) ?_)))))))))
                 rintro _ _ ⟨rfl, rfl⟩
                 refine jm O (fun h40 => ?_) (fun h40 => ?_)
                 ·(try simp only [Z] at h40)
                  try (exfalso; first | contradiction | omega)
                  all_goals
                   refine aY (bJ O (aY (dS O func104 (pK H hT) ?_)))
                   rintro _ w20 ⟨rfl, E8⟩
                   refine aY (aQ (eX O O) (je O O (fA O (dI dJ O ?_))))
                   refine ⟨?_, E8⟩; congr 1; rw [fH, if_neg (by omega), if_neg (by omega)]; simp [*]
                 ·(try simp only [Z] at h40)
                  try (exfalso; first | contradiction | omega)
                  all_goals
                   refine bn (bn (bn (fG O O (fA O (dI dJ O ?_)))))
                   refine ⟨?_, H⟩; congr 1; rw [fH, if_neg (by omega), if_neg (by omega)]; simp [*]
           ·(try simp only [Z] at h33)
            try (exfalso; first | contradiction | omega)
            all_goals
             refine bn (bn (fG O O (dZ O (oh (aB (bJ O (aQ (lI O O) (jm O (fun h41 => ?_) (fun h41 => ?_)))))))))
             ·(try simp only [Z] at h41)
              try (exfalso; first | contradiction | omega)
              all_goals
               refine aY (bJ O (aY (aQ (pV O O) (je O O (dZ O (aZ O (fun h42 => ?_) (fun h42 => ?_)))))))
               ·(try simp only [Z] at h42)
                try (exfalso; first | contradiction | omega)
                all_goals
                 refine kC O (aU (aA (dI dJ O ?_)))
                 refine ⟨?_, H⟩; congr 1; rw [fH, if_neg (by omega), if_pos (by omega)]
               ·(try simp only [Z] at h42)
                try (exfalso; first | contradiction | omega)
                all_goals
                 refine dh (aH (aX (bM O (dS O func103 (xW) ?_))))
                 rintro _ _ ⟨rfl, rfl⟩
                 refine jm O (fun h43 => ?_) (fun h43 => ?_)
                 ·(try simp only [Z] at h43)
                  try (exfalso; first | contradiction | omega)
                  all_goals
                   refine aY (bJ O (aY (dS O func104 (pK H hT) ?_)))
                   rintro _ w22 ⟨rfl, KQ⟩
                   refine aY (aQ (eX O O) (je O O (fA O (dI dJ O ?_))))
                   refine ⟨?_, KQ⟩; congr 1; rw [fH, if_neg (by omega), if_neg (by omega)]; simp [*]
                 ·(try simp only [Z] at h43)
                  try (exfalso; first | contradiction | omega)
                  all_goals
                   refine bn (bn (bn (fG O O (fA O (dI dJ O ?_)))))
                   refine ⟨?_, H⟩; congr 1; rw [fH, if_neg (by omega), if_neg (by omega)]; simp [*]
             ·(try simp only [Z] at h41)
              try (exfalso; first | contradiction | omega)
              all_goals
               refine bn (bn (fG O O (dZ O (oh (dh (aH (aX (bM O (dS O func103 (xW) ?_)))))))))
               rintro _ _ ⟨rfl, rfl⟩
               refine jm O (fun h44 => ?_) (fun h44 => ?_)
               ·(try simp only [Z] at h44)
                try (exfalso; first | contradiction | omega)
                all_goals
                 refine aY (bJ O (aY (dS O func104 (pK H hT) ?_)))
                 rintro _ w24 ⟨rfl, Oi⟩
                 refine aY (aQ (eX O O) (je O O (fA O (dI dJ O ?_))))
                 refine ⟨?_, Oi⟩; congr 1; rw [fH, if_neg (by omega), if_neg (by omega)]; simp [*]
               ·(try simp only [Z] at h44)
                try (exfalso; first | contradiction | omega)
                all_goals
                 refine bn (bn (bn (fG O O (fA O (dI dJ O ?_)))))
                 refine ⟨?_, H⟩; congr 1; rw [fH, if_neg (by omega), if_neg (by omega)]; simp [*]
end
end Go.Proofs.YtpdeedplgmbopaaGreatDoor
end
section
set_option maxRecDepth 100000
namespace Go.Proofs.YtpdeedplgmbopaaGreatDoor
open Go.ChangeShapes Go.WideShapes Go.ChangeAt Go.RowKit
def XK (x : Int × Int) : DataW Unit := .agg [.lit (.int .i32 x.1), .lit (.int .i32 x.2)]
section
variable {enc : TypeId × Value → Unit} {w : World} {base : Nat} {spare : Nat → Bool} {held : Bool} {fuel : Nat} {ps : List MemPlace}
theorem acN {cs : List Value} {x : Int × Int} (h : DataW.trod enc Tryz.prog w base spare held fuel 213 cs = some (XK x, ps)) : cs = [.int .i32 x.1, .int .i32 x.2] := by
  obtain ⟨xs, n, -, hx, hl, hl2, hf⟩ := DataW.trod_struct Tryz.underlying213 h
  rw [show Tryz.prog.cellsOf 213 = 2 from by kernel_rfl] at hl
  simp only [Prod.mk.injEq, XK, DataW.agg.injEq] at hx
  match xs, hl2, hx, cs, hl with
  | [y0, y1], _, hx, [c0, c1], _ =>
    have h0 : DataW.trod enc Tryz.prog w base spare held n 21 (([c0, c1].drop 0).take (Tryz.prog.cellsOf 21)) = some y0 := hf 0 _ rfl
    have h1 : DataW.trod enc Tryz.prog w base spare held n 21 (([c0, c1].drop 1).take (Tryz.prog.cellsOf 21)) = some y1 := hf 1 _ rfl
    simp only [List.map_cons, List.map_nil, List.cons.injEq] at hx
    obtain ⟨n0, e0, d0, -⟩ := DataW.trod_int Tryz.underlying21 h0
    obtain ⟨n1, e1, d1, -⟩ := DataW.trod_int Tryz.underlying21 h1
    rw [show Tryz.prog.cellsOf 21 = 1 from by kernel_rfl] at e0 e1
    simp at e0 e1
    rw [d0, d1] at hx
    simp at hx
    subst e0; subst e1
    rw [hx.1.1, hx.1.2]
theorem aap {t n : Nat} {cs : List Value} {T : List (Int × Int)} (ht : Tryz.prog.underlying t = some (.array n 213)) (hc : Tryz.prog.cellsOf t = n * 2) (h : DataW.trod enc Tryz.prog w base spare held fuel t cs = some (.agg (T.map XK), ps)) : cs = wU T := by
  obtain ⟨xs, m, -, hx, hl, hl2, hel⟩ := DataW.trod_array ht h
  simp only [Prod.mk.injEq, DataW.agg.injEq] at hx
  rw [hc] at hl
  have hTn : T.length = n := by have := congrArg List.length hx.1; simpa [hl2] using this
  have hv := QE T
  apply List.ext_getElem?
  intro j
  by_cases hj : j < n * 2
  · have hk : j / 2 < n := by omega
    have h1 := hel (j / 2) hk
    rw [show Tryz.prog.cellsOf 213 = 2 from by kernel_rfl, List.getElem?_eq_getElem (by omega)] at h1
    have h2 : xs[j / 2].1 = XK (T.getD (j / 2) (0, 0)) := by
      have := congrArg (fun l => l[j / 2]?) hx.1
      simp [List.getElem?_eq_getElem (show j / 2 < T.length by omega), List.getElem?_eq_getElem (show j / 2 < xs.length by omega)] at this
      rw [List.getD_eq_getElem?_getD, List.getElem?_eq_getElem (show j / 2 < T.length by omega), Option.getD_some, this]
    have h3 := acN (x := T.getD (j / 2) (0, 0)) (ps := xs[j / 2].2) (by rw [h1, ← h2])
    obtain ⟨e0, e1⟩ := LM T (j / 2) (by omega)
    have hq : (wU T)[j]? = some ((wU T).getD j undef) := by rw [List.getD_eq_getElem?_getD, List.getElem?_eq_getElem (by omega)]; rfl
    rw [hq]
    rcases (show j = j / 2 * 2 ∨ j = j / 2 * 2 + 1 by omega) with hj2 | hj2
    · have := congrArg (fun l => l[0]?) h3
      simp [List.getElem?_drop] at this
      rw [show j / 2 * 2 = j from by omega] at this e0
      rw [this, e0]; simp [List.getD_eq_getElem?_getD]
    · have := congrArg (fun l => l[1]?) h3
      simp [List.getElem?_take, List.getElem?_drop] at this
      rw [show j / 2 * 2 + 1 = j from by omega] at this e1
      rw [this, e1]; simp [List.getD_eq_getElem?_getD]
  · rw [List.getElem?_eq_none (by omega), List.getElem?_eq_none (by omega)]
end
end Go.Proofs.YtpdeedplgmbopaaGreatDoor
end
section
namespace Go.Proofs.YtpdeedplgmbopaaGreatDoor
open Go.ChangeShapes Go.WideShapes Go.ChangeAt Go.RowKit
theorem agi : Tryz.prog.globalNamed "lanyard/ucell.none" = some 0 := by kernel_rfl
theorem agj : Tryz.prog.globalNamed "lanyard/ucell.wide" = some 1 := by kernel_rfl
theorem agk : (Tryz.prog.globals[0]?).map (·.type) = some 214 := by kernel_rfl
theorem agl : (Tryz.prog.globals[1]?).map (·.type) = some 215 := by kernel_rfl
abbrev XL : List (String × DataW Unit) := [("lanyard/ucell.none", Rows.laid_lanyard_ucell_none), ("lanyard/ucell.wide", Rows.laid_lanyard_ucell_wide)]
theorem acO {W : World} (h : laidMetH Tryz.prog XL W) : vZ W := by
  rw [MakeChecks.laidMetH_plain _ _ _ (by kernel_rfl)] at h
  obtain ⟨ps, ⟨g0, t0, cs0, f0, p0, q0, hg0, ht0, hv0, hd0, ⟨g1, t1, cs1, f1, p1, q1, hg1, ht1, hv1, hd1, _, _⟩, _⟩, _, _⟩ := h
  obtain rfl := Option.some.inj (agi.symm.trans hg0)
  obtain rfl := Option.some.inj (agj.symm.trans hg1)
  obtain rfl := Option.some.inj (agk.symm.trans ht0)
  obtain rfl := Option.some.inj (agl.symm.trans ht1)
  have e0 := aap (T := XI) Tryz.underlying214 (by kernel_rfl) hd0
  have e1 := aap (T := XJ) Tryz.underlying215 (by kernel_rfl) hd1
  refine ⟨⟨by decide, _, 15, rfl, by decide, by decide, fun _ => ⟨0, 0, rfl, fun j hj => ?_⟩⟩, ⟨by decide, _, 14, rfl, by decide, by decide, fun _ => ⟨1, 0, rfl, fun j hj => ?_⟩⟩⟩
  · rw [Nat.zero_add, World.var?_cell hg0 hv0 j, ← Array.getElem?_toList, e0, List.getD_eq_getElem?_getD, List.getElem?_eq_getElem (by rw [QE]; exact hj)]; rfl
  · rw [Nat.zero_add, World.var?_cell hg1 hv1 j, ← Array.getElem?_toList, e1, List.getD_eq_getElem?_getD, List.getElem?_eq_getElem (by rw [QE]; exact hj)]; rfl
theorem aaq (os : Os) (args : Array Value) : laidMetH Tryz.prog XL ((World.doorLaid Tryz.prog 400 os).forCall (fun _ _ => 0) ⟨#[], args, []⟩).memory :=
  laidMetH_of_parts3 (fuel := 8) (laidMet_of_run' 8 (by kernel_rfl) (by kernel_rfl)) (by kernel_rfl) (by kernel_rfl)
end Go.Proofs.YtpdeedplgmbopaaGreatDoor
end
section
namespace Go.Proofs.YtpdeedplgmbopaaGreatDoor
open Go.RowKit
open _root_.Go.Proofs.Tryz
theorem QF {l m : List Int} {i : Nat} (h1 : i < l.length) (h2 : i < m.length) (h : l.take i = m.take i) (e : l.getD i 0 = m.getD i 0) : l.take (i + 1) = m.take (i + 1) := by
  rw [List.take_succ_eq_append_getElem h1, List.take_succ_eq_append_getElem h2, h]
  simp [List.getD_eq_getElem?_getD, h1, h2] at e
  rw [e]
theorem YT (w : World) (v1 v2 : Value) (l1 l2 : List Int) (h1 : fJ w .i32 v1 l1) (h2 : fJ w .i32 v2 l2) :
  iQ prog 27 #[v1, v2] w fun v w' => v = .bool (l1 == l2) ∧ Ba w w' := by
 obtain ⟨a1, c1, rfl, hc1, hm1, hr1⟩ := h1.open
 obtain ⟨a2, c2, rfl, hc2, hm2, hr2⟩ := h2.open
 clear h1 h2
 refine qc func27 ntmps27 ?_
 refine ku O (aI (bM O (aQ (jH ah O) (bJ O (aQ (jH ah O) (aQ (gY O O) (jr O (fun h1 => ?_) (fun h1 => ?_))))))))
 ·(try simp only [Z] at h1)
  refine kC O (aA (dI results27 O ?_))
  exact ⟨by rw [show (l1 == l2) = false from beq_eq_false_iff_ne.2 (by rintro rfl; exact h1 rfl)], Ba.refl _⟩
 ·(try simp only [Z] at h1)
  refine fV (aI (bM O (aQ (jH ah O) (bJ O (iE (bf ?_))))))
  refine iC [(0, _), (1, _), (12, _)] (fun (k : Nat) => [(13, .int .i64 (k : Int))]) (fun (k : Nat) W => k ≤ l1.length ∧ l1.length = l2.length ∧ l1.take k = l2.take k ∧ Ba w W) (fun (k : Nat) => l1.length - k) (0) vC mO ⟨by omega, by omega, by simp, Ba.refl _⟩ ?_
  rintro k w1 ⟨hk, hl, ht, hD⟩
  dsimp only [List.cons_append, List.nil_append]
  refine iy (aQ (gW O O) (rP (aZ O (fun h2 => ?_) (fun h2 => ?_))))
  ·(try simp only [Z] at h2)
   refine fV (aI (bf (bM O (uf O ?_))))
   obtain ⟨b1, o1, rfl, hq1⟩ := hr1 (by omega)
   obtain ⟨b2, o2, rfl, hq2⟩ := hr2 (by omega)
   have hc1 := hq1 k (by omega)
   have hc2 := hq2 k (by omega)
   refine rV (n := 9) [0, 1, 2, 3, 4, 5, 6, 7, 8] (fun W => W.heap = w1.heap) (by kernel_rfl) (by kernel_rfl) O ?_
   have hS0 : (fun W => W.heap = w1.heap) (w1.drew) := rfl
   refine gX 0 O hS0 O (gX 1 O hS0 O (iI 2 O hS0 (fun _ => dM ah bK O O (by omega)) ?_))
   refine jf 3 O hS0 (fun W hW => fF (dA bC O) O (by rw [I5 (hW.trans hD.heap)]; simpa using hc1)) ?_
   refine gX 4 O hS0 O (gX 5 O hS0 O (iI 6 O hS0 (fun _ => dM ah bK O O (by omega)) ?_))
   refine jf 7 O hS0 (fun W hW => fF (dA bC O) O (by rw [I5 (hW.trans hD.heap)]; simpa using hc2)) ?_
   refine iI 8 O hS0 (fun _ => gY O O) (pq (aX (aZ O (fun h3 => ?_) (fun h3 => ?_))))
   ·(try simp only [Z] at h3)
    refine kC O (aU (aA (aA (aU (aA (dI results27 O ?_))))))
    exact ⟨by rw [show (l1 == l2) = false from beq_eq_false_iff_ne.2 (by rintro rfl; exact h3 rfl)], hD.drew⟩
   ·(try simp only [Z] at h3)
    refine dh (aH (aX (aB (aQ (fQ O O (by omega)) (bJ O (bZ ?_))))))
    refine dX (k + 1) ?_ ?_ ?_ ?_
    ·exact mO
    ·exact vC
    ·(try dsimp only)
     first | done | exact ⟨by omega, by omega, QF (by omega) (by omega) ht (by simpa using h3), hD.drew⟩
    ·(try dsimp only); omega
  ·(try simp only [Z] at h2)
   refine dR (aO (aO (bG (aX (kC O (dI results27 O ?_))))))
   exact ⟨by rw [show (l1 == l2) = true from beq_iff_eq.2 (by rw [List.take_of_length_le (by omega), List.take_of_length_le (by omega)] at ht; exact ht)], hD⟩
theorem Ed : (prog.info? 21).map (fun i => (i.zero, i.size, i.bytes)) = some (some (.int .i32 0), 1, 4) := by kernel_rfl
theorem oL {w0 w : World} {F : HP} {v : Value} {l : List Int} (H : V w0 w F) (hr : jh w0 F .i32 v l) (hb : l.length * 4 ≤ 140737488355328) :
    iQ prog 71 #[v] w fun v' w' => V w0 w' (jw 21 .i32 v' l • F) := by
  obtain ⟨a, c, rfl, h1, h2, h3⟩ := (hr w H).open
  refine ji func71 ntmps71 ?_
  refine ku O (aI (bM O (aQ (D6 ah O O) ?_)))
  refine jr O (fun h1 => ?_) (fun h1 => ?_)
  · (try simp only [Z] at h1)
    refine kC O (aA (dI results71 O ?_))
    obtain rfl : a = none := by simpa using h1
    obtain rfl : l = [] := by
      cases l with
      | nil => rfl
      | cons x l => obtain ⟨b, o, e, _⟩ := h3 (by simp); cases e
    exact H.jO none
  · (try simp only [Z] at h1)
    refine fV (iy (kF (lW (vs := []) H ah bK lq O O O (by decide) (by simp)) ?_))
    rintro _ w1 H1
    refine bJ O (kF (lJ (l := []) H1 (hr.under _ H1) ah Ed O O (by simp; omega) (by simpa using hb)) ?_)
    rintro _ w2 H2
    refine fA O (dI results71 O ?_)
    exact H2
theorem aar {w0 w : World} {F : HP} {n : Int} (H : V w0 w F) (h0 : 0 ≤ n) (hb : n ≤ 70368744177664) :
  iQ prog 195 #[.slice none 0 0, .int .i64 n] w fun v' w' => V w0 w' (jw 21 .i32 v' [] • F) := by
 refine qc func195 ntmps195 ?_
 refine ku O (aI (bM O (aQ (gW O O) (iE (VH O (fun h1 => ?_))))))
 (try simp only [Z] at h1)
 refine fV (aI (bM O (bJ O (aQ (ad3 ah O) (bJ O (aQ (jH ah O) (aQ (jk O O (by omega)) (aQ (jk O O (by omega)) (dZ O (bM O (aQ (eX O O) (jr O (fun h2 => ?_) (fun h2 => ?_)))))))))))))
 ·(try simp only [Z] at h2)
  refine aB (jX O O (aQ (ad3 ah O) (aQ (yx ah bK O O O (by omega)) ?_)))
  refine bJ O (kF (LH H ah aC Ed O O (by omega) (by omega) (by omega)) ?_)
  rintro _ w1 ⟨g, c, cur, rfl, hc1, hc2, hc3, H1⟩
  refine bJ O (aQ (jH ah O) (aQ (yx ah bK O O O (by omega)) ?_))
  refine dZ O (bM O (fA O (dI results195 O ?_)))
  exact H1.Ai (o := 0) (by simp) (Pv 1 0 g 0 _ c) (by simp) hc2 (by simpa using hc3) (by simp)
 ·(try simp only [Z] at h2)
  refine fV (bM O (fA O (dI results195 O ?_)))
  exact H.jO none
theorem VK {w0 w : World} {F : HP} {v : Value} {vs : List Value} {ls : List (List Int)} (H : V w0 w F) (hv : YN w0 F 1 v ls.length vs) (hls : ∀ k, k < ls.length → jh w0 F .i32 (vs.getD k undef) (ls.getD k [])) (hb : ls.flatten.length * 4 ≤ 140737488355328) :
  iQ prog 172 #[v] w fun v' w' => V w0 w' (jw 21 .i32 v' ls.flatten • F) := by
 obtain ⟨_, a, c, rfl, hc1, hc2, _⟩ := hv w H
 refine ji func172 ntmps172 ?_
 refine ku O (ku O (aI (bM O (aQ (jH jy O) (bJ O (iE (bf ?_)))))))
 refine iC [(0, _), (9, _), (10, _)] (fun (k : Nat) => [(3, .int .i64 ((ls.take k).flatten.length : Int)), (11, .int .i64 (k : Int))]) (fun (k : Nat) W => k ≤ ls.length ∧ V w0 W F) (fun (k : Nat) => ls.length - k) (0) vC (Sub.jW O (by simp) (Sub.jW O (O) (Sub.nil _))) ⟨by omega, H⟩ ?_
 rintro k w1 ⟨hk, HL⟩
 dsimp only [List.cons_append, List.nil_append]
 refine iy (aQ (gW O O) (rP (aZ O (fun h1 => ?_) (fun h1 => ?_))))
 ·(try simp only [Z] at h1)
  refine fV (aI (bf (aI ?_)))
  have hk1 : k < ls.length := by omega
  obtain ⟨b, o, rfl, hc⟩ := hv.cell HL (j := k) (by omega)
  obtain ⟨ak, ck, ek, hk2, hk3, _⟩ := (hls k hk1 _ HL).open
  rw [ek] at hc
  have hfl := Qy ls (k + 1)
  rw [EZ ls hk1, List.length_append] at hfl
  refine aB (aQ (dM jy bV O O (by omega)) ?_)
  refine aQ (fF (dA ah O) O (by rw [show ((k : Int).toNat * 1) = k from by omega]; exact hc)) ?_
  refine dZ O (bM O (bJ O (aQ (jH ah O) (aQ (fQ O O (by omega)) (dZ O (bM O (aQ (gW O O) (iE (VH O (fun h2 => ?_))))))))))
  (try simp only [Z] at h2)
  refine dh (aH (aX (aB (aQ (fQ O O (by omega)) (bJ O (bZ ?_))))))
  refine dX (k + 1) ?_ ?_ ?_ ?_
  ·exact (Sub.jW O (by rw [EZ ls hk1, List.length_append, Int.natCast_add]) mO)
  ·exact vC
  ·(try dsimp only)
   first | done | exact ⟨by omega, HL⟩
  ·(try dsimp only); omega
 ·(try simp only [Z] at h1)
  refine dR (aO (aO (bG (aX (bM O (dS O func195 (aar HL (by omega) (by have := Qy ls k; omega)) ?_))))))
  rintro vg w2 H2
  refine uf O (bM O (aQ (jH jy O) (bJ O (iE (bf ?_)))))
  refine iC [(25, _), (26, _)] (fun (⟨k, u⟩ : Nat × Value) => [(6, u), (27, .int .i64 (k : Int))]) (fun (⟨k, u⟩ : Nat × Value) W => k ≤ ls.length ∧ V w0 W (jw 21 .i32 u (ls.take k).flatten • F)) (fun (⟨k, u⟩ : Nat × Value) => ls.length - k) ((0, vg)) uh uh ⟨by omega, H2⟩ ?_
  rintro ⟨k, u⟩ w3 ⟨hk, HM⟩
  dsimp only [List.cons_append, List.nil_append]
  refine iy (aQ (gW O O) (rP (aZ O (fun h3 => ?_) (fun h3 => ?_))))
  ·(try simp only [Z] at h3)
   refine fV (aI (bf (aI ?_)))
   have hk1 : k < ls.length := by omega
   obtain ⟨b, o, rfl, hc⟩ := hv.cell HM.right (j := k) (by omega)
   have hrk := hls k hk1
   have hfl := Qy ls (k + 1)
   rw [EZ ls hk1, List.length_append] at hfl
   refine aB (aQ (dM jy bV O O (by omega)) ?_)
   refine aQ (fF (dA ah O) O (by rw [show ((k : Int).toNat * 1) = k from by omega]; exact hc)) ?_
   refine dZ O (aB (jX O O (kF (lJ HM (hrk _ HM.right) ah Ed O O (by omega) (by omega)) ?_)))
   rintro va w4 H4
   refine gU O (bZ (aH (aX (aB (aQ (fQ O O (by omega)) (bJ O (bZ ?_)))))))
   refine dX ((k + 1, va)) ?_ ?_ ?_ ?_
   ·exact uh
   ·exact uh
   ·(try dsimp only)
    first | done | exact ⟨by omega, by rw [EZ ls hk1]; exact H4⟩
   ·(try dsimp only); omega
  ·(try simp only [Z] at h3)
   refine dR (aO (aO (bG (aX (bM O (fA O (dI results172 O ?_)))))))
   rw [List.take_of_length_le (by omega)] at HM; exact HM
theorem Ee {w0 w : World} {F : HP} {b : Nat} {T : TypeId} {u1 u2 : Value} {l1 l2 : List Int} (H : V w0 w (eP b (.cells #[u1, u2] T (0, 0)) • F)) (h1 : jh w0 (eP b (.cells #[u1, u2] T (0, 0)) • F) .i32 u1 l1) (h2 : jh w0 (eP b (.cells #[u1, u2] T (0, 0)) • F) .i32 u2 l2)
    (hb : (l1.length + l2.length) * 4 ≤ 140737488355328) :
    iQ prog 172 #[.slice (some ⟨b, 0, none⟩) 2 2] w fun v' w' => V w0 w' (jw 21 .i32 v' (l1 ++ l2) • eP b (.cells #[u1, u2] T (0, 0)) • F) := by
  have := VK (ls := [l1, l2]) (vs := [u1, u2]) (v := .slice (some ⟨b, 0, none⟩) 2 2) H (fun W HW => ⟨rfl, _, 2, rfl, by simp, by decide, fun _ => ⟨b, 0, rfl, fun j hj => ?_⟩⟩) (fun k hk => ?_) (by simpa using hb)
  · simpa using this
  · refine kS HW.get.2 ?_
    simp at hj
    match j, hj with
    | 0, _ => rfl
    | 1, _ => rfl
  · simp at hk
    match k, hk with
    | 0, _ => exact h1
    | 1, _ => exact h2
end Go.Proofs.YtpdeedplgmbopaaGreatDoor
end
