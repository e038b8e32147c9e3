import Derived.Test.YtgndbccogcofjaaGreatDoorZ2
import Derived.Test.YtgndbccogcofjaaGreatDoorProg
import Derived.Test.YtgndbccogcofjaaGreatDoorZ4
import Derived.Test.YtgndbccogcofjaaGreatDoorRows
import Derived.Test.YtgndbccogcofjaaGreatDoorZ3
import Derived.Lib.RuneBytes
import Derived.Laws.BitsLemmas
import GoSem.PinnedTables
set_option linter.unusedSimpArgs false
set_option linter.unusedVariables false
/- Texts of mine, joined, their names in short: Tab LaidT UtfM Bits Utf. -/
section
namespace Go.Proofs.YtgndbccogcofjaaGreatDoor
open Go.RowKit
open _root_.Go.Proofs.Tryz
def iZ (r : Int) : Bool := decide (0 ≤ r ∧ r < 55296 ∨ 57343 < r ∧ r ≤ 1114111)
def iG (r : Int) : Bool := decide (0 ≤ r ∧ r < 32 ∨ 127 ≤ r ∧ r ≤ 159)
def within (r : Int) (T : List (Int × Int)) : Bool := T.any fun x => decide (x.1 ≤ r ∧ r ≤ x.2)
def MV : List (Int × Int) := [(768, 879), (1155, 1161), (1425, 1469), (1552, 1562), (1611, 1631), (3633, 3633), (3636, 3642), (3655, 3662), (6832, 6911), (7616, 7679), (8203, 8207), (8400, 8447), (12441, 12442), (65024, 65039), (65056, 65071)]
def MW : List (Int × Int) := [(4352, 4447), (11904, 12350), (12353, 13311), (13312, 19903), (19968, 40959), (40960, 42191), (44032, 55203), (63744, 64255), (65072, 65135), (65280, 65376), (65504, 65510), (127744, 128591), (129280, 129535), (131072, 262141)]
def wO (r : Int) : Int := if !iZ r || iG r || within r MV then 0 else if within r MW then 2 else 1
def bg (r : Int) : Bool :=
  if r < 192 then decide (48 ≤ r ∧ r ≤ 57 ∨ 65 ≤ r ∧ r ≤ 90 ∨ 97 ≤ r ∧ r ≤ 122)
  else if r = 215 ∨ r = 247 ∨ r = 65533 ∨ 8192 ≤ r ∧ r ≤ 8303 ∨ 12288 ≤ r ∧ r ≤ 12351 ∨ 65280 ≤ r ∧ r ≤ 65295 then false
  else iZ r && decide (0 < wO r)
theorem aB.cell {w0 w : World} {F : HP} (H : aB w0 w F) {a : Addr} {v : Value} (h : w0.cell? a = some v) : w.cell? a = some v := (H.base.cell (World.block_lt_of_cell? _ _ h)).trans h
theorem Oq {w : World} {b o : Nat} {u v : Value} (h : w.cell? ⟨b, o, none⟩ = some u) (k : w.cell? ⟨b, o + 1, none⟩ = some v) : ∀ (j : Nat) x, ([u, v] : List Value)[j]? = some x → w.cell? ⟨b, o + j, none⟩ = some x := by
  intro j x hj
  match j, hj with
  | 0, hj => cases hj; exact h
  | 1, hj => cases hj; exact k
  | j + 2, hj => simp at hj
def nS (T : List (Int × Int)) : List Value := T.flatMap fun x => [.int .i32 x.1, .int .i32 x.2]
structure mD (w : World) : Prop where
  XB : Rd w 2 (.slice (some ⟨0, 0, none⟩) 15 15) 15 (nS MV)
  XC : Rd w 2 (.slice (some ⟨1, 0, none⟩) 14 14) 14 (nS MW)
section
variable {w0 w : World} {F : HP} {r : Int}
theorem Ot : fG prog 231 #[.int .i32 r] w fun v w' => v = .bool (iZ r) ∧ w = w' := by
 refine gG func231 ntmps231 ?_
 dsimp only [bf, Nat.reduceAdd]
 refine ay (ah (aV rfl (aA (aj (ay (bF (ay (ah (aN rfl (aU (jZ rfl rfl) (eP rfl (fun h1 => ?_) (fun h1 => ?_))))))))))))
 ·(try simp only [aF] at h1)
  try (exfalso; first | contradiction | omega)
  all_goals
   refine aX (aN rfl (aX (aU (eF rfl rfl) (fP rfl rfl (aV rfl (aA (aj (aP rfl (fun h2 => ?_) (fun h2 => ?_)))))))))
   ·(try simp only [aF] at h2)
    try (exfalso; first | contradiction | omega)
    all_goals
     refine ay (ah (aV rfl (aA (aj (aI (aY (aK (aH (.inl rfl) results231 rfl ?_))))))))
     refine ⟨?_, rfl⟩; congr 1; first | (symm; rw [iZ, decide_eq_true_eq]; omega) | (symm; rw [iZ, decide_eq_false_iff_not]; omega) | (rw [iZ, decide_eq_decide]; omega)
   ·(try simp only [aF] at h2)
    try (exfalso; first | contradiction | omega)
    all_goals
     refine ay (ah (aN rfl (aU (eF rfl rfl) (eP rfl (fun h3 => ?_) (fun h3 => ?_)))))
     ·(try simp only [aF] at h3)
      try (exfalso; first | contradiction | omega)
      all_goals
       refine aX (aN rfl (aX (aU (jZ rfl rfl) (fP rfl rfl (aV rfl (aA (aj (aP rfl (fun h4 => ?_) (fun h4 => ?_)))))))))
       ·(try simp only [aF] at h4)
        try (exfalso; first | contradiction | omega)
        all_goals
         refine ay (ah (aV rfl (aA (aj (aI (aY (aK (aH (.inl rfl) results231 rfl ?_))))))))
         refine ⟨?_, rfl⟩; congr 1; first | (symm; rw [iZ, decide_eq_true_eq]; omega) | (symm; rw [iZ, decide_eq_false_iff_not]; omega) | (rw [iZ, decide_eq_decide]; omega)
       ·(try simp only [aF] at h4)
        try (exfalso; first | contradiction | omega)
        all_goals
         refine aO (aQ (aj (ay (ah (aV rfl (aA (aj (aI (aH (.inl rfl) results231 rfl ?_)))))))))
         refine ⟨?_, rfl⟩; congr 1; first | (symm; rw [iZ, decide_eq_true_eq]; omega) | (symm; rw [iZ, decide_eq_false_iff_not]; omega) | (rw [iZ, decide_eq_decide]; omega)
     ·(try simp only [aF] at h3)
      try (exfalso; first | contradiction | omega)
      all_goals
       refine bD (bD (dL rfl rfl (aV rfl (aA (aj (mO (aO (aQ (aj (ay (ah (aV rfl (aA (aj (aI (aH (.inl rfl) results231 rfl ?_))))))))))))))))
       refine ⟨?_, rfl⟩; congr 1; first | (symm; rw [iZ, decide_eq_true_eq]; omega) | (symm; rw [iZ, decide_eq_false_iff_not]; omega) | (rw [iZ, decide_eq_decide]; omega)
 ·(try simp only [aF] at h1)
  try (exfalso; first | contradiction | omega)
  all_goals
   refine bD (bD (dL rfl rfl (aV rfl (aA (aj (mO (ay (ah (aN rfl (aU (eF rfl rfl) (eP rfl (fun h5 => ?_) (fun h5 => ?_))))))))))))
   ·(try simp only [aF] at h5)
    try (exfalso; first | contradiction | omega)
    all_goals
     refine aX (aN rfl (aX (aU (jZ rfl rfl) (fP rfl rfl (aV rfl (aA (aj (aP rfl (fun h6 => ?_) (fun h6 => ?_)))))))))
     ·(try simp only [aF] at h6)
      try (exfalso; first | contradiction | omega)
      all_goals
       refine ay (ah (aV rfl (aA (aj (aI (aY (aK (aH (.inl rfl) results231 rfl ?_))))))))
       refine ⟨?_, rfl⟩; congr 1; first | (symm; rw [iZ, decide_eq_true_eq]; omega) | (symm; rw [iZ, decide_eq_false_iff_not]; omega) | (rw [iZ, decide_eq_decide]; omega)
     ·(try simp only [aF] at h6)
      try (exfalso; first | contradiction | omega)
      all_goals
       refine aO (aQ (aj (ay (ah (aV rfl (aA (aj (aI (aH (.inl rfl) results231 rfl ?_)))))))))
       refine ⟨?_, rfl⟩; congr 1; first | (symm; rw [iZ, decide_eq_true_eq]; omega) | (symm; rw [iZ, decide_eq_false_iff_not]; omega) | (rw [iZ, decide_eq_decide]; omega)
   ·(try simp only [aF] at h5)
    try (exfalso; first | contradiction | omega)
    all_goals
     refine bD (bD (dL rfl rfl (aV rfl (aA (aj (mO (aO (aQ (aj (ay (ah (aV rfl (aA (aj (aI (aH (.inl rfl) results231 rfl ?_))))))))))))))))
     refine ⟨?_, rfl⟩; congr 1; first | (symm; rw [iZ, decide_eq_true_eq]; omega) | (symm; rw [iZ, decide_eq_false_iff_not]; omega) | (rw [iZ, decide_eq_decide]; omega)
theorem pJ : fG prog 200 #[.int .i32 r] w fun v w' => v = .bool (iZ r) ∧ w = w' := by
 refine gG func200 ntmps200 ?_
 dsimp only [bf, Nat.reduceAdd]
 refine ay (ah (aV rfl (aA (aj (ay (ah (aN rfl (bW rfl func231 (Ot) ?_))))))))
 rintro _ _ ⟨rfl, rfl⟩
 refine aV rfl (aA (aj (aI (aH (.inl rfl) results200 rfl ?_))))
 exact ⟨rfl, rfl⟩
theorem Bf : fG prog 228 #[.int .i32 r] w fun v w' => v = .bool (iG r) ∧ w = w' := by
 refine gG func228 ntmps228 ?_
 dsimp only [bf, Nat.reduceAdd]
 refine ay (ah (aV rfl (aA (aj (ay (ah (aN rfl (aU (jh rfl rfl) (eP rfl (fun h1 => ?_) (fun h1 => ?_))))))))))
 ·(try simp only [aF] at h1)
  try (exfalso; first | contradiction | omega)
  all_goals
   refine aX (aN rfl (aX (aU (eF rfl rfl) (fP rfl rfl (eP rfl (fun h2 => ?_) (fun h2 => ?_))))))
   ·(try simp only [aF] at h2)
    try (exfalso; first | contradiction | omega)
    all_goals
     refine bD (bD (bD (iQ (iQ (bD (fP rfl rfl (aV rfl (aA (aj (aI (aH (.inl rfl) results228 rfl ?_)))))))))))
     refine ⟨?_, rfl⟩; congr 1; first | (symm; rw [iG, decide_eq_true_eq]; omega) | (symm; rw [iG, decide_eq_false_iff_not]; omega) | (rw [iG, decide_eq_decide]; omega)
   ·(try simp only [aF] at h2)
    try (exfalso; first | contradiction | omega)
    all_goals
     refine aX (aN rfl (aX (aU (jh rfl rfl) (aX (eP rfl (fun h3 => ?_) (fun h3 => ?_))))))
     ·(try simp only [aF] at h3)
      try (exfalso; first | contradiction | omega)
      all_goals
       refine aX (aN rfl (aX (aU (jZ rfl rfl) (aX (fP rfl rfl (dL rfl rfl (aV rfl (aA (aj (aI (aH (.inl rfl) results228 rfl ?_)))))))))))
       refine ⟨?_, rfl⟩; congr 1; first | (symm; rw [iG, decide_eq_true_eq]; omega) | (symm; rw [iG, decide_eq_false_iff_not]; omega) | (rw [iG, decide_eq_decide]; omega)
     ·(try simp only [aF] at h3)
      try (exfalso; first | contradiction | omega)
      all_goals
       refine bD (bD (aX (dL rfl rfl (dL rfl rfl (aV rfl (aA (aj (aI (aH (.inl rfl) results228 rfl ?_)))))))))
       refine ⟨?_, rfl⟩; congr 1; first | (symm; rw [iG, decide_eq_true_eq]; omega) | (symm; rw [iG, decide_eq_false_iff_not]; omega) | (rw [iG, decide_eq_decide]; omega)
 ·(try simp only [aF] at h1)
  try (exfalso; first | contradiction | omega)
  all_goals
   refine bD (bD (dL rfl rfl (aN rfl (aX (aN rfl (aX (aU (jh rfl rfl) (aX (eP rfl (fun h4 => ?_) (fun h4 => ?_))))))))))
   ·(try simp only [aF] at h4)
    try (exfalso; first | contradiction | omega)
    all_goals
     refine aX (aN rfl (aX (aU (jZ rfl rfl) (aX (fP rfl rfl (dL rfl rfl (aV rfl (aA (aj (aI (aH (.inl rfl) results228 rfl ?_)))))))))))
     refine ⟨?_, rfl⟩; congr 1; first | (symm; rw [iG, decide_eq_true_eq]; omega) | (symm; rw [iG, decide_eq_false_iff_not]; omega) | (rw [iG, decide_eq_decide]; omega)
   ·(try simp only [aF] at h4)
    try (exfalso; first | contradiction | omega)
    all_goals
     refine bD (bD (aX (dL rfl rfl (dL rfl rfl (aV rfl (aA (aj (aI (aH (.inl rfl) results228 rfl ?_)))))))))
     refine ⟨?_, rfl⟩; congr 1; first | (symm; rw [iG, decide_eq_true_eq]; omega) | (symm; rw [iG, decide_eq_false_iff_not]; omega) | (rw [iG, decide_eq_decide]; omega)
theorem GZ (T : List (Int × Int)) : (nS T).length = T.length * 2 := by
  induction T with
  | nil => rfl
  | cons x r ih => simp only [nS, List.flatMap_cons, List.length_append] at *; simp [ih]; omega
theorem Df (T : List (Int × Int)) (k : Nat) (h : k < T.length) : (nS T).getD (k * 2) undef = .int .i32 (T.getD k (0, 0)).1 ∧ (nS T).getD (k * 2 + 1) undef = .int .i32 (T.getD k (0, 0)).2 := by
  induction T generalizing k with
  | nil => simp at h
  | cons x r ih =>
    cases k with
    | zero => exact ⟨rfl, rfl⟩
    | succ k =>
      have := ih k (by simpa using h)
      rw [show (k + 1) * 2 = k * 2 + 2 from by omega, show k * 2 + 2 + 1 = (k * 2 + 1) + 2 from by omega]
      simpa [nS, List.getD_eq_getElem?_getD] using this
theorem Bg {r : Int} {T : List (Int × Int)} {k : Nat} (h : k < T.length) : within r (T.take (k + 1)) = (within r (T.take k) || decide ((T.getD k (0, 0)).1 ≤ r ∧ r ≤ (T.getD k (0, 0)).2)) := by
  unfold within
  rw [List.take_succ_eq_append_getElem h, List.any_append]
  simp [List.getD_eq_getElem?_getD, h]
theorem KU {r : Int} {T : List (Int × Int)} {k : Nat} (h : k < T.length) (hk : (T.getD k (0, 0)).1 ≤ r ∧ r ≤ (T.getD k (0, 0)).2) : within r T = true := by
  unfold within
  rw [List.any_eq_true]
  refine ⟨T.getD k (0, 0), ?_, by simpa using hk⟩
  rw [List.getD_eq_getElem?_getD, List.getElem?_eq_getElem h]
  exact List.getElem_mem h
theorem Dh {v : Value} {T : List (Int × Int)} (H : aB w0 w F) (hr : Rd w0 2 v T.length (nS T)) (hT : T.length < 1000000) :
  fG prog 232 #[.int .i32 r, v] w fun v w' => v = .bool (within r T) ∧ aB w0 w' F := by
 obtain ⟨hlen, a, c, rfl, hc1, hc2, hcell⟩ := hr
 refine gG func232 ntmps232 ?_
 dsimp only [bf, Nat.reduceAdd]
 refine ay (ah (aV rfl (aA (aj (ay (ay (ah (aN rfl (aU (fO underlying215 rfl) (aN rfl (aA (aj (bF ?_)))))))))))))
 refine gQ [(0, _), (7, _), (8, _)] (fun (k : Nat) => [(9, .int .i64 (k : Int))]) (fun (k : Nat) W => k ≤ T.length ∧ within r (T.take k) = false ∧ aB w0 W F) (fun (k : Nat) => T.length - k) (0) (Sub.cons rfl (Sub.cons rfl (Sub.cons rfl (Sub.nil _)))) (Sub.cons rfl (Sub.nil _)) ⟨by omega, rfl, H⟩ ?_
 rintro k w1 ⟨hk, hno, HL⟩
 dsimp only [List.cons_append, List.nil_append]
 refine ay (ah (aU (eF rfl rfl) (aA (aj (ay (aP rfl (fun h1 => ?_) (fun h1 => ?_)))))))
 ·(try simp only [aF] at h1)
  try (exfalso; first | contradiction | omega)
  all_goals
   refine aO (aj (ay (bF (ay ?_))))
   have hk1 : k < T.length := by omega
   obtain ⟨b0, o, rfl, hq⟩ := hcell (by omega)
   have hq0 := hq (k * 2) (by omega)
   have hq1 := hq (k * 2 + 1) (by omega)
   rw [(Df T k hk1).1] at hq0
   rw [(Df T k hk1).2] at hq1
   rw [← Nat.add_assoc] at hq1
   refine ah (aU (gX underlying215 sizeOf217 rfl rfl (by omega)) ?_)
   refine aU (vI (cs := [.int .i32 (T.getD k (0, 0)).1, .int .i32 (T.getD k (0, 0)).2]) (by rw [underlying217]; rfl) (I7 underlying217 rfl) sizeOf217 rfl rfl (Oq (by rw [show ((k : Int).toNat * 2) = k * 2 from by omega]; exact HL.cell hq0) (by rw [show ((k : Int).toNat * 2) = k * 2 from by omega]; exact HL.cell hq1))) ?_
   refine iy (sQ HL zeroValue217) ?_
   rintro _ w2 ⟨b2, rfl, H2⟩
   refine aJ (dI (cs := #[.int .i32 (T.getD k (0, 0)).1, .int .i32 (T.getD k (0, 0)).2]) H2 sizeOf217 rfl rfl rfl rfl (by simp [Value.oneCell'])) ?_
   rintro _ w3 H3
   have HN := H3.right
   refine aA (aj (ay (ah (aN rfl (bG 0 underlying217 rfl sizeOf21 rfl (dX underlying21 rfl H3.get.2 rfl (aU (jh rfl rfl) (eP rfl (fun h2 => ?_) (fun h2 => ?_)))))))))
   ·(try simp only [aF] at h2)
    try (exfalso; first | contradiction | omega)
    all_goals
     refine aX (aN rfl (aX (bG 1 underlying217 rfl sizeOf21 rfl (aX (dX underlying21 rfl H3.get.2 rfl (aX (aU (jZ rfl rfl) (fP rfl rfl (aA (aj (aP rfl (fun h3 => ?_) (fun h3 => ?_))))))))))))
     ·(try simp only [aF] at h3)
      try (exfalso; first | contradiction | omega)
      all_goals
       refine ay (ah (aV rfl (aA (aj (aI (aY (aK (aK (aY (aK (aH (.inl rfl) results232 rfl ?_)))))))))))
       exact ⟨by rw [KU hk1 (by omega)], HN⟩
     ·(try simp only [aF] at h3)
      try (exfalso; first | contradiction | omega)
      all_goals
       refine aO (aQ (aj (ah (aU (fC rfl rfl (by omega)) (aN rfl (aA ?_))))))
       refine eG (k + 1) ?_ ?_ ?_ ?_
       ·exact (Sub.cons rfl (Sub.nil _))
       ·exact (Sub.cons rfl (Sub.cons rfl (Sub.cons rfl (Sub.nil _))))
       ·(try dsimp only)
        first | done | exact ⟨by omega, by rw [Bg hk1, hno, Bool.false_or, decide_eq_false_iff_not]; omega, HN⟩
       ·(try dsimp only); omega
   ·(try simp only [aF] at h2)
    try (exfalso; first | contradiction | omega)
    all_goals
     refine bD (bD (bD (bD (dL rfl rfl (aA (aj (mO (aO (aQ (aj (ah (aU (fC rfl rfl (by omega)) (aN rfl (aA ?_))))))))))))))
     refine eG (k + 1) ?_ ?_ ?_ ?_
     ·exact (Sub.cons rfl (Sub.nil _))
     ·exact (Sub.cons rfl (Sub.cons rfl (Sub.cons rfl (Sub.nil _))))
     ·(try dsimp only)
      first | done | exact ⟨by omega, by rw [Bg hk1, hno, Bool.false_or, decide_eq_false_iff_not]; omega, HN⟩
     ·(try dsimp only); omega
 ·(try simp only [aF] at h1)
  try (exfalso; first | contradiction | omega)
  all_goals
   refine eU (aZ (aZ (bK (aj (ay (ah (aV rfl (aA (aj (aI (aH (.inl rfl) results232 rfl ?_)))))))))))
   exact ⟨by rw [← hno, List.take_of_length_le (by omega)], HL⟩
theorem jm (H : aB w0 w F) (hT : mD w0) : fG prog 201 #[.int .i32 r] w fun v w' => v = .int .i64 (wO r) ∧ aB w0 w' F := by
 refine gG func201 ntmps201 ?_
 dsimp only [bf, Nat.reduceAdd]
 refine ay (ah (aV rfl (aA (aj (ay (bF (ay (ah (aN rfl (bW rfl func200 (pJ) ?_))))))))))
 rintro _ _ ⟨rfl, rfl⟩
 refine aU (jY rfl) (eP rfl (fun h1 => ?_) (fun h1 => ?_))
 ·(try simp only [aF] at h1)
  try (exfalso; first | contradiction | omega)
  all_goals
   refine bD (bD (fP rfl rfl (aN rfl (bD (bD (bD (fP rfl rfl (aV rfl (aA (aj (wK (ay (ah (aV rfl (aA (aj (aI (aY (aK (aH (.inl rfl) results201 rfl ?_))))))))))))))))))))
   exact ⟨by unfold wO; simp [*], H⟩
 ·(try simp only [aF] at h1)
  try (exfalso; first | contradiction | omega)
  all_goals
   refine aX (aN rfl (aX (bW rfl func228 (Bf) ?_)))
   rintro _ _ ⟨rfl, rfl⟩
   refine dL rfl rfl (eP rfl (fun h2 => ?_) (fun h2 => ?_))
   ·(try simp only [aF] at h2)
    try (exfalso; first | contradiction | omega)
    all_goals
     refine bD (bD (bD (fP rfl rfl (aV rfl (aA (aj (wK (ay (ah (aV rfl (aA (aj (aI (aY (aK (aH (.inl rfl) results201 rfl ?_))))))))))))))))
     exact ⟨by unfold wO; simp [*], H⟩
   ·(try simp only [aF] at h2)
    try (exfalso; first | contradiction | omega)
    all_goals
     refine aX (aN rfl (aX (aU (Bd underlying218 sizeOf217 rfl) (aX (bW rfl func232 (Dh (T := MV) H hT.XB (by decide)) ?_)))))
     rintro _ w3 ⟨rfl, H3⟩
     refine dL rfl rfl (aV rfl (aA (aj (aP rfl (fun h3 => ?_) (fun h3 => ?_)))))
     ·(try simp only [aF] at h3)
      try (exfalso; first | contradiction | omega)
      all_goals
       refine ay (ah (aV rfl (aA (aj (aI (aY (aK (aH (.inl rfl) results201 rfl ?_))))))))
       exact ⟨by unfold wO; simp [*], H3⟩
     ·(try simp only [aF] at h3)
      try (exfalso; first | contradiction | omega)
      all_goals
       refine ay (ah (aN rfl (aU (Bd underlying219 sizeOf217 rfl) (bW rfl func232 (Dh (T := MW) H3 hT.XC (by decide)) ?_))))
       rintro _ w4 ⟨rfl, H4⟩
       refine aV rfl (aA (aj (aP rfl (fun h4 => ?_) (fun h4 => ?_))))
       ·(try simp only [aF] at h4)
        try (exfalso; first | contradiction | omega)
        all_goals
         refine ay (ah (aV rfl (aA (aj (aI (aY (aK (aH (.inl rfl) results201 rfl ?_))))))))
         exact ⟨by unfold wO; simp [*], H4⟩
       ·(try simp only [aF] at h4)
        try (exfalso; first | contradiction | omega)
        all_goals
         refine aO (aQ (aj (ay (ah (aV rfl (aA (aj (aI (aH (.inl rfl) results201 rfl ?_)))))))))
         exact ⟨by unfold wO; simp [*], H4⟩
theorem yJ (H : aB w0 w F) (hT : mD w0) : fG prog 137 #[.int .i32 r] w fun v w' => v = .bool (bg r) ∧ aB w0 w' F := by
 refine gG func137 ntmps137 ?_
 dsimp only [bf, Nat.reduceAdd]
 refine ay (ah (aV rfl (aA (aj (ay (ay (ah (aN rfl (aU (eF rfl rfl) (aA (aj (aP rfl (fun h1 => ?_) (fun h1 => ?_)))))))))))))
 ·(try simp only [aF] at h1)
  try (exfalso; first | contradiction | omega)
  all_goals
   refine ay (ah (aN rfl (aU (jh rfl rfl) (eP rfl (fun h2 => ?_) (fun h2 => ?_)))))
   ·(try simp only [aF] at h2)
    try (exfalso; first | contradiction | omega)
    all_goals
     refine aX (aN rfl (aX (aU (jZ rfl rfl) (fP rfl rfl (eP rfl (fun h3 => ?_) (fun h3 => ?_))))))
     ·(try simp only [aF] at h3)
      try (exfalso; first | contradiction | omega)
      all_goals
       refine bD (bD (bD (iQ (iQ (bD (fP rfl rfl (aN rfl (bD (bD (bD (iQ (iQ (bD (fP rfl rfl (aV rfl (aA (aj (aI (aK (aH (.inl rfl) results137 rfl ?_))))))))))))))))))))
       refine ⟨?_, H⟩; congr 1; rw [bg, if_pos (by omega)]; first | (symm; rw [decide_eq_true_eq]; omega) | (symm; rw [decide_eq_false_iff_not]; omega) | (rw [decide_eq_decide]; omega)
     ·(try simp only [aF] at h3)
      try (exfalso; first | contradiction | omega)
      all_goals
       refine aX (aN rfl (aX (aU (jh rfl rfl) (aX (eP rfl (fun h4 => ?_) (fun h4 => ?_))))))
       ·(try simp only [aF] at h4)
        try (exfalso; first | contradiction | omega)
        all_goals
         refine aX (aN rfl (aX (aU (jZ rfl rfl) (aX (fP rfl rfl (dL rfl rfl (eP rfl (fun h5 => ?_) (fun h5 => ?_))))))))
         ·(try simp only [aF] at h5)
          try (exfalso; first | contradiction | omega)
          all_goals
           refine bD (bD (bD (iQ (iQ (bD (fP rfl rfl (aV rfl (aA (aj (aI (aK (aH (.inl rfl) results137 rfl ?_))))))))))))
           refine ⟨?_, H⟩; congr 1; rw [bg, if_pos (by omega)]; first | (symm; rw [decide_eq_true_eq]; omega) | (symm; rw [decide_eq_false_iff_not]; omega) | (rw [decide_eq_decide]; omega)
         ·(try simp only [aF] at h5)
          try (exfalso; first | contradiction | omega)
          all_goals
           refine aX (aN rfl (aX (aU (jh rfl rfl) (aX (eP rfl (fun h6 => ?_) (fun h6 => ?_))))))
           ·(try simp only [aF] at h6)
            try (exfalso; first | contradiction | omega)
            all_goals
             refine aX (aN rfl (aX (aU (jZ rfl rfl) (aX (fP rfl rfl (dL rfl rfl (aV rfl (aA (aj (aI (aK (aH (.inl rfl) results137 rfl ?_))))))))))))
             refine ⟨?_, H⟩; congr 1; rw [bg, if_pos (by omega)]; first | (symm; rw [decide_eq_true_eq]; omega) | (symm; rw [decide_eq_false_iff_not]; omega) | (rw [decide_eq_decide]; omega)
           ·(try simp only [aF] at h6)
            try (exfalso; first | contradiction | omega)
            all_goals
             refine bD (bD (aX (dL rfl rfl (dL rfl rfl (aV rfl (aA (aj (aI (aK (aH (.inl rfl) results137 rfl ?_))))))))))
             refine ⟨?_, H⟩; congr 1; rw [bg, if_pos (by omega)]; first | (symm; rw [decide_eq_true_eq]; omega) | (symm; rw [decide_eq_false_iff_not]; omega) | (rw [decide_eq_decide]; omega)
       ·(try simp only [aF] at h4)
        try (exfalso; first | contradiction | omega)
        all_goals
         refine bD (bD (aX (dL rfl rfl (dL rfl rfl (aN rfl (aX (aN rfl (aX (aU (jh rfl rfl) (aX (eP rfl (fun h7 => ?_) (fun h7 => ?_))))))))))))
         ·(try simp only [aF] at h7)
          try (exfalso; first | contradiction | omega)
          all_goals
           refine aX (aN rfl (aX (aU (jZ rfl rfl) (aX (fP rfl rfl (dL rfl rfl (aV rfl (aA (aj (aI (aK (aH (.inl rfl) results137 rfl ?_))))))))))))
           refine ⟨?_, H⟩; congr 1; rw [bg, if_pos (by omega)]; first | (symm; rw [decide_eq_true_eq]; omega) | (symm; rw [decide_eq_false_iff_not]; omega) | (rw [decide_eq_decide]; omega)
         ·(try simp only [aF] at h7)
          try (exfalso; first | contradiction | omega)
          all_goals
           refine bD (bD (aX (dL rfl rfl (dL rfl rfl (aV rfl (aA (aj (aI (aK (aH (.inl rfl) results137 rfl ?_))))))))))
           refine ⟨?_, H⟩; congr 1; rw [bg, if_pos (by omega)]; first | (symm; rw [decide_eq_true_eq]; omega) | (symm; rw [decide_eq_false_iff_not]; omega) | (rw [decide_eq_decide]; omega)
   ·(try simp only [aF] at h2)
    try (exfalso; first | contradiction | omega)
    all_goals
     refine bD (bD (dL rfl rfl (aN rfl (aX (aN rfl (aX (aU (jh rfl rfl) (aX (eP rfl (fun h8 => ?_) (fun h8 => ?_))))))))))
     ·(try simp only [aF] at h8)
      try (exfalso; first | contradiction | omega)
      all_goals
       refine aX (aN rfl (aX (aU (jZ rfl rfl) (aX (fP rfl rfl (dL rfl rfl (eP rfl (fun h9 => ?_) (fun h9 => ?_))))))))
       ·(try simp only [aF] at h9)
        try (exfalso; first | contradiction | omega)
        all_goals
         refine bD (bD (bD (iQ (iQ (bD (fP rfl rfl (aV rfl (aA (aj (aI (aK (aH (.inl rfl) results137 rfl ?_))))))))))))
         refine ⟨?_, H⟩; congr 1; rw [bg, if_pos (by omega)]; first | (symm; rw [decide_eq_true_eq]; omega) | (symm; rw [decide_eq_false_iff_not]; omega) | (rw [decide_eq_decide]; omega)
       ·(try simp only [aF] at h9)
        try (exfalso; first | contradiction | omega)
        all_goals
         refine aX (aN rfl (aX (aU (jh rfl rfl) (aX (eP rfl (fun h10 => ?_) (fun h10 => ?_))))))
         ·(try simp only [aF] at h10)
          try (exfalso; first | contradiction | omega)
          all_goals
           refine aX (aN rfl (aX (aU (jZ rfl rfl) (aX (fP rfl rfl (dL rfl rfl (aV rfl (aA (aj (aI (aK (aH (.inl rfl) results137 rfl ?_))))))))))))
           refine ⟨?_, H⟩; congr 1; rw [bg, if_pos (by omega)]; first | (symm; rw [decide_eq_true_eq]; omega) | (symm; rw [decide_eq_false_iff_not]; omega) | (rw [decide_eq_decide]; omega)
         ·(try simp only [aF] at h10)
          try (exfalso; first | contradiction | omega)
          all_goals
           refine bD (bD (aX (dL rfl rfl (dL rfl rfl (aV rfl (aA (aj (aI (aK (aH (.inl rfl) results137 rfl ?_))))))))))
           refine ⟨?_, H⟩; congr 1; rw [bg, if_pos (by omega)]; first | (symm; rw [decide_eq_true_eq]; omega) | (symm; rw [decide_eq_false_iff_not]; omega) | (rw [decide_eq_decide]; omega)
     ·(try simp only [aF] at h8)
      try (exfalso; first | contradiction | omega)
      all_goals
       refine bD (bD (aX (dL rfl rfl (dL rfl rfl (aN rfl (aX (aN rfl (aX (aU (jh rfl rfl) (aX (eP rfl (fun h11 => ?_) (fun h11 => ?_))))))))))))
       ·(try simp only [aF] at h11)
        try (exfalso; first | contradiction | omega)
        all_goals
         refine aX (aN rfl (aX (aU (jZ rfl rfl) (aX (fP rfl rfl (dL rfl rfl (aV rfl (aA (aj (aI (aK (aH (.inl rfl) results137 rfl ?_))))))))))))
         refine ⟨?_, H⟩; congr 1; rw [bg, if_pos (by omega)]; first | (symm; rw [decide_eq_true_eq]; omega) | (symm; rw [decide_eq_false_iff_not]; omega) | (rw [decide_eq_decide]; omega)
       ·(try simp only [aF] at h11)
        try (exfalso; first | contradiction | omega)
        all_goals
         refine bD (bD (aX (dL rfl rfl (dL rfl rfl (aV rfl (aA (aj (aI (aK (aH (.inl rfl) results137 rfl ?_))))))))))
         refine ⟨?_, H⟩; congr 1; rw [bg, if_pos (by omega)]; first | (symm; rw [decide_eq_true_eq]; omega) | (symm; rw [decide_eq_false_iff_not]; omega) | (rw [decide_eq_decide]; omega)
 ·(try simp only [aF] at h1)
  try (exfalso; first | contradiction | omega)
  all_goals
   refine aO (aj (ay (bF (ay (ay (ah (aN rfl (aU (fE rfl rfl) (eP rfl (fun h12 => ?_) (fun h12 => ?_))))))))))
   ·(try simp only [aF] at h12)
    try (exfalso; first | contradiction | omega)
    all_goals
     refine bD (bD (fP rfl rfl (aN rfl (bD (bD (fP rfl rfl (aV rfl (aA (aj (wK (aO (aj (wK (ay (ah (aV rfl (aA (aj (aI (aY (aK (aH (.inl rfl) results137 rfl ?_))))))))))))))))))))))
     refine ⟨?_, H⟩; congr 1; rw [bg, if_neg (by omega), if_pos (by omega)]
   ·(try simp only [aF] at h12)
    try (exfalso; first | contradiction | omega)
    all_goals
     refine aX (aN rfl (aX (aU (fE rfl rfl) (dL rfl rfl (eP rfl (fun h13 => ?_) (fun h13 => ?_))))))
     ·(try simp only [aF] at h13)
      try (exfalso; first | contradiction | omega)
      all_goals
       refine bD (bD (fP rfl rfl (aV rfl (aA (aj (wK (aO (aj (wK (ay (ah (aV rfl (aA (aj (aI (aY (aK (aH (.inl rfl) results137 rfl ?_))))))))))))))))))
       refine ⟨?_, H⟩; congr 1; rw [bg, if_neg (by omega), if_pos (by omega)]
     ·(try simp only [aF] at h13)
      try (exfalso; first | contradiction | omega)
      all_goals
       refine aX (aN rfl (aX (aU (fE rfl rfl) (dL rfl rfl (aV rfl (aA (aj (aP rfl (fun h14 => ?_) (fun h14 => ?_)))))))))
       ·(try simp only [aF] at h14)
        try (exfalso; first | contradiction | omega)
        all_goals
         refine aO (aj (aP rfl (fun h15 => ?_) (fun h15 => ?_)))
         ·(try simp only [aF] at h15)
          try (exfalso; first | contradiction | omega)
          all_goals
           refine ay (ah (aV rfl (aA (aj (aI (aY (aK (aH (.inl rfl) results137 rfl ?_))))))))
           refine ⟨?_, H⟩; congr 1; rw [bg, if_neg (by omega), if_pos (by omega)]
         ·(try simp only [aF] at h15)
          try (exfalso; first | contradiction | omega)
          all_goals
           refine aO (aQ (aj (ay (ah (aN rfl (bW rfl func200 (pJ) ?_))))))
           rintro _ _ ⟨rfl, rfl⟩
           refine eP rfl (fun h16 => ?_) (fun h16 => ?_)
           ·(try simp only [aF] at h16)
            try (exfalso; first | contradiction | omega)
            all_goals
             refine aX (aN rfl (aX (bW rfl func201 (jm H hT) ?_)))
             rintro _ w2 ⟨rfl, H2⟩
             refine aX (aU (dF rfl rfl) (fP rfl rfl (aV rfl (aA (aj (aI (aH (.inl rfl) results137 rfl ?_)))))))
             refine ⟨?_, H2⟩; congr 1; rw [bg, if_neg (by omega), if_neg (by omega)]; simp [*]
           ·(try simp only [aF] at h16)
            try (exfalso; first | contradiction | omega)
            all_goals
             refine bD (bD (bD (dL rfl rfl (aV rfl (aA (aj (aI (aH (.inl rfl) results137 rfl ?_))))))))
             refine ⟨?_, H⟩; congr 1; rw [bg, if_neg (by omega), if_neg (by omega)]; simp [*]
       ·(try simp only [aF] at h14)
        try (exfalso; first | contradiction | omega)
        all_goals
         refine ay (ah (aN rfl (aU (jh rfl rfl) (eP rfl (fun h17 => ?_) (fun h17 => ?_)))))
         ·(try simp only [aF] at h17)
          try (exfalso; first | contradiction | omega)
          all_goals
           refine aX (aN rfl (aX (aU (jZ rfl rfl) (fP rfl rfl (aV rfl (aA (aj (aP rfl (fun h18 => ?_) (fun h18 => ?_)))))))))
           ·(try simp only [aF] at h18)
            try (exfalso; first | contradiction | omega)
            all_goals
             refine aO (aj (aP rfl (fun h19 => ?_) (fun h19 => ?_)))
             ·(try simp only [aF] at h19)
              try (exfalso; first | contradiction | omega)
              all_goals
               refine ay (ah (aV rfl (aA (aj (aI (aY (aK (aH (.inl rfl) results137 rfl ?_))))))))
               refine ⟨?_, H⟩; congr 1; rw [bg, if_neg (by omega), if_pos (by omega)]
             ·(try simp only [aF] at h19)
              try (exfalso; first | contradiction | omega)
              all_goals
               refine aO (aQ (aj (ay (ah (aN rfl (bW rfl func200 (pJ) ?_))))))
               rintro _ _ ⟨rfl, rfl⟩
               refine eP rfl (fun h20 => ?_) (fun h20 => ?_)
               ·(try simp only [aF] at h20)
                try (exfalso; first | contradiction | omega)
                all_goals
                 refine aX (aN rfl (aX (bW rfl func201 (jm H hT) ?_)))
                 rintro _ w4 ⟨rfl, H4⟩
                 refine aX (aU (dF rfl rfl) (fP rfl rfl (aV rfl (aA (aj (aI (aH (.inl rfl) results137 rfl ?_)))))))
                 refine ⟨?_, H4⟩; congr 1; rw [bg, if_neg (by omega), if_neg (by omega)]; simp [*]
               ·(try simp only [aF] at h20)
                try (exfalso; first | contradiction | omega)
                all_goals
                 refine bD (bD (bD (dL rfl rfl (aV rfl (aA (aj (aI (aH (.inl rfl) results137 rfl ?_))))))))
                 refine ⟨?_, H⟩; congr 1; rw [bg, if_neg (by omega), if_neg (by omega)]; simp [*]
           ·(try simp only [aF] at h18)
            try (exfalso; first | contradiction | omega)
            all_goals
             refine ay (ah (aN rfl (aU (jh rfl rfl) (eP rfl (fun h21 => ?_) (fun h21 => ?_)))))
             ·(try simp only [aF] at h21)
              try (exfalso; first | contradiction | omega)
              all_goals
               refine aX (aN rfl (aX (aU (jZ rfl rfl) (fP rfl rfl (aV rfl (aA (aj (aP rfl (fun h22 => ?_) (fun h22 => ?_)))))))))
               ·(try simp only [aF] at h22)
                try (exfalso; first | contradiction | omega)
                all_goals
                 refine aO (aj (aP rfl (fun h23 => ?_) (fun h23 => ?_)))
                 ·(try simp only [aF] at h23)
                  try (exfalso; first | contradiction | omega)
                  all_goals
                   refine ay (ah (aV rfl (aA (aj (aI (aY (aK (aH (.inl rfl) results137 rfl ?_))))))))
                   refine ⟨?_, H⟩; congr 1; rw [bg, if_neg (by omega), if_pos (by omega)]
                 ·(try simp only [aF] at h23)
                  try (exfalso; first | contradiction | omega)
                  all_goals
                   refine aO (aQ (aj (ay (ah (aN rfl (bW rfl func200 (pJ) ?_))))))
                   rintro _ _ ⟨rfl, rfl⟩
                   refine eP rfl (fun h24 => ?_) (fun h24 => ?_)
                   ·(try simp only [aF] at h24)
                    try (exfalso; first | contradiction | omega)
                    all_goals
                     refine aX (aN rfl (aX (bW rfl func201 (jm H hT) ?_)))
                     rintro _ w6 ⟨rfl, H6⟩
                     refine aX (aU (dF rfl rfl) (fP rfl rfl (aV rfl (aA (aj (aI (aH (.inl rfl) results137 rfl ?_)))))))
                     refine ⟨?_, H6⟩; congr 1; rw [bg, if_neg (by omega), if_neg (by omega)]; simp [*]
                   ·(try simp only [aF] at h24)
                    try (exfalso; first | contradiction | omega)
                    all_goals
                     refine bD (bD (bD (dL rfl rfl (aV rfl (aA (aj (aI (aH (.inl rfl) results137 rfl ?_))))))))
                     refine ⟨?_, H⟩; congr 1; rw [bg, if_neg (by omega), if_neg (by omega)]; simp [*]
               ·(try simp only [aF] at h22)
                try (exfalso; first | contradiction | omega)
                all_goals
                 refine ah (aN rfl (aU (jh rfl rfl) (eP rfl (fun h25 => ?_) (fun h25 => ?_))))
                 ·(try simp only [aF] at h25)
                  try (exfalso; first | contradiction | omega)
                  all_goals
                   refine aX (aN rfl (aX (aU (jZ rfl rfl) (fP rfl rfl (aV rfl (aA (aj (aP rfl (fun h26 => ?_) (fun h26 => ?_)))))))))
                   ·(try simp only [aF] at h26)
                    try (exfalso; first | contradiction | omega)
                    all_goals
                     refine ay (ah (aV rfl (aA (aj (aI (aY (aK (aH (.inl rfl) results137 rfl ?_))))))))
                     refine ⟨?_, H⟩; congr 1; rw [bg, if_neg (by omega), if_pos (by omega)]
                   ·(try simp only [aF] at h26)
                    try (exfalso; first | contradiction | omega)
                    all_goals
                     refine aO (aQ (aj (ay (ah (aN rfl (bW rfl func200 (pJ) ?_))))))
                     rintro _ _ ⟨rfl, rfl⟩
                     refine eP rfl (fun h27 => ?_) (fun h27 => ?_)
                     ·(try simp only [aF] at h27)
                      try (exfalso; first | contradiction | omega)
                      all_goals
                       refine aX (aN rfl (aX (bW rfl func201 (jm H hT) ?_)))
                       rintro _ w8 ⟨rfl, H8⟩
                       refine aX (aU (dF rfl rfl) (fP rfl rfl (aV rfl (aA (aj (aI (aH (.inl rfl) results137 rfl ?_)))))))
                       refine ⟨?_, H8⟩; congr 1; rw [bg, if_neg (by omega), if_neg (by omega)]; simp [*]
                     ·(try simp only [aF] at h27)
                      try (exfalso; first | contradiction | omega)
                      all_goals
                       refine bD (bD (bD (dL rfl rfl (aV rfl (aA (aj (aI (aH (.inl rfl) results137 rfl ?_))))))))
                       refine ⟨?_, H⟩; congr 1; rw [bg, if_neg (by omega), if_neg (by omega)]; simp [*]
                 ·(try simp only [aF] at h25)
                  try (exfalso; first | contradiction | omega)
                  all_goals
                   refine bD (bD (dL rfl rfl (aV rfl (aA (aj (mO (aO (aQ (aj (ay (ah (aN rfl (bW rfl func200 (pJ) ?_)))))))))))))
                   rintro _ _ ⟨rfl, rfl⟩
                   refine eP rfl (fun h28 => ?_) (fun h28 => ?_)
                   ·(try simp only [aF] at h28)
                    try (exfalso; first | contradiction | omega)
                    all_goals
                     refine aX (aN rfl (aX (bW rfl func201 (jm H hT) ?_)))
                     rintro _ w10 ⟨rfl, oZ⟩
                     refine aX (aU (dF rfl rfl) (fP rfl rfl (aV rfl (aA (aj (aI (aH (.inl rfl) results137 rfl ?_)))))))
                     refine ⟨?_, oZ⟩; congr 1; rw [bg, if_neg (by omega), if_neg (by omega)]; simp [*]
                   ·(try simp only [aF] at h28)
                    try (exfalso; first | contradiction | omega)
                    all_goals
                     refine bD (bD (bD (dL rfl rfl (aV rfl (aA (aj (aI (aH (.inl rfl) results137 rfl ?_))))))))
                     refine ⟨?_, H⟩; congr 1; rw [bg, if_neg (by omega), if_neg (by omega)]; simp [*]
             ·(try simp only [aF] at h21)
              try (exfalso; first | contradiction | omega)
              all_goals
               refine bD (bD (dL rfl rfl (aV rfl (aA (aj (mO (ah (aN rfl (aU (jh rfl rfl) (eP rfl (fun h29 => ?_) (fun h29 => ?_)))))))))))
               ·(try simp only [aF] at h29)
                try (exfalso; first | contradiction | omega)
                all_goals
                 refine aX (aN rfl (aX (aU (jZ rfl rfl) (fP rfl rfl (aV rfl (aA (aj (aP rfl (fun h30 => ?_) (fun h30 => ?_)))))))))
                 ·(try simp only [aF] at h30)
                  try (exfalso; first | contradiction | omega)
                  all_goals
                   refine ay (ah (aV rfl (aA (aj (aI (aY (aK (aH (.inl rfl) results137 rfl ?_))))))))
                   refine ⟨?_, H⟩; congr 1; rw [bg, if_neg (by omega), if_pos (by omega)]
                 ·(try simp only [aF] at h30)
                  try (exfalso; first | contradiction | omega)
                  all_goals
                   refine aO (aQ (aj (ay (ah (aN rfl (bW rfl func200 (pJ) ?_))))))
                   rintro _ _ ⟨rfl, rfl⟩
                   refine eP rfl (fun h31 => ?_) (fun h31 => ?_)
                   ·(try simp only [aF] at h31)
                    try (exfalso; first | contradiction | omega)
                    all_goals
                     refine aX (aN rfl (aX (bW rfl func201 (jm H hT) ?_)))
                     rintro _ w12 ⟨rfl, xR⟩
                     refine aX (aU (dF rfl rfl) (fP rfl rfl (aV rfl (aA (aj (aI (aH (.inl rfl) results137 rfl ?_)))))))
                     refine ⟨?_, xR⟩; congr 1; rw [bg, if_neg (by omega), if_neg (by omega)]; simp [*]
                   ·(try simp only [aF] at h31)
                    try (exfalso; first | contradiction | omega)
                    all_goals
                     refine bD (bD (bD (dL rfl rfl (aV rfl (aA (aj (aI (aH (.inl rfl) results137 rfl ?_))))))))
                     refine ⟨?_, H⟩; congr 1; rw [bg, if_neg (by omega), if_neg (by omega)]; simp [*]
               ·(try simp only [aF] at h29)
                try (exfalso; first | contradiction | omega)
                all_goals
                 refine bD (bD (dL rfl rfl (aV rfl (aA (aj (mO (aO (aQ (aj (ay (ah (aN rfl (bW rfl func200 (pJ) ?_)))))))))))))
                 rintro _ _ ⟨rfl, rfl⟩
                 refine eP rfl (fun h32 => ?_) (fun h32 => ?_)
                 ·(try simp only [aF] at h32)
                  try (exfalso; first | contradiction | omega)
                  all_goals
                   refine aX (aN rfl (aX (bW rfl func201 (jm H hT) ?_)))
                   rintro _ MX ⟨rfl, yK⟩
                   refine aX (aU (dF rfl rfl) (fP rfl rfl (aV rfl (aA (aj (aI (aH (.inl rfl) results137 rfl ?_)))))))
                   refine ⟨?_, yK⟩; congr 1; rw [bg, if_neg (by omega), if_neg (by omega)]; simp [*]
                 ·(try simp only [aF] at h32)
                  try (exfalso; first | contradiction | omega)
                  all_goals
                   refine bD (bD (bD (dL rfl rfl (aV rfl (aA (aj (aI (aH (.inl rfl) results137 rfl ?_))))))))
                   refine ⟨?_, H⟩; congr 1; rw [bg, if_neg (by omega), if_neg (by omega)]; simp [*]
         ·(try simp only [aF] at h17)
          try (exfalso; first | contradiction | omega)
          all_goals
           refine bD (bD (dL rfl rfl (aV rfl (aA (aj (mO (ay (ah (aN rfl (aU (jh rfl rfl) (eP rfl (fun h33 => ?_) (fun h33 => ?_))))))))))))
           ·(try simp only [aF] at h33)
            try (exfalso; first | contradiction | omega)
            all_goals
             refine aX (aN rfl (aX (aU (jZ rfl rfl) (fP rfl rfl (aV rfl (aA (aj (aP rfl (fun h34 => ?_) (fun h34 => ?_)))))))))
             ·(try simp only [aF] at h34)
              try (exfalso; first | contradiction | omega)
              all_goals
               refine aO (aj (aP rfl (fun h35 => ?_) (fun h35 => ?_)))
               ·(try simp only [aF] at h35)
                try (exfalso; first | contradiction | omega)
                all_goals
                 refine ay (ah (aV rfl (aA (aj (aI (aY (aK (aH (.inl rfl) results137 rfl ?_))))))))
                 refine ⟨?_, H⟩; congr 1; rw [bg, if_neg (by omega), if_pos (by omega)]
               ·(try simp only [aF] at h35)
                try (exfalso; first | contradiction | omega)
                all_goals
                 refine aO (aQ (aj (ay (ah (aN rfl (bW rfl func200 (pJ) ?_))))))
                 rintro _ _ ⟨rfl, rfl⟩
                 refine eP rfl (fun h36 => ?_) (fun h36 => ?_)
                 ·(try simp only [aF] at h36)
                  try (exfalso; first | contradiction | omega)
                  all_goals
                   refine aX (aN rfl (aX (bW rfl func201 (jm H hT) ?_)))
                   rintro _ w16 ⟨rfl, tX⟩
                   refine aX (aU (dF rfl rfl) (fP rfl rfl (aV rfl (aA (aj (aI (aH (.inl rfl) results137 rfl ?_)))))))
                   refine ⟨?_, tX⟩; congr 1; rw [bg, if_neg (by omega), if_neg (by omega)]; simp [*]
                 ·(try simp only [aF] at h36)
                  try (exfalso; first | contradiction | omega)
                  all_goals
                   refine bD (bD (bD (dL rfl rfl (aV rfl (aA (aj (aI (aH (.inl rfl) results137 rfl ?_))))))))
                   refine ⟨?_, H⟩; congr 1; rw [bg, if_neg (by omega), if_neg (by omega)]; simp [*]
             ·(try simp only [aF] at h34)
              try (exfalso; first | contradiction | omega)
              all_goals
               refine ah (aN rfl (aU (jh rfl rfl) (eP rfl (fun h37 => ?_) (fun h37 => ?_))))
               ·(try simp only [aF] at h37)
                try (exfalso; first | contradiction | omega)
                all_goals
                 refine aX (aN rfl (aX (aU (jZ rfl rfl) (fP rfl rfl (aV rfl (aA (aj (aP rfl (fun h38 => ?_) (fun h38 => ?_)))))))))
                 ·(try simp only [aF] at h38)
                  try (exfalso; first | contradiction | omega)
                  all_goals
                   refine ay (ah (aV rfl (aA (aj (aI (aY (aK (aH (.inl rfl) results137 rfl ?_))))))))
                   refine ⟨?_, H⟩; congr 1; rw [bg, if_neg (by omega), if_pos (by omega)]
                 ·(try simp only [aF] at h38)
                  try (exfalso; first | contradiction | omega)
                  all_goals
                   refine aO (aQ (aj (ay (ah (aN rfl (bW rfl func200 (pJ) ?_))))))
                   rintro _ _ ⟨rfl, rfl⟩
                   refine eP rfl (fun h39 => ?_) (fun h39 => ?_)
                   ·(try simp only [aF] at h39)
                    try (exfalso; first | contradiction | omega)
                    all_goals
                     refine aX (aN rfl (aX (bW rfl func201 (jm H hT) ?_)))
                     rintro _ SL ⟨rfl, ER⟩
                     refine aX (aU (dF rfl rfl) (fP rfl rfl (aV rfl (aA (aj (aI (aH (.inl rfl) results137 rfl ?_)))))))
                     refine ⟨?_, ER⟩; congr 1; rw [bg, if_neg (by omega), if_neg (by omega)]; simp [*]
                   ·(try simp only [aF] at h39)
                    try (exfalso; first | contradiction | omega)
                    all_goals
                     refine bD (bD (bD (dL rfl rfl (aV rfl (aA (aj (aI (aH (.inl rfl) results137 rfl ?_))))))))
                     refine ⟨?_, H⟩; congr 1; rw [bg, if_neg (by omega), if_neg (by omega)]; simp [*]
               ·(try simp only [aF] at h37)
                try (exfalso; first | contradiction | omega)
                all_goals
                 refine bD (bD (dL rfl rfl (aV rfl (aA (aj (mO (aO (aQ (aj (ay (ah (aN rfl (bW rfl func200 (pJ) ?_)))))))))))))
                 rintro _ _ ⟨rfl, rfl⟩
                 refine eP rfl (fun h40 => ?_) (fun h40 => ?_)
                 ·(try simp only [aF] at h40)
                  try (exfalso; first | contradiction | omega)
                  all_goals
                   refine aX (aN rfl (aX (bW rfl func201 (jm H hT) ?_)))
                   rintro _ SN ⟨rfl, yh⟩
                   refine aX (aU (dF rfl rfl) (fP rfl rfl (aV rfl (aA (aj (aI (aH (.inl rfl) results137 rfl ?_)))))))
                   refine ⟨?_, yh⟩; congr 1; rw [bg, if_neg (by omega), if_neg (by omega)]; simp [*]
                 ·(try simp only [aF] at h40)
                  try (exfalso; first | contradiction | omega)
                  all_goals
                   refine bD (bD (bD (dL rfl rfl (aV rfl (aA (aj (aI (aH (.inl rfl) results137 rfl ?_))))))))
                   refine ⟨?_, H⟩; congr 1; rw [bg, if_neg (by omega), if_neg (by omega)]; simp [*]
           ·(try simp only [aF] at h33)
            try (exfalso; first | contradiction | omega)
            all_goals
             refine bD (bD (dL rfl rfl (aV rfl (aA (aj (mO (ah (aN rfl (aU (jh rfl rfl) (eP rfl (fun h41 => ?_) (fun h41 => ?_)))))))))))
             ·(try simp only [aF] at h41)
              try (exfalso; first | contradiction | omega)
              all_goals
               refine aX (aN rfl (aX (aU (jZ rfl rfl) (fP rfl rfl (aV rfl (aA (aj (aP rfl (fun h42 => ?_) (fun h42 => ?_)))))))))
               ·(try simp only [aF] at h42)
                try (exfalso; first | contradiction | omega)
                all_goals
                 refine ay (ah (aV rfl (aA (aj (aI (aY (aK (aH (.inl rfl) results137 rfl ?_))))))))
                 refine ⟨?_, H⟩; congr 1; rw [bg, if_neg (by omega), if_pos (by omega)]
               ·(try simp only [aF] at h42)
                try (exfalso; first | contradiction | omega)
                all_goals
                 refine aO (aQ (aj (ay (ah (aN rfl (bW rfl func200 (pJ) ?_))))))
                 rintro _ _ ⟨rfl, rfl⟩
                 refine eP rfl (fun h43 => ?_) (fun h43 => ?_)
                 ·(try simp only [aF] at h43)
                  try (exfalso; first | contradiction | omega)
                  all_goals
                   refine aX (aN rfl (aX (bW rfl func201 (jm H hT) ?_)))
                   rintro _ XD ⟨rfl, G6⟩
                   refine aX (aU (dF rfl rfl) (fP rfl rfl (aV rfl (aA (aj (aI (aH (.inl rfl) results137 rfl ?_)))))))
                   refine ⟨?_, G6⟩; congr 1; rw [bg, if_neg (by omega), if_neg (by omega)]; simp [*]
                 ·(try simp only [aF] at h43)
                  try (exfalso; first | contradiction | omega)
                  all_goals
                   refine bD (bD (bD (dL rfl rfl (aV rfl (aA (aj (aI (aH (.inl rfl) results137 rfl ?_))))))))
                   refine ⟨?_, H⟩; congr 1; rw [bg, if_neg (by omega), if_neg (by omega)]; simp [*]
             ·(try simp only [aF] at h41)
              try (exfalso; first | contradiction | omega)
              all_goals
               refine bD (bD (dL rfl rfl (aV rfl (aA (aj (mO (aO (aQ (aj (ay (ah (aN rfl (bW rfl func200 (pJ) ?_)))))))))))))
               rintro _ _ ⟨rfl, rfl⟩
               refine eP rfl (fun h44 => ?_) (fun h44 => ?_)
               ·(try simp only [aF] at h44)
                try (exfalso; first | contradiction | omega)
                all_goals
                 refine aX (aN rfl (aX (bW rfl func201 (jm H hT) ?_)))
                 rintro _ XE ⟨rfl, Jd⟩
                 refine aX (aU (dF rfl rfl) (fP rfl rfl (aV rfl (aA (aj (aI (aH (.inl rfl) results137 rfl ?_)))))))
                 refine ⟨?_, Jd⟩; congr 1; rw [bg, if_neg (by omega), if_neg (by omega)]; simp [*]
               ·(try simp only [aF] at h44)
                try (exfalso; first | contradiction | omega)
                all_goals
                 refine bD (bD (bD (dL rfl rfl (aV rfl (aA (aj (aI (aH (.inl rfl) results137 rfl ?_))))))))
                 refine ⟨?_, H⟩; congr 1; rw [bg, if_neg (by omega), if_neg (by omega)]; simp [*]
end
end Go.Proofs.YtgndbccogcofjaaGreatDoor
end
section
set_option maxRecDepth 100000
namespace Go.Proofs.YtgndbccogcofjaaGreatDoor
open Go.ChangeShapes Go.WideShapes Go.ChangeAt Go.RowKit
def MZ (x : Int × Int) : DataW Unit := .agg [.lit (.int .i32 x.1), .lit (.int .i32 x.2)]
section
variable {enc : TypeId × Value → Unit} {w : World} {base : Nat} {spare : Nat → Bool} {held : Bool} {fuel : Nat} {ps : List MemPlace}
theorem SQ {cs : List Value} {x : Int × Int} (h : DataW.trod enc Tryz.prog w base spare held fuel 217 cs = some (MZ x, ps)) : cs = [.int .i32 x.1, .int .i32 x.2] := by
  obtain ⟨xs, n, -, hx, hl, hl2, hf⟩ := DataW.trod_struct Tryz.underlying217 h
  rw [show Tryz.prog.cellsOf 217 = 2 from by kernel_rfl] at hl
  simp only [Prod.mk.injEq, MZ, DataW.agg.injEq] at hx
  match xs, hl2, hx, cs, hl with
  | [y0, y1], _, hx, [c0, c1], _ =>
    have h0 : DataW.trod enc Tryz.prog w base spare held n 21 (([c0, c1].drop 0).take (Tryz.prog.cellsOf 21)) = some y0 := hf 0 _ rfl
    have h1 : DataW.trod enc Tryz.prog w base spare held n 21 (([c0, c1].drop 1).take (Tryz.prog.cellsOf 21)) = some y1 := hf 1 _ rfl
    simp only [List.map_cons, List.map_nil, List.cons.injEq] at hx
    obtain ⟨n0, e0, d0, -⟩ := DataW.trod_int Tryz.underlying21 h0
    obtain ⟨n1, e1, d1, -⟩ := DataW.trod_int Tryz.underlying21 h1
    rw [show Tryz.prog.cellsOf 21 = 1 from by kernel_rfl] at e0 e1
    simp at e0 e1
    rw [d0, d1] at hx
    simp at hx
    subst e0; subst e1
    rw [hx.1.1, hx.1.2]
theorem PV {t n : Nat} {cs : List Value} {T : List (Int × Int)} (ht : Tryz.prog.underlying t = some (.array n 217)) (hc : Tryz.prog.cellsOf t = n * 2) (h : DataW.trod enc Tryz.prog w base spare held fuel t cs = some (.agg (T.map MZ), ps)) : cs = nS T := by
  obtain ⟨xs, m, -, hx, hl, hl2, hel⟩ := DataW.trod_array ht h
  simp only [Prod.mk.injEq, DataW.agg.injEq] at hx
  rw [hc] at hl
  have hTn : T.length = n := by have := congrArg List.length hx.1; simpa [hl2] using this
  have hv := GZ T
  apply List.ext_getElem?
  intro j
  by_cases hj : j < n * 2
  · have hk : j / 2 < n := by omega
    have h1 := hel (j / 2) hk
    rw [show Tryz.prog.cellsOf 217 = 2 from by kernel_rfl, List.getElem?_eq_getElem (by omega)] at h1
    have h2 : xs[j / 2].1 = MZ (T.getD (j / 2) (0, 0)) := by
      have := congrArg (fun l => l[j / 2]?) hx.1
      simp [List.getElem?_eq_getElem (show j / 2 < T.length by omega), List.getElem?_eq_getElem (show j / 2 < xs.length by omega)] at this
      rw [List.getD_eq_getElem?_getD, List.getElem?_eq_getElem (show j / 2 < T.length by omega), Option.getD_some, this]
    have h3 := SQ (x := T.getD (j / 2) (0, 0)) (ps := xs[j / 2].2) (by rw [h1, ← h2])
    obtain ⟨e0, e1⟩ := Df T (j / 2) (by omega)
    have hq : (nS T)[j]? = some ((nS T).getD j undef) := by rw [List.getD_eq_getElem?_getD, List.getElem?_eq_getElem (by omega)]; rfl
    rw [hq]
    rcases (show j = j / 2 * 2 ∨ j = j / 2 * 2 + 1 by omega) with hj2 | hj2
    · have := congrArg (fun l => l[0]?) h3
      simp [List.getElem?_drop] at this
      rw [show j / 2 * 2 = j from by omega] at this e0
      rw [this, e0]; simp [List.getD_eq_getElem?_getD]
    · have := congrArg (fun l => l[1]?) h3
      simp [List.getElem?_take, List.getElem?_drop] at this
      rw [show j / 2 * 2 + 1 = j from by omega] at this e1
      rw [this, e1]; simp [List.getD_eq_getElem?_getD]
  · rw [List.getElem?_eq_none (by omega), List.getElem?_eq_none (by omega)]
end
end Go.Proofs.YtgndbccogcofjaaGreatDoor
end
section
namespace Go.Proofs.YtgndbccogcofjaaGreatDoor
def Je (x : Int) : Nat := if x < 128 then 1 else if 194 ≤ x ∧ x ≤ 223 then 2 else if 224 ≤ x ∧ x ≤ 239 then 3 else if 240 ≤ x ∧ x ≤ 244 then 4 else 0
def Zk (x : Int) : Int := if x = 224 then 160 else if x = 240 then 144 else 128
def XF (x : Int) : Int := if x = 237 then 159 else if x = 244 then 143 else 191
def Zl (b : List Int) (j : Nat) : Bool := j == 0 || (decide (128 ≤ b.getD j 0 ∧ b.getD j 0 ≤ 191) && (j != 1 || decide (Zk (b.getD 0 0) ≤ b.getD 1 0 ∧ b.getD 1 0 ≤ XF (b.getD 0 0))))
def UE (b : List Int) : Nat → Bool
  | 0 => true
  | k + 1 => UE b k && Zl b k
def Bh (b : List Int) : Nat × Nat := if b = [] then (0, 0) else if Je (b.getD 0 0) = 0 then (0, 0) else if UE b (min (Je (b.getD 0 0)) b.length) then (min (Je (b.getD 0 0)) b.length, Je (b.getD 0 0)) else (0, Je (b.getD 0 0))
def Zm (b : List Int) (n : Nat) : Int :=
  if n = 1 then b.getD 0 0 else if n = 2 then b.getD 0 0 % 32 * 64 + b.getD 1 0 % 64 else if n = 3 then b.getD 0 0 % 16 * 4096 + b.getD 1 0 % 64 * 64 + b.getD 2 0 % 64
  else b.getD 0 0 % 8 * 262144 + b.getD 1 0 % 64 * 4096 + b.getD 2 0 % 64 * 64 + b.getD 3 0 % 64
def Vw (b : List Int) : Bool := decide ((Bh b).1 = (Bh b).2 ∧ 0 < (Bh b).2)
def PW (b : List Int) : Int × Nat := if Vw b then (Zm b (Bh b).2, (Bh b).2) else (65533, 1)
def XG (b : List Int) : Bool := decide (0 < (Bh b).1 ∧ (Bh b).1 < (Bh b).2)
def PX : Nat → List Int → List Int
  | 0, _ => []
  | f + 1, b => if b = [] then [] else (PW b).1 :: PX f (b.drop (PW b).2)
def Zn (b : List Int) : List Int := PX b.length b
def Vx : Nat → List Int → List Int × List Int
  | 0, b => ([], b)
  | f + 1, b => if b = [] ∨ XG b = true then ([], b) else ((PW b).1 :: (Vx f (b.drop (PW b).2)).1, (Vx f (b.drop (PW b).2)).2)
def abP (b : List Int) : List Int × List Int := Vx b.length b
def Zo (l : List Int) : List Int := l.flatMap Lib.encodeRuneZ
def abQ (b : List Int) : Prop := ∀ x ∈ b, 0 ≤ x ∧ x < 256
end Go.Proofs.YtgndbccogcofjaaGreatDoor
end
section
namespace Go.Proofs.YtgndbccogcofjaaGreatDoor
open Go.RowKit
section
variable {P : Program} {L : List (Nat × Value)} {w : World} {ty t t' : TypeId} {x y : Operand} {k k2 : IntKind} {m n : Int}
theorem SS {n : Int} (h : -2147483648 ≤ n ∧ n < 2147483648) : IntKind.i32.wrap n = n := by rw [IntKind.wrap_i32]; omega
theorem Vy {n : Int} (h : 0 ≤ n ∧ n < 256) : IntKind.u8.wrap n = n := by rw [IntKind.wrap_u8]; omega
end
end Go.Proofs.YtgndbccogcofjaaGreatDoor
end
section
namespace Go.Proofs.YtgndbccogcofjaaGreatDoor
open Go.RowKit
def firstM (x : Nat) : Int := ((Go.Pinned.utf8FirstZ.getD x 0 : Nat) : Int)
def Vz : List (Int × Int) := [(128, 191), (160, 191), (128, 159), (144, 191), (128, 143)]
structure XH (w : World) : Prop where
  first : ∀ x : Nat, x < 256 → w.cell? ⟨2, x, none⟩ = some (.int .u8 (firstM x))
  acc : ∀ i : Nat, i < 5 → w.cell? ⟨3, i * 2, none⟩ = some (.int .u8 (Vz.getD i (0, 0)).1) ∧ w.cell? ⟨3, i * 2 + 1, none⟩ = some (.int .u8 (Vz.getD i (0, 0)).2)
section
variable {b : List Int}
end
section
variable {w0 w : World} {F : HP} {v : Value} {b : List Int}
end
end Go.Proofs.YtgndbccogcofjaaGreatDoor
end
