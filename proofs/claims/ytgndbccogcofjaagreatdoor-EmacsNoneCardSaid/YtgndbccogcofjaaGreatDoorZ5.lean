import Derived.Test.YtgndbccogcofjaaGreatDoorZ2
import Derived.Test.YtgndbccogcofjaaGreatDoorProg
import Derived.Test.YtgndbccogcofjaaGreatDoorZ4
import Derived.Test.YtgndbccogcofjaaGreatDoorRows
import Derived.Test.YtgndbccogcofjaaGreatDoorZ3
import Derived.Lib.RuneBytes
import Derived.Laws.BitsLemmas
import GoSem.PinnedTables
set_option linter.unusedSimpArgs false
set_option linter.unusedVariables false
/- Texts of mine, joined, their names in short: Tab LaidT UtfM Bits Utf. -/
section
namespace Go.Proofs.YtgndbccogcofjaaGreatDoor
open Go.RowKit
open _root_.Go.Proofs.Tryz
def gX (r : Int) : Bool := decide (0 ≤ r ∧ r < 55296 ∨ 57343 < r ∧ r ≤ 1114111)
def gq (r : Int) : Bool := decide (0 ≤ r ∧ r < 32 ∨ 127 ≤ r ∧ r ≤ 159)
def within (r : Int) (T : List (Int × Int)) : Bool := T.any fun x => decide (x.1 ≤ r ∧ r ≤ x.2)
def Jm : List (Int × Int) := [(768, 879), (1155, 1161), (1425, 1469), (1552, 1562), (1611, 1631), (3633, 3633), (3636, 3642), (3655, 3662), (6832, 6911), (7616, 7679), (8203, 8207), (8400, 8447), (12441, 12442), (65024, 65039), (65056, 65071)]
def Jo : List (Int × Int) := [(4352, 4447), (11904, 12350), (12353, 13311), (13312, 19903), (19968, 40959), (40960, 42191), (44032, 55203), (63744, 64255), (65072, 65135), (65280, 65376), (65504, 65510), (127744, 128591), (129280, 129535), (131072, 262141)]
def tC (r : Int) : Int := if !gX r || gq r || within r Jm then 0 else if within r Jo then 2 else 1
def bU (r : Int) : Bool :=
  if r < 192 then decide (48 ≤ r ∧ r ≤ 57 ∨ 65 ≤ r ∧ r ≤ 90 ∨ 97 ≤ r ∧ r ≤ 122)
  else if r = 215 ∨ r = 247 ∨ r = 65533 ∨ 8192 ≤ r ∧ r ≤ 8303 ∨ 12288 ≤ r ∧ r ≤ 12351 ∨ 65280 ≤ r ∧ r ≤ 65295 then false
  else gX r && decide (0 < tC r)
theorem aB.cell {w0 w : World} {F : HP} (H : aB w0 w F) {a : Addr} {v : Value} (h : w0.cell? a = some v) : w.cell? a = some v := (H.base.cell (World.block_lt_of_cell? _ _ h)).trans h
theorem Kv {w : World} {b o : Nat} {u v : Value} (h : w.cell? ⟨b, o, none⟩ = some u) (k : w.cell? ⟨b, o + 1, none⟩ = some v) : ∀ (j : Nat) x, ([u, v] : List Value)[j]? = some x → w.cell? ⟨b, o + j, none⟩ = some x := by
  intro j x hj
  match j, hj with
  | 0, hj => cases hj; exact h
  | 1, hj => cases hj; exact k
  | j + 2, hj => simp at hj
def lg (T : List (Int × Int)) : List Value := T.flatMap fun x => [.int .i32 x.1, .int .i32 x.2]
structure wL (w : World) : Prop where
  TR : Rd w 2 (.slice (some ⟨0, 0, none⟩) 15 15) 15 (lg Jm)
  TS : Rd w 2 (.slice (some ⟨1, 0, none⟩) 14 14) 14 (lg Jo)
section
variable {w0 w : World} {F : HP} {r : Int}
theorem Kw : eG prog 231 #[.int .i32 r] w fun v w' => v = .bool (gX r) ∧ w = w' := by
 refine fP func231 ntmps231 ?_
 dsimp only [aX, Nat.reduceAdd]
 refine ay (ah (aV rfl (aA (aj (ay (bg (ay (ah (aO rfl (aW (kL rfl rfl) (fV rfl (fun h1 => ?_) (fun h1 => ?_))))))))))))
 ·(try simp only [aI] at h1)
  try (exfalso; first | contradiction | omega)
  all_goals
   refine bf (aO rfl (bf (aW (eU rfl rfl) (fG rfl rfl (aV rfl (aA (aj (aQ rfl (fun h2 => ?_) (fun h2 => ?_)))))))))
   ·(try simp only [aI] at h2)
    try (exfalso; first | contradiction | omega)
    all_goals
     refine ay (ah (aV rfl (aA (aj (aJ (aU (aK (aH (.inl rfl) results231 rfl ?_))))))))
     refine ⟨?_, rfl⟩; congr 1; first | (symm; rw [gX, decide_eq_true_eq]; omega) | (symm; rw [gX, decide_eq_false_iff_not]; omega) | (rw [gX, decide_eq_decide]; omega)
   ·(try simp only [aI] at h2)
    try (exfalso; first | contradiction | omega)
    all_goals
     refine ay (ah (aO rfl (aW (eU rfl rfl) (fV rfl (fun h3 => ?_) (fun h3 => ?_)))))
     ·(try simp only [aI] at h3)
      try (exfalso; first | contradiction | omega)
      all_goals
       refine bf (aO rfl (bf (aW (kL rfl rfl) (fG rfl rfl (aV rfl (aA (aj (aQ rfl (fun h4 => ?_) (fun h4 => ?_)))))))))
       ·(try simp only [aI] at h4)
        try (exfalso; first | contradiction | omega)
        all_goals
         refine ay (ah (aV rfl (aA (aj (aJ (aU (aK (aH (.inl rfl) results231 rfl ?_))))))))
         refine ⟨?_, rfl⟩; congr 1; first | (symm; rw [gX, decide_eq_true_eq]; omega) | (symm; rw [gX, decide_eq_false_iff_not]; omega) | (rw [gX, decide_eq_decide]; omega)
       ·(try simp only [aI] at h4)
        try (exfalso; first | contradiction | omega)
        all_goals
         refine aS (aP (aj (ay (ah (aV rfl (aA (aj (aJ (aH (.inl rfl) results231 rfl ?_)))))))))
         refine ⟨?_, rfl⟩; congr 1; first | (symm; rw [gX, decide_eq_true_eq]; omega) | (symm; rw [gX, decide_eq_false_iff_not]; omega) | (rw [gX, decide_eq_decide]; omega)
     ·(try simp only [aI] at h3)
      try (exfalso; first | contradiction | omega)
      all_goals
       refine bC (bC (eY rfl rfl (aV rfl (aA (aj (nV (aS (aP (aj (ay (ah (aV rfl (aA (aj (aJ (aH (.inl rfl) results231 rfl ?_))))))))))))))))
       refine ⟨?_, rfl⟩; congr 1; first | (symm; rw [gX, decide_eq_true_eq]; omega) | (symm; rw [gX, decide_eq_false_iff_not]; omega) | (rw [gX, decide_eq_decide]; omega)
 ·(try simp only [aI] at h1)
  try (exfalso; first | contradiction | omega)
  all_goals
   refine bC (bC (eY rfl rfl (aV rfl (aA (aj (nV (ay (ah (aO rfl (aW (eU rfl rfl) (fV rfl (fun h5 => ?_) (fun h5 => ?_))))))))))))
   ·(try simp only [aI] at h5)
    try (exfalso; first | contradiction | omega)
    all_goals
     refine bf (aO rfl (bf (aW (kL rfl rfl) (fG rfl rfl (aV rfl (aA (aj (aQ rfl (fun h6 => ?_) (fun h6 => ?_)))))))))
     ·(try simp only [aI] at h6)
      try (exfalso; first | contradiction | omega)
      all_goals
       refine ay (ah (aV rfl (aA (aj (aJ (aU (aK (aH (.inl rfl) results231 rfl ?_))))))))
       refine ⟨?_, rfl⟩; congr 1; first | (symm; rw [gX, decide_eq_true_eq]; omega) | (symm; rw [gX, decide_eq_false_iff_not]; omega) | (rw [gX, decide_eq_decide]; omega)
     ·(try simp only [aI] at h6)
      try (exfalso; first | contradiction | omega)
      all_goals
       refine aS (aP (aj (ay (ah (aV rfl (aA (aj (aJ (aH (.inl rfl) results231 rfl ?_)))))))))
       refine ⟨?_, rfl⟩; congr 1; first | (symm; rw [gX, decide_eq_true_eq]; omega) | (symm; rw [gX, decide_eq_false_iff_not]; omega) | (rw [gX, decide_eq_decide]; omega)
   ·(try simp only [aI] at h5)
    try (exfalso; first | contradiction | omega)
    all_goals
     refine bC (bC (eY rfl rfl (aV rfl (aA (aj (nV (aS (aP (aj (ay (ah (aV rfl (aA (aj (aJ (aH (.inl rfl) results231 rfl ?_))))))))))))))))
     refine ⟨?_, rfl⟩; congr 1; first | (symm; rw [gX, decide_eq_true_eq]; omega) | (symm; rw [gX, decide_eq_false_iff_not]; omega) | (rw [gX, decide_eq_decide]; omega)
theorem mO : eG prog 200 #[.int .i32 r] w fun v w' => v = .bool (gX r) ∧ w = w' := by
 refine fP func200 ntmps200 ?_
 dsimp only [aX, Nat.reduceAdd]
 refine ay (ah (aV rfl (aA (aj (ay (ah (aO rfl (dn rfl func231 (Kw) ?_))))))))
 rintro _ _ ⟨rfl, rfl⟩
 refine aV rfl (aA (aj (aJ (aH (.inl rfl) results200 rfl ?_))))
 exact ⟨rfl, rfl⟩
theorem Fg : eG prog 228 #[.int .i32 r] w fun v w' => v = .bool (gq r) ∧ w = w' := by
 refine fP func228 ntmps228 ?_
 dsimp only [aX, Nat.reduceAdd]
 refine ay (ah (aV rfl (aA (aj (ay (ah (aO rfl (aW (jm rfl rfl) (fV rfl (fun h1 => ?_) (fun h1 => ?_))))))))))
 ·(try simp only [aI] at h1)
  try (exfalso; first | contradiction | omega)
  all_goals
   refine bf (aO rfl (bf (aW (eU rfl rfl) (fG rfl rfl (fV rfl (fun h2 => ?_) (fun h2 => ?_))))))
   ·(try simp only [aI] at h2)
    try (exfalso; first | contradiction | omega)
    all_goals
     refine bC (bC (bC (kJ (kJ (bC (fG rfl rfl (aV rfl (aA (aj (aJ (aH (.inl rfl) results228 rfl ?_)))))))))))
     refine ⟨?_, rfl⟩; congr 1; first | (symm; rw [gq, decide_eq_true_eq]; omega) | (symm; rw [gq, decide_eq_false_iff_not]; omega) | (rw [gq, decide_eq_decide]; omega)
   ·(try simp only [aI] at h2)
    try (exfalso; first | contradiction | omega)
    all_goals
     refine bf (aO rfl (bf (aW (jm rfl rfl) (bf (fV rfl (fun h3 => ?_) (fun h3 => ?_))))))
     ·(try simp only [aI] at h3)
      try (exfalso; first | contradiction | omega)
      all_goals
       refine bf (aO rfl (bf (aW (kL rfl rfl) (bf (fG rfl rfl (eY rfl rfl (aV rfl (aA (aj (aJ (aH (.inl rfl) results228 rfl ?_)))))))))))
       refine ⟨?_, rfl⟩; congr 1; first | (symm; rw [gq, decide_eq_true_eq]; omega) | (symm; rw [gq, decide_eq_false_iff_not]; omega) | (rw [gq, decide_eq_decide]; omega)
     ·(try simp only [aI] at h3)
      try (exfalso; first | contradiction | omega)
      all_goals
       refine bC (bC (bf (eY rfl rfl (eY rfl rfl (aV rfl (aA (aj (aJ (aH (.inl rfl) results228 rfl ?_)))))))))
       refine ⟨?_, rfl⟩; congr 1; first | (symm; rw [gq, decide_eq_true_eq]; omega) | (symm; rw [gq, decide_eq_false_iff_not]; omega) | (rw [gq, decide_eq_decide]; omega)
 ·(try simp only [aI] at h1)
  try (exfalso; first | contradiction | omega)
  all_goals
   refine bC (bC (eY rfl rfl (aO rfl (bf (aO rfl (bf (aW (jm rfl rfl) (bf (fV rfl (fun h4 => ?_) (fun h4 => ?_))))))))))
   ·(try simp only [aI] at h4)
    try (exfalso; first | contradiction | omega)
    all_goals
     refine bf (aO rfl (bf (aW (kL rfl rfl) (bf (fG rfl rfl (eY rfl rfl (aV rfl (aA (aj (aJ (aH (.inl rfl) results228 rfl ?_)))))))))))
     refine ⟨?_, rfl⟩; congr 1; first | (symm; rw [gq, decide_eq_true_eq]; omega) | (symm; rw [gq, decide_eq_false_iff_not]; omega) | (rw [gq, decide_eq_decide]; omega)
   ·(try simp only [aI] at h4)
    try (exfalso; first | contradiction | omega)
    all_goals
     refine bC (bC (bf (eY rfl rfl (eY rfl rfl (aV rfl (aA (aj (aJ (aH (.inl rfl) results228 rfl ?_)))))))))
     refine ⟨?_, rfl⟩; congr 1; first | (symm; rw [gq, decide_eq_true_eq]; omega) | (symm; rw [gq, decide_eq_false_iff_not]; omega) | (rw [gq, decide_eq_decide]; omega)
theorem DY (T : List (Int × Int)) : (lg T).length = T.length * 2 := by
  induction T with
  | nil => rfl
  | cons x r ih => simp only [lg, List.flatMap_cons, List.length_append] at *; simp [ih]; omega
theorem zU (T : List (Int × Int)) (k : Nat) (h : k < T.length) : (lg T).getD (k * 2) undef = .int .i32 (T.getD k (0, 0)).1 ∧ (lg T).getD (k * 2 + 1) undef = .int .i32 (T.getD k (0, 0)).2 := by
  induction T generalizing k with
  | nil => simp at h
  | cons x r ih =>
    cases k with
    | zero => exact ⟨rfl, rfl⟩
    | succ k =>
      have := ih k (by simpa using h)
      rw [show (k + 1) * 2 = k * 2 + 2 from by omega, show k * 2 + 2 + 1 = (k * 2 + 1) + 2 from by omega]
      simpa [lg, List.getD_eq_getElem?_getD] using this
theorem yI {r : Int} {T : List (Int × Int)} {k : Nat} (h : k < T.length) : within r (T.take (k + 1)) = (within r (T.take k) || decide ((T.getD k (0, 0)).1 ≤ r ∧ r ≤ (T.getD k (0, 0)).2)) := by
  unfold within
  rw [List.take_succ_eq_append_getElem h, List.any_append]
  simp [List.getD_eq_getElem?_getD, h]
theorem Ho {r : Int} {T : List (Int × Int)} {k : Nat} (h : k < T.length) (hk : (T.getD k (0, 0)).1 ≤ r ∧ r ≤ (T.getD k (0, 0)).2) : within r T = true := by
  unfold within
  rw [List.any_eq_true]
  refine ⟨T.getD k (0, 0), ?_, by simpa using hk⟩
  rw [List.getD_eq_getElem?_getD, List.getElem?_eq_getElem h]
  exact List.getElem_mem h
theorem zV {v : Value} {T : List (Int × Int)} (H : aB w0 w F) (hr : Rd w0 2 v T.length (lg T)) (hT : T.length < 1000000) :
  eG prog 232 #[.int .i32 r, v] w fun v w' => v = .bool (within r T) ∧ aB w0 w' F := by
 obtain ⟨hlen, a, c, rfl, hc1, hc2, hcell⟩ := hr
 refine fP func232 ntmps232 ?_
 dsimp only [aX, Nat.reduceAdd]
 refine ay (ah (aV rfl (aA (aj (ay (ay (ah (aO rfl (aW (fB underlying215 rfl) (aO rfl (aA (aj (bg ?_)))))))))))))
 refine ig [(0, _), (7, _), (8, _)] (fun (k : Nat) => [(9, .int .i64 (k : Int))]) (fun (k : Nat) W => k ≤ T.length ∧ within r (T.take k) = false ∧ aB w0 W F) (fun (k : Nat) => T.length - k) (0) (Sub.cons rfl (Sub.cons rfl (Sub.cons rfl (Sub.nil _)))) (Sub.cons rfl (Sub.nil _)) ⟨by omega, rfl, H⟩ ?_
 rintro k w1 ⟨hk, hno, HL⟩
 dsimp only [List.cons_append, List.nil_append]
 refine ay (ah (aW (eU rfl rfl) (aA (aj (ay (aQ rfl (fun h1 => ?_) (fun h1 => ?_)))))))
 ·(try simp only [aI] at h1)
  try (exfalso; first | contradiction | omega)
  all_goals
   refine aS (aj (ay (bg (ay ?_))))
   have hk1 : k < T.length := by omega
   obtain ⟨b0, o, rfl, hq⟩ := hcell (by omega)
   have hq0 := hq (k * 2) (by omega)
   have hq1 := hq (k * 2 + 1) (by omega)
   rw [(zU T k hk1).1] at hq0
   rw [(zU T k hk1).2] at hq1
   rw [← Nat.add_assoc] at hq1
   refine ah (aW (iK underlying215 sizeOf217 rfl rfl (by omega)) ?_)
   refine aW (rM (cs := [.int .i32 (T.getD k (0, 0)).1, .int .i32 (T.getD k (0, 0)).2]) (by rw [underlying217]; rfl) (EZ underlying217 rfl) sizeOf217 rfl rfl (Kv (by rw [show ((k : Int).toNat * 2) = k * 2 from by omega]; exact HL.cell hq0) (by rw [show ((k : Int).toNat * 2) = k * 2 from by omega]; exact HL.cell hq1))) ?_
   refine jo (pR HL zeroValue217) ?_
   rintro _ w2 ⟨b2, rfl, H2⟩
   refine aG (cZ (cs := #[.int .i32 (T.getD k (0, 0)).1, .int .i32 (T.getD k (0, 0)).2]) H2 sizeOf217 rfl rfl rfl rfl (by simp [Value.oneCell'])) ?_
   rintro _ w3 H3
   have HN := H3.right
   refine aA (aj (ay (ah (aO rfl (aZ 0 underlying217 rfl sizeOf21 rfl (dP underlying21 rfl H3.get.2 rfl (aW (jm rfl rfl) (fV rfl (fun h2 => ?_) (fun h2 => ?_)))))))))
   ·(try simp only [aI] at h2)
    try (exfalso; first | contradiction | omega)
    all_goals
     refine bf (aO rfl (bf (aZ 1 underlying217 rfl sizeOf21 rfl (bf (dP underlying21 rfl H3.get.2 rfl (bf (aW (kL rfl rfl) (fG rfl rfl (aA (aj (aQ rfl (fun h3 => ?_) (fun h3 => ?_))))))))))))
     ·(try simp only [aI] at h3)
      try (exfalso; first | contradiction | omega)
      all_goals
       refine ay (ah (aV rfl (aA (aj (aJ (aU (aK (aK (aU (aK (aH (.inl rfl) results232 rfl ?_)))))))))))
       exact ⟨by rw [Ho hk1 (by omega)], HN⟩
     ·(try simp only [aI] at h3)
      try (exfalso; first | contradiction | omega)
      all_goals
       refine aS (aP (aj (ah (aW (fQ rfl rfl (by omega)) (aO rfl (aA ?_))))))
       refine fA (k + 1) ?_ ?_ ?_ ?_
       ·exact (Sub.cons rfl (Sub.nil _))
       ·exact (Sub.cons rfl (Sub.cons rfl (Sub.cons rfl (Sub.nil _))))
       ·(try dsimp only)
        first | done | exact ⟨by omega, by rw [yI hk1, hno, Bool.false_or, decide_eq_false_iff_not]; omega, HN⟩
       ·(try dsimp only); omega
   ·(try simp only [aI] at h2)
    try (exfalso; first | contradiction | omega)
    all_goals
     refine bC (bC (bC (bC (eY rfl rfl (aA (aj (nV (aS (aP (aj (ah (aW (fQ rfl rfl (by omega)) (aO rfl (aA ?_))))))))))))))
     refine fA (k + 1) ?_ ?_ ?_ ?_
     ·exact (Sub.cons rfl (Sub.nil _))
     ·exact (Sub.cons rfl (Sub.cons rfl (Sub.cons rfl (Sub.nil _))))
     ·(try dsimp only)
      first | done | exact ⟨by omega, by rw [yI hk1, hno, Bool.false_or, decide_eq_false_iff_not]; omega, HN⟩
     ·(try dsimp only); omega
 ·(try simp only [aI] at h1)
  try (exfalso; first | contradiction | omega)
  all_goals
   refine fH (aY (aY (bV (aj (ay (ah (aV rfl (aA (aj (aJ (aH (.inl rfl) results232 rfl ?_)))))))))))
   exact ⟨by rw [← hno, List.take_of_length_le (by omega)], HL⟩
theorem iJ (H : aB w0 w F) (hT : wL w0) : eG prog 201 #[.int .i32 r] w fun v w' => v = .int .i64 (tC r) ∧ aB w0 w' F := by
 refine fP func201 ntmps201 ?_
 dsimp only [aX, Nat.reduceAdd]
 refine ay (ah (aV rfl (aA (aj (ay (bg (ay (ah (aO rfl (dn rfl func200 (mO) ?_))))))))))
 rintro _ _ ⟨rfl, rfl⟩
 refine aW (kC rfl) (fV rfl (fun h1 => ?_) (fun h1 => ?_))
 ·(try simp only [aI] at h1)
  try (exfalso; first | contradiction | omega)
  all_goals
   refine bC (bC (fG rfl rfl (aO rfl (bC (bC (bC (fG rfl rfl (aV rfl (aA (aj (uI (ay (ah (aV rfl (aA (aj (aJ (aU (aK (aH (.inl rfl) results201 rfl ?_))))))))))))))))))))
   exact ⟨by unfold tC; simp [*], H⟩
 ·(try simp only [aI] at h1)
  try (exfalso; first | contradiction | omega)
  all_goals
   refine bf (aO rfl (bf (dn rfl func228 (Fg) ?_)))
   rintro _ _ ⟨rfl, rfl⟩
   refine eY rfl rfl (fV rfl (fun h2 => ?_) (fun h2 => ?_))
   ·(try simp only [aI] at h2)
    try (exfalso; first | contradiction | omega)
    all_goals
     refine bC (bC (bC (fG rfl rfl (aV rfl (aA (aj (uI (ay (ah (aV rfl (aA (aj (aJ (aU (aK (aH (.inl rfl) results201 rfl ?_))))))))))))))))
     exact ⟨by unfold tC; simp [*], H⟩
   ·(try simp only [aI] at h2)
    try (exfalso; first | contradiction | omega)
    all_goals
     refine bf (aO rfl (bf (aW (yH underlying218 sizeOf217 rfl) (bf (dn rfl func232 (zV (T := Jm) H hT.TR (by decide)) ?_)))))
     rintro _ w3 ⟨rfl, H3⟩
     refine eY rfl rfl (aV rfl (aA (aj (aQ rfl (fun h3 => ?_) (fun h3 => ?_)))))
     ·(try simp only [aI] at h3)
      try (exfalso; first | contradiction | omega)
      all_goals
       refine ay (ah (aV rfl (aA (aj (aJ (aU (aK (aH (.inl rfl) results201 rfl ?_))))))))
       exact ⟨by unfold tC; simp [*], H3⟩
     ·(try simp only [aI] at h3)
      try (exfalso; first | contradiction | omega)
      all_goals
       refine ay (ah (aO rfl (aW (yH underlying219 sizeOf217 rfl) (dn rfl func232 (zV (T := Jo) H3 hT.TS (by decide)) ?_))))
       rintro _ w4 ⟨rfl, H4⟩
       refine aV rfl (aA (aj (aQ rfl (fun h4 => ?_) (fun h4 => ?_))))
       ·(try simp only [aI] at h4)
        try (exfalso; first | contradiction | omega)
        all_goals
         refine ay (ah (aV rfl (aA (aj (aJ (aU (aK (aH (.inl rfl) results201 rfl ?_))))))))
         exact ⟨by unfold tC; simp [*], H4⟩
       ·(try simp only [aI] at h4)
        try (exfalso; first | contradiction | omega)
        all_goals
         refine aS (aP (aj (ay (ah (aV rfl (aA (aj (aJ (aH (.inl rfl) results201 rfl ?_)))))))))
         exact ⟨by unfold tC; simp [*], H4⟩
theorem Hr (H : aB w0 w F) (hT : wL w0) : eG prog 137 #[.int .i32 r] w fun v w' => v = .bool (bU r) ∧ aB w0 w' F := by
 refine fP func137 ntmps137 ?_
 dsimp only [aX, Nat.reduceAdd]
 refine ay (ah (aV rfl (aA (aj (ay (ay (ah (aO rfl (aW (eU rfl rfl) (aA (aj (aQ rfl (fun h1 => ?_) (fun h1 => ?_)))))))))))))
 ·(try simp only [aI] at h1)
  try (exfalso; first | contradiction | omega)
  all_goals
   refine ay (ah (aO rfl (aW (jm rfl rfl) (fV rfl (fun h2 => ?_) (fun h2 => ?_)))))
   ·(try simp only [aI] at h2)
    try (exfalso; first | contradiction | omega)
    all_goals
     refine bf (aO rfl (bf (aW (kL rfl rfl) (fG rfl rfl (fV rfl (fun h3 => ?_) (fun h3 => ?_))))))
     ·(try simp only [aI] at h3)
      try (exfalso; first | contradiction | omega)
      all_goals
       refine bC (bC (bC (kJ (kJ (bC (fG rfl rfl (aO rfl (bC (bC (bC (kJ (kJ (bC (fG rfl rfl (aV rfl (aA (aj (aJ (aK (aH (.inl rfl) results137 rfl ?_))))))))))))))))))))
       refine ⟨?_, H⟩; congr 1; rw [bU, if_pos (by omega)]; first | (symm; rw [decide_eq_true_eq]; omega) | (symm; rw [decide_eq_false_iff_not]; omega) | (rw [decide_eq_decide]; omega)
     ·(try simp only [aI] at h3)
      try (exfalso; first | contradiction | omega)
      all_goals
       refine bf (aO rfl (bf (aW (jm rfl rfl) (bf (fV rfl (fun h4 => ?_) (fun h4 => ?_))))))
       ·(try simp only [aI] at h4)
        try (exfalso; first | contradiction | omega)
        all_goals
         refine bf (aO rfl (bf (aW (kL rfl rfl) (bf (fG rfl rfl (eY rfl rfl (fV rfl (fun h5 => ?_) (fun h5 => ?_))))))))
         ·(try simp only [aI] at h5)
          try (exfalso; first | contradiction | omega)
          all_goals
           refine bC (bC (bC (kJ (kJ (bC (fG rfl rfl (aV rfl (aA (aj (aJ (aK (aH (.inl rfl) results137 rfl ?_))))))))))))
           refine ⟨?_, H⟩; congr 1; rw [bU, if_pos (by omega)]; first | (symm; rw [decide_eq_true_eq]; omega) | (symm; rw [decide_eq_false_iff_not]; omega) | (rw [decide_eq_decide]; omega)
         ·(try simp only [aI] at h5)
          try (exfalso; first | contradiction | omega)
          all_goals
           refine bf (aO rfl (bf (aW (jm rfl rfl) (bf (fV rfl (fun h6 => ?_) (fun h6 => ?_))))))
           ·(try simp only [aI] at h6)
            try (exfalso; first | contradiction | omega)
            all_goals
             refine bf (aO rfl (bf (aW (kL rfl rfl) (bf (fG rfl rfl (eY rfl rfl (aV rfl (aA (aj (aJ (aK (aH (.inl rfl) results137 rfl ?_))))))))))))
             refine ⟨?_, H⟩; congr 1; rw [bU, if_pos (by omega)]; first | (symm; rw [decide_eq_true_eq]; omega) | (symm; rw [decide_eq_false_iff_not]; omega) | (rw [decide_eq_decide]; omega)
           ·(try simp only [aI] at h6)
            try (exfalso; first | contradiction | omega)
            all_goals
             refine bC (bC (bf (eY rfl rfl (eY rfl rfl (aV rfl (aA (aj (aJ (aK (aH (.inl rfl) results137 rfl ?_))))))))))
             refine ⟨?_, H⟩; congr 1; rw [bU, if_pos (by omega)]; first | (symm; rw [decide_eq_true_eq]; omega) | (symm; rw [decide_eq_false_iff_not]; omega) | (rw [decide_eq_decide]; omega)
       ·(try simp only [aI] at h4)
        try (exfalso; first | contradiction | omega)
        all_goals
         refine bC (bC (bf (eY rfl rfl (eY rfl rfl (aO rfl (bf (aO rfl (bf (aW (jm rfl rfl) (bf (fV rfl (fun h7 => ?_) (fun h7 => ?_))))))))))))
         ·(try simp only [aI] at h7)
          try (exfalso; first | contradiction | omega)
          all_goals
           refine bf (aO rfl (bf (aW (kL rfl rfl) (bf (fG rfl rfl (eY rfl rfl (aV rfl (aA (aj (aJ (aK (aH (.inl rfl) results137 rfl ?_))))))))))))
           refine ⟨?_, H⟩; congr 1; rw [bU, if_pos (by omega)]; first | (symm; rw [decide_eq_true_eq]; omega) | (symm; rw [decide_eq_false_iff_not]; omega) | (rw [decide_eq_decide]; omega)
         ·(try simp only [aI] at h7)
          try (exfalso; first | contradiction | omega)
          all_goals
           refine bC (bC (bf (eY rfl rfl (eY rfl rfl (aV rfl (aA (aj (aJ (aK (aH (.inl rfl) results137 rfl ?_))))))))))
           refine ⟨?_, H⟩; congr 1; rw [bU, if_pos (by omega)]; first | (symm; rw [decide_eq_true_eq]; omega) | (symm; rw [decide_eq_false_iff_not]; omega) | (rw [decide_eq_decide]; omega)
   ·(try simp only [aI] at h2)
    try (exfalso; first | contradiction | omega)
    all_goals
     refine bC (bC (eY rfl rfl (aO rfl (bf (aO rfl (bf (aW (jm rfl rfl) (bf (fV rfl (fun h8 => ?_) (fun h8 => ?_))))))))))
     ·(try simp only [aI] at h8)
      try (exfalso; first | contradiction | omega)
      all_goals
       refine bf (aO rfl (bf (aW (kL rfl rfl) (bf (fG rfl rfl (eY rfl rfl (fV rfl (fun h9 => ?_) (fun h9 => ?_))))))))
       ·(try simp only [aI] at h9)
        try (exfalso; first | contradiction | omega)
        all_goals
         refine bC (bC (bC (kJ (kJ (bC (fG rfl rfl (aV rfl (aA (aj (aJ (aK (aH (.inl rfl) results137 rfl ?_))))))))))))
         refine ⟨?_, H⟩; congr 1; rw [bU, if_pos (by omega)]; first | (symm; rw [decide_eq_true_eq]; omega) | (symm; rw [decide_eq_false_iff_not]; omega) | (rw [decide_eq_decide]; omega)
       ·(try simp only [aI] at h9)
        try (exfalso; first | contradiction | omega)
        all_goals
         refine bf (aO rfl (bf (aW (jm rfl rfl) (bf (fV rfl (fun h10 => ?_) (fun h10 => ?_))))))
         ·(try simp only [aI] at h10)
          try (exfalso; first | contradiction | omega)
          all_goals
           refine bf (aO rfl (bf (aW (kL rfl rfl) (bf (fG rfl rfl (eY rfl rfl (aV rfl (aA (aj (aJ (aK (aH (.inl rfl) results137 rfl ?_))))))))))))
           refine ⟨?_, H⟩; congr 1; rw [bU, if_pos (by omega)]; first | (symm; rw [decide_eq_true_eq]; omega) | (symm; rw [decide_eq_false_iff_not]; omega) | (rw [decide_eq_decide]; omega)
         ·(try simp only [aI] at h10)
          try (exfalso; first | contradiction | omega)
          all_goals
           refine bC (bC (bf (eY rfl rfl (eY rfl rfl (aV rfl (aA (aj (aJ (aK (aH (.inl rfl) results137 rfl ?_))))))))))
           refine ⟨?_, H⟩; congr 1; rw [bU, if_pos (by omega)]; first | (symm; rw [decide_eq_true_eq]; omega) | (symm; rw [decide_eq_false_iff_not]; omega) | (rw [decide_eq_decide]; omega)
     ·(try simp only [aI] at h8)
      try (exfalso; first | contradiction | omega)
      all_goals
       refine bC (bC (bf (eY rfl rfl (eY rfl rfl (aO rfl (bf (aO rfl (bf (aW (jm rfl rfl) (bf (fV rfl (fun h11 => ?_) (fun h11 => ?_))))))))))))
       ·(try simp only [aI] at h11)
        try (exfalso; first | contradiction | omega)
        all_goals
         refine bf (aO rfl (bf (aW (kL rfl rfl) (bf (fG rfl rfl (eY rfl rfl (aV rfl (aA (aj (aJ (aK (aH (.inl rfl) results137 rfl ?_))))))))))))
         refine ⟨?_, H⟩; congr 1; rw [bU, if_pos (by omega)]; first | (symm; rw [decide_eq_true_eq]; omega) | (symm; rw [decide_eq_false_iff_not]; omega) | (rw [decide_eq_decide]; omega)
       ·(try simp only [aI] at h11)
        try (exfalso; first | contradiction | omega)
        all_goals
         refine bC (bC (bf (eY rfl rfl (eY rfl rfl (aV rfl (aA (aj (aJ (aK (aH (.inl rfl) results137 rfl ?_))))))))))
         refine ⟨?_, H⟩; congr 1; rw [bU, if_pos (by omega)]; first | (symm; rw [decide_eq_true_eq]; omega) | (symm; rw [decide_eq_false_iff_not]; omega) | (rw [decide_eq_decide]; omega)
 ·(try simp only [aI] at h1)
  try (exfalso; first | contradiction | omega)
  all_goals
   refine aS (aj (ay (bg (ay (ay (ah (aO rfl (aW (gI rfl rfl) (fV rfl (fun h12 => ?_) (fun h12 => ?_))))))))))
   ·(try simp only [aI] at h12)
    try (exfalso; first | contradiction | omega)
    all_goals
     refine bC (bC (fG rfl rfl (aO rfl (bC (bC (fG rfl rfl (aV rfl (aA (aj (uI (aS (aj (uI (ay (ah (aV rfl (aA (aj (aJ (aU (aK (aH (.inl rfl) results137 rfl ?_))))))))))))))))))))))
     refine ⟨?_, H⟩; congr 1; rw [bU, if_neg (by omega), if_pos (by omega)]
   ·(try simp only [aI] at h12)
    try (exfalso; first | contradiction | omega)
    all_goals
     refine bf (aO rfl (bf (aW (gI rfl rfl) (eY rfl rfl (fV rfl (fun h13 => ?_) (fun h13 => ?_))))))
     ·(try simp only [aI] at h13)
      try (exfalso; first | contradiction | omega)
      all_goals
       refine bC (bC (fG rfl rfl (aV rfl (aA (aj (uI (aS (aj (uI (ay (ah (aV rfl (aA (aj (aJ (aU (aK (aH (.inl rfl) results137 rfl ?_))))))))))))))))))
       refine ⟨?_, H⟩; congr 1; rw [bU, if_neg (by omega), if_pos (by omega)]
     ·(try simp only [aI] at h13)
      try (exfalso; first | contradiction | omega)
      all_goals
       refine bf (aO rfl (bf (aW (gI rfl rfl) (eY rfl rfl (aV rfl (aA (aj (aQ rfl (fun h14 => ?_) (fun h14 => ?_)))))))))
       ·(try simp only [aI] at h14)
        try (exfalso; first | contradiction | omega)
        all_goals
         refine aS (aj (aQ rfl (fun h15 => ?_) (fun h15 => ?_)))
         ·(try simp only [aI] at h15)
          try (exfalso; first | contradiction | omega)
          all_goals
           refine ay (ah (aV rfl (aA (aj (aJ (aU (aK (aH (.inl rfl) results137 rfl ?_))))))))
           refine ⟨?_, H⟩; congr 1; rw [bU, if_neg (by omega), if_pos (by omega)]
         ·(try simp only [aI] at h15)
          try (exfalso; first | contradiction | omega)
          all_goals
           refine aS (aP (aj (ay (ah (aO rfl (dn rfl func200 (mO) ?_))))))
           rintro _ _ ⟨rfl, rfl⟩
           refine fV rfl (fun h16 => ?_) (fun h16 => ?_)
           ·(try simp only [aI] at h16)
            try (exfalso; first | contradiction | omega)
            all_goals
             refine bf (aO rfl (bf (dn rfl func201 (iJ H hT) ?_)))
             rintro _ w2 ⟨rfl, H2⟩
             refine bf (aW (dB rfl rfl) (fG rfl rfl (aV rfl (aA (aj (aJ (aH (.inl rfl) results137 rfl ?_)))))))
             refine ⟨?_, H2⟩; congr 1; rw [bU, if_neg (by omega), if_neg (by omega)]; simp [*]
           ·(try simp only [aI] at h16)
            try (exfalso; first | contradiction | omega)
            all_goals
             refine bC (bC (bC (eY rfl rfl (aV rfl (aA (aj (aJ (aH (.inl rfl) results137 rfl ?_))))))))
             refine ⟨?_, H⟩; congr 1; rw [bU, if_neg (by omega), if_neg (by omega)]; simp [*]
       ·(try simp only [aI] at h14)
        try (exfalso; first | contradiction | omega)
        all_goals
         refine ay (ah (aO rfl (aW (jm rfl rfl) (fV rfl (fun h17 => ?_) (fun h17 => ?_)))))
         ·(try simp only [aI] at h17)
          try (exfalso; first | contradiction | omega)
          all_goals
           refine bf (aO rfl (bf (aW (kL rfl rfl) (fG rfl rfl (aV rfl (aA (aj (aQ rfl (fun h18 => ?_) (fun h18 => ?_)))))))))
           ·(try simp only [aI] at h18)
            try (exfalso; first | contradiction | omega)
            all_goals
             refine aS (aj (aQ rfl (fun h19 => ?_) (fun h19 => ?_)))
             ·(try simp only [aI] at h19)
              try (exfalso; first | contradiction | omega)
              all_goals
               refine ay (ah (aV rfl (aA (aj (aJ (aU (aK (aH (.inl rfl) results137 rfl ?_))))))))
               refine ⟨?_, H⟩; congr 1; rw [bU, if_neg (by omega), if_pos (by omega)]
             ·(try simp only [aI] at h19)
              try (exfalso; first | contradiction | omega)
              all_goals
               refine aS (aP (aj (ay (ah (aO rfl (dn rfl func200 (mO) ?_))))))
               rintro _ _ ⟨rfl, rfl⟩
               refine fV rfl (fun h20 => ?_) (fun h20 => ?_)
               ·(try simp only [aI] at h20)
                try (exfalso; first | contradiction | omega)
                all_goals
                 refine bf (aO rfl (bf (dn rfl func201 (iJ H hT) ?_)))
                 rintro _ w4 ⟨rfl, H4⟩
                 refine bf (aW (dB rfl rfl) (fG rfl rfl (aV rfl (aA (aj (aJ (aH (.inl rfl) results137 rfl ?_)))))))
                 refine ⟨?_, H4⟩; congr 1; rw [bU, if_neg (by omega), if_neg (by omega)]; simp [*]
               ·(try simp only [aI] at h20)
                try (exfalso; first | contradiction | omega)
                all_goals
                 refine bC (bC (bC (eY rfl rfl (aV rfl (aA (aj (aJ (aH (.inl rfl) results137 rfl ?_))))))))
                 refine ⟨?_, H⟩; congr 1; rw [bU, if_neg (by omega), if_neg (by omega)]; simp [*]
           ·(try simp only [aI] at h18)
            try (exfalso; first | contradiction | omega)
            all_goals
             refine ay (ah (aO rfl (aW (jm rfl rfl) (fV rfl (fun h21 => ?_) (fun h21 => ?_)))))
             ·(try simp only [aI] at h21)
              try (exfalso; first | contradiction | omega)
              all_goals
               refine bf (aO rfl (bf (aW (kL rfl rfl) (fG rfl rfl (aV rfl (aA (aj (aQ rfl (fun h22 => ?_) (fun h22 => ?_)))))))))
               ·(try simp only [aI] at h22)
                try (exfalso; first | contradiction | omega)
                all_goals
                 refine aS (aj (aQ rfl (fun h23 => ?_) (fun h23 => ?_)))
                 ·(try simp only [aI] at h23)
                  try (exfalso; first | contradiction | omega)
                  all_goals
                   refine ay (ah (aV rfl (aA (aj (aJ (aU (aK (aH (.inl rfl) results137 rfl ?_))))))))
                   refine ⟨?_, H⟩; congr 1; rw [bU, if_neg (by omega), if_pos (by omega)]
                 ·(try simp only [aI] at h23)
                  try (exfalso; first | contradiction | omega)
                  all_goals
                   refine aS (aP (aj (ay (ah (aO rfl (dn rfl func200 (mO) ?_))))))
                   rintro _ _ ⟨rfl, rfl⟩
                   refine fV rfl (fun h24 => ?_) (fun h24 => ?_)
                   ·(try simp only [aI] at h24)
                    try (exfalso; first | contradiction | omega)
                    all_goals
                     refine bf (aO rfl (bf (dn rfl func201 (iJ H hT) ?_)))
                     rintro _ w6 ⟨rfl, H6⟩
                     refine bf (aW (dB rfl rfl) (fG rfl rfl (aV rfl (aA (aj (aJ (aH (.inl rfl) results137 rfl ?_)))))))
                     refine ⟨?_, H6⟩; congr 1; rw [bU, if_neg (by omega), if_neg (by omega)]; simp [*]
                   ·(try simp only [aI] at h24)
                    try (exfalso; first | contradiction | omega)
                    all_goals
                     refine bC (bC (bC (eY rfl rfl (aV rfl (aA (aj (aJ (aH (.inl rfl) results137 rfl ?_))))))))
                     refine ⟨?_, H⟩; congr 1; rw [bU, if_neg (by omega), if_neg (by omega)]; simp [*]
               ·(try simp only [aI] at h22)
                try (exfalso; first | contradiction | omega)
                all_goals
                 refine ah (aO rfl (aW (jm rfl rfl) (fV rfl (fun h25 => ?_) (fun h25 => ?_))))
                 ·(try simp only [aI] at h25)
                  try (exfalso; first | contradiction | omega)
                  all_goals
                   refine bf (aO rfl (bf (aW (kL rfl rfl) (fG rfl rfl (aV rfl (aA (aj (aQ rfl (fun h26 => ?_) (fun h26 => ?_)))))))))
                   ·(try simp only [aI] at h26)
                    try (exfalso; first | contradiction | omega)
                    all_goals
                     refine ay (ah (aV rfl (aA (aj (aJ (aU (aK (aH (.inl rfl) results137 rfl ?_))))))))
                     refine ⟨?_, H⟩; congr 1; rw [bU, if_neg (by omega), if_pos (by omega)]
                   ·(try simp only [aI] at h26)
                    try (exfalso; first | contradiction | omega)
                    all_goals
                     refine aS (aP (aj (ay (ah (aO rfl (dn rfl func200 (mO) ?_))))))
                     rintro _ _ ⟨rfl, rfl⟩
                     refine fV rfl (fun h27 => ?_) (fun h27 => ?_)
                     ·(try simp only [aI] at h27)
                      try (exfalso; first | contradiction | omega)
                      all_goals
                       refine bf (aO rfl (bf (dn rfl func201 (iJ H hT) ?_)))
                       rintro _ w8 ⟨rfl, H8⟩
                       refine bf (aW (dB rfl rfl) (fG rfl rfl (aV rfl (aA (aj (aJ (aH (.inl rfl) results137 rfl ?_)))))))
                       refine ⟨?_, H8⟩; congr 1; rw [bU, if_neg (by omega), if_neg (by omega)]; simp [*]
                     ·(try simp only [aI] at h27)
                      try (exfalso; first | contradiction | omega)
                      all_goals
                       refine bC (bC (bC (eY rfl rfl (aV rfl (aA (aj (aJ (aH (.inl rfl) results137 rfl ?_))))))))
                       refine ⟨?_, H⟩; congr 1; rw [bU, if_neg (by omega), if_neg (by omega)]; simp [*]
                 ·(try simp only [aI] at h25)
                  try (exfalso; first | contradiction | omega)
                  all_goals
                   refine bC (bC (eY rfl rfl (aV rfl (aA (aj (nV (aS (aP (aj (ay (ah (aO rfl (dn rfl func200 (mO) ?_)))))))))))))
                   rintro _ _ ⟨rfl, rfl⟩
                   refine fV rfl (fun h28 => ?_) (fun h28 => ?_)
                   ·(try simp only [aI] at h28)
                    try (exfalso; first | contradiction | omega)
                    all_goals
                     refine bf (aO rfl (bf (dn rfl func201 (iJ H hT) ?_)))
                     rintro _ w10 ⟨rfl, ng⟩
                     refine bf (aW (dB rfl rfl) (fG rfl rfl (aV rfl (aA (aj (aJ (aH (.inl rfl) results137 rfl ?_)))))))
                     refine ⟨?_, ng⟩; congr 1; rw [bU, if_neg (by omega), if_neg (by omega)]; simp [*]
                   ·(try simp only [aI] at h28)
                    try (exfalso; first | contradiction | omega)
                    all_goals
                     refine bC (bC (bC (eY rfl rfl (aV rfl (aA (aj (aJ (aH (.inl rfl) results137 rfl ?_))))))))
                     refine ⟨?_, H⟩; congr 1; rw [bU, if_neg (by omega), if_neg (by omega)]; simp [*]
             ·(try simp only [aI] at h21)
              try (exfalso; first | contradiction | omega)
              all_goals
               refine bC (bC (eY rfl rfl (aV rfl (aA (aj (nV (ah (aO rfl (aW (jm rfl rfl) (fV rfl (fun h29 => ?_) (fun h29 => ?_)))))))))))
               ·(try simp only [aI] at h29)
                try (exfalso; first | contradiction | omega)
                all_goals
                 refine bf (aO rfl (bf (aW (kL rfl rfl) (fG rfl rfl (aV rfl (aA (aj (aQ rfl (fun h30 => ?_) (fun h30 => ?_)))))))))
                 ·(try simp only [aI] at h30)
                  try (exfalso; first | contradiction | omega)
                  all_goals
                   refine ay (ah (aV rfl (aA (aj (aJ (aU (aK (aH (.inl rfl) results137 rfl ?_))))))))
                   refine ⟨?_, H⟩; congr 1; rw [bU, if_neg (by omega), if_pos (by omega)]
                 ·(try simp only [aI] at h30)
                  try (exfalso; first | contradiction | omega)
                  all_goals
                   refine aS (aP (aj (ay (ah (aO rfl (dn rfl func200 (mO) ?_))))))
                   rintro _ _ ⟨rfl, rfl⟩
                   refine fV rfl (fun h31 => ?_) (fun h31 => ?_)
                   ·(try simp only [aI] at h31)
                    try (exfalso; first | contradiction | omega)
                    all_goals
                     refine bf (aO rfl (bf (dn rfl func201 (iJ H hT) ?_)))
                     rintro _ w12 ⟨rfl, vM⟩
                     refine bf (aW (dB rfl rfl) (fG rfl rfl (aV rfl (aA (aj (aJ (aH (.inl rfl) results137 rfl ?_)))))))
                     refine ⟨?_, vM⟩; congr 1; rw [bU, if_neg (by omega), if_neg (by omega)]; simp [*]
                   ·(try simp only [aI] at h31)
                    try (exfalso; first | contradiction | omega)
                    all_goals
                     refine bC (bC (bC (eY rfl rfl (aV rfl (aA (aj (aJ (aH (.inl rfl) results137 rfl ?_))))))))
                     refine ⟨?_, H⟩; congr 1; rw [bU, if_neg (by omega), if_neg (by omega)]; simp [*]
               ·(try simp only [aI] at h29)
                try (exfalso; first | contradiction | omega)
                all_goals
                 refine bC (bC (eY rfl rfl (aV rfl (aA (aj (nV (aS (aP (aj (ay (ah (aO rfl (dn rfl func200 (mO) ?_)))))))))))))
                 rintro _ _ ⟨rfl, rfl⟩
                 refine fV rfl (fun h32 => ?_) (fun h32 => ?_)
                 ·(try simp only [aI] at h32)
                  try (exfalso; first | contradiction | omega)
                  all_goals
                   refine bf (aO rfl (bf (dn rfl func201 (iJ H hT) ?_)))
                   rintro _ Ky ⟨rfl, wM⟩
                   refine bf (aW (dB rfl rfl) (fG rfl rfl (aV rfl (aA (aj (aJ (aH (.inl rfl) results137 rfl ?_)))))))
                   refine ⟨?_, wM⟩; congr 1; rw [bU, if_neg (by omega), if_neg (by omega)]; simp [*]
                 ·(try simp only [aI] at h32)
                  try (exfalso; first | contradiction | omega)
                  all_goals
                   refine bC (bC (bC (eY rfl rfl (aV rfl (aA (aj (aJ (aH (.inl rfl) results137 rfl ?_))))))))
                   refine ⟨?_, H⟩; congr 1; rw [bU, if_neg (by omega), if_neg (by omega)]; simp [*]
         ·(try simp only [aI] at h17)
          try (exfalso; first | contradiction | omega)
          all_goals
           refine bC (bC (eY rfl rfl (aV rfl (aA (aj (nV (ay (ah (aO rfl (aW (jm rfl rfl) (fV rfl (fun h33 => ?_) (fun h33 => ?_))))))))))))
           ·(try simp only [aI] at h33)
            try (exfalso; first | contradiction | omega)
            all_goals
             refine bf (aO rfl (bf (aW (kL rfl rfl) (fG rfl rfl (aV rfl (aA (aj (aQ rfl (fun h34 => ?_) (fun h34 => ?_)))))))))
             ·(try simp only [aI] at h34)
              try (exfalso; first | contradiction | omega)
              all_goals
               refine aS (aj (aQ rfl (fun h35 => ?_) (fun h35 => ?_)))
               ·(try simp only [aI] at h35)
                try (exfalso; first | contradiction | omega)
                all_goals
                 refine ay (ah (aV rfl (aA (aj (aJ (aU (aK (aH (.inl rfl) results137 rfl ?_))))))))
                 refine ⟨?_, H⟩; congr 1; rw [bU, if_neg (by omega), if_pos (by omega)]
               ·(try simp only [aI] at h35)
                try (exfalso; first | contradiction | omega)
                all_goals
                 refine aS (aP (aj (ay (ah (aO rfl (dn rfl func200 (mO) ?_))))))
                 rintro _ _ ⟨rfl, rfl⟩
                 refine fV rfl (fun h36 => ?_) (fun h36 => ?_)
                 ·(try simp only [aI] at h36)
                  try (exfalso; first | contradiction | omega)
                  all_goals
                   refine bf (aO rfl (bf (dn rfl func201 (iJ H hT) ?_)))
                   rintro _ w16 ⟨rfl, rP⟩
                   refine bf (aW (dB rfl rfl) (fG rfl rfl (aV rfl (aA (aj (aJ (aH (.inl rfl) results137 rfl ?_)))))))
                   refine ⟨?_, rP⟩; congr 1; rw [bU, if_neg (by omega), if_neg (by omega)]; simp [*]
                 ·(try simp only [aI] at h36)
                  try (exfalso; first | contradiction | omega)
                  all_goals
                   refine bC (bC (bC (eY rfl rfl (aV rfl (aA (aj (aJ (aH (.inl rfl) results137 rfl ?_))))))))
                   refine ⟨?_, H⟩; congr 1; rw [bU, if_neg (by omega), if_neg (by omega)]; simp [*]
             ·(try simp only [aI] at h34)
              try (exfalso; first | contradiction | omega)
              all_goals
               refine ah (aO rfl (aW (jm rfl rfl) (fV rfl (fun h37 => ?_) (fun h37 => ?_))))
               ·(try simp only [aI] at h37)
                try (exfalso; first | contradiction | omega)
                all_goals
                 refine bf (aO rfl (bf (aW (kL rfl rfl) (fG rfl rfl (aV rfl (aA (aj (aQ rfl (fun h38 => ?_) (fun h38 => ?_)))))))))
                 ·(try simp only [aI] at h38)
                  try (exfalso; first | contradiction | omega)
                  all_goals
                   refine ay (ah (aV rfl (aA (aj (aJ (aU (aK (aH (.inl rfl) results137 rfl ?_))))))))
                   refine ⟨?_, H⟩; congr 1; rw [bU, if_neg (by omega), if_pos (by omega)]
                 ·(try simp only [aI] at h38)
                  try (exfalso; first | contradiction | omega)
                  all_goals
                   refine aS (aP (aj (ay (ah (aO rfl (dn rfl func200 (mO) ?_))))))
                   rintro _ _ ⟨rfl, rfl⟩
                   refine fV rfl (fun h39 => ?_) (fun h39 => ?_)
                   ·(try simp only [aI] at h39)
                    try (exfalso; first | contradiction | omega)
                    all_goals
                     refine bf (aO rfl (bf (dn rfl func201 (iJ H hT) ?_)))
                     rintro _ Qc ⟨rfl, C9⟩
                     refine bf (aW (dB rfl rfl) (fG rfl rfl (aV rfl (aA (aj (aJ (aH (.inl rfl) results137 rfl ?_)))))))
                     refine ⟨?_, C9⟩; congr 1; rw [bU, if_neg (by omega), if_neg (by omega)]; simp [*]
                   ·(try simp only [aI] at h39)
                    try (exfalso; first | contradiction | omega)
                    all_goals
                     refine bC (bC (bC (eY rfl rfl (aV rfl (aA (aj (aJ (aH (.inl rfl) results137 rfl ?_))))))))
                     refine ⟨?_, H⟩; congr 1; rw [bU, if_neg (by omega), if_neg (by omega)]; simp [*]
               ·(try simp only [aI] at h37)
                try (exfalso; first | contradiction | omega)
                all_goals
                 refine bC (bC (eY rfl rfl (aV rfl (aA (aj (nV (aS (aP (aj (ay (ah (aO rfl (dn rfl func200 (mO) ?_)))))))))))))
                 rintro _ _ ⟨rfl, rfl⟩
                 refine fV rfl (fun h40 => ?_) (fun h40 => ?_)
                 ·(try simp only [aI] at h40)
                  try (exfalso; first | contradiction | omega)
                  all_goals
                   refine bf (aO rfl (bf (dn rfl func201 (iJ H hT) ?_)))
                   rintro _ Qd ⟨rfl, wz⟩
                   refine bf (aW (dB rfl rfl) (fG rfl rfl (aV rfl (aA (aj (aJ (aH (.inl rfl) results137 rfl ?_)))))))
                   refine ⟨?_, wz⟩; congr 1; rw [bU, if_neg (by omega), if_neg (by omega)]; simp [*]
                 ·(try simp only [aI] at h40)
                  try (exfalso; first | contradiction | omega)
                  all_goals
                   refine bC (bC (bC (eY rfl rfl (aV rfl (aA (aj (aJ (aH (.inl rfl) results137 rfl ?_))))))))
                   refine ⟨?_, H⟩; congr 1; rw [bU, if_neg (by omega), if_neg (by omega)]; simp [*]
           ·(try simp only [aI] at h33)
            try (exfalso; first | contradiction | omega)
            all_goals
             refine bC (bC (eY rfl rfl (aV rfl (aA (aj (nV (ah (aO rfl (aW (jm rfl rfl) (fV rfl (fun h41 => ?_) (fun h41 => ?_)))))))))))
             ·(try simp only [aI] at h41)
              try (exfalso; first | contradiction | omega)
              all_goals
               refine bf (aO rfl (bf (aW (kL rfl rfl) (fG rfl rfl (aV rfl (aA (aj (aQ rfl (fun h42 => ?_) (fun h42 => ?_)))))))))
               ·(try simp only [aI] at h42)
                try (exfalso; first | contradiction | omega)
                all_goals
                 refine ay (ah (aV rfl (aA (aj (aJ (aU (aK (aH (.inl rfl) results137 rfl ?_))))))))
                 refine ⟨?_, H⟩; congr 1; rw [bU, if_neg (by omega), if_pos (by omega)]
               ·(try simp only [aI] at h42)
                try (exfalso; first | contradiction | omega)
                all_goals
                 refine aS (aP (aj (ay (ah (aO rfl (dn rfl func200 (mO) ?_))))))
                 rintro _ _ ⟨rfl, rfl⟩
                 refine fV rfl (fun h43 => ?_) (fun h43 => ?_)
                 ·(try simp only [aI] at h43)
                  try (exfalso; first | contradiction | omega)
                  all_goals
                   refine bf (aO rfl (bf (dn rfl func201 (iJ H hT) ?_)))
                   rintro _ VG ⟨rfl, Fh⟩
                   refine bf (aW (dB rfl rfl) (fG rfl rfl (aV rfl (aA (aj (aJ (aH (.inl rfl) results137 rfl ?_)))))))
                   refine ⟨?_, Fh⟩; congr 1; rw [bU, if_neg (by omega), if_neg (by omega)]; simp [*]
                 ·(try simp only [aI] at h43)
                  try (exfalso; first | contradiction | omega)
                  all_goals
                   refine bC (bC (bC (eY rfl rfl (aV rfl (aA (aj (aJ (aH (.inl rfl) results137 rfl ?_))))))))
                   refine ⟨?_, H⟩; congr 1; rw [bU, if_neg (by omega), if_neg (by omega)]; simp [*]
             ·(try simp only [aI] at h41)
              try (exfalso; first | contradiction | omega)
              all_goals
               refine bC (bC (eY rfl rfl (aV rfl (aA (aj (nV (aS (aP (aj (ay (ah (aO rfl (dn rfl func200 (mO) ?_)))))))))))))
               rintro _ _ ⟨rfl, rfl⟩
               refine fV rfl (fun h44 => ?_) (fun h44 => ?_)
               ·(try simp only [aI] at h44)
                try (exfalso; first | contradiction | omega)
                all_goals
                 refine bf (aO rfl (bf (dn rfl func201 (iJ H hT) ?_)))
                 rintro _ VH ⟨rfl, Kz⟩
                 refine bf (aW (dB rfl rfl) (fG rfl rfl (aV rfl (aA (aj (aJ (aH (.inl rfl) results137 rfl ?_)))))))
                 refine ⟨?_, Kz⟩; congr 1; rw [bU, if_neg (by omega), if_neg (by omega)]; simp [*]
               ·(try simp only [aI] at h44)
                try (exfalso; first | contradiction | omega)
                all_goals
                 refine bC (bC (bC (eY rfl rfl (aV rfl (aA (aj (aJ (aH (.inl rfl) results137 rfl ?_))))))))
                 refine ⟨?_, H⟩; congr 1; rw [bU, if_neg (by omega), if_neg (by omega)]; simp [*]
end
end Go.Proofs.YtgndbccogcofjaaGreatDoor
end
section
set_option maxRecDepth 100000
namespace Go.Proofs.YtgndbccogcofjaaGreatDoor
open Go.ChangeShapes Go.WideShapes Go.ChangeAt Go.RowKit
def Jp (x : Int × Int) : DataW Unit := .agg [.lit (.int .i32 x.1), .lit (.int .i32 x.2)]
section
variable {enc : TypeId × Value → Unit} {w : World} {base : Nat} {spare : Nat → Bool} {held : Bool} {fuel : Nat} {ps : List MemPlace}
theorem OJ {cs : List Value} {x : Int × Int} (h : DataW.trod enc Tryz.prog w base spare held fuel 217 cs = some (Jp x, ps)) : cs = [.int .i32 x.1, .int .i32 x.2] := by
  obtain ⟨xs, n, -, hx, hl, hl2, hf⟩ := DataW.trod_struct Tryz.underlying217 h
  rw [show Tryz.prog.cellsOf 217 = 2 from by kernel_rfl] at hl
  simp only [Prod.mk.injEq, Jp, DataW.agg.injEq] at hx
  match xs, hl2, hx, cs, hl with
  | [y0, y1], _, hx, [c0, c1], _ =>
    have h0 : DataW.trod enc Tryz.prog w base spare held n 21 (([c0, c1].drop 0).take (Tryz.prog.cellsOf 21)) = some y0 := hf 0 _ rfl
    have h1 : DataW.trod enc Tryz.prog w base spare held n 21 (([c0, c1].drop 1).take (Tryz.prog.cellsOf 21)) = some y1 := hf 1 _ rfl
    simp only [List.map_cons, List.map_nil, List.cons.injEq] at hx
    obtain ⟨n0, e0, d0, -⟩ := DataW.trod_int Tryz.underlying21 h0
    obtain ⟨n1, e1, d1, -⟩ := DataW.trod_int Tryz.underlying21 h1
    rw [show Tryz.prog.cellsOf 21 = 1 from by kernel_rfl] at e0 e1
    simp at e0 e1
    rw [d0, d1] at hx
    simp at hx
    subst e0; subst e1
    rw [hx.1.1, hx.1.2]
theorem LW {t n : Nat} {cs : List Value} {T : List (Int × Int)} (ht : Tryz.prog.underlying t = some (.array n 217)) (hc : Tryz.prog.cellsOf t = n * 2) (h : DataW.trod enc Tryz.prog w base spare held fuel t cs = some (.agg (T.map Jp), ps)) : cs = lg T := by
  obtain ⟨xs, m, -, hx, hl, hl2, hel⟩ := DataW.trod_array ht h
  simp only [Prod.mk.injEq, DataW.agg.injEq] at hx
  rw [hc] at hl
  have Zy : T.length = n := by have := congrArg List.length hx.1; simpa [hl2] using this
  have hv := DY T
  apply List.ext_getElem?
  intro j
  by_cases hj : j < n * 2
  · have hk : j / 2 < n := by omega
    have h1 := hel (j / 2) hk
    rw [show Tryz.prog.cellsOf 217 = 2 from by kernel_rfl, List.getElem?_eq_getElem (by omega)] at h1
    have h2 : xs[j / 2].1 = Jp (T.getD (j / 2) (0, 0)) := by
      have := congrArg (fun l => l[j / 2]?) hx.1
      simp [List.getElem?_eq_getElem (show j / 2 < T.length by omega), List.getElem?_eq_getElem (show j / 2 < xs.length by omega)] at this
      rw [List.getD_eq_getElem?_getD, List.getElem?_eq_getElem (show j / 2 < T.length by omega), Option.getD_some, this]
    have h3 := OJ (x := T.getD (j / 2) (0, 0)) (ps := xs[j / 2].2) (by rw [h1, ← h2])
    obtain ⟨e0, e1⟩ := zU T (j / 2) (by omega)
    have hq : (lg T)[j]? = some ((lg T).getD j undef) := by rw [List.getD_eq_getElem?_getD, List.getElem?_eq_getElem (by omega)]; rfl
    rw [hq]
    rcases (show j = j / 2 * 2 ∨ j = j / 2 * 2 + 1 by omega) with hj2 | hj2
    · have := congrArg (fun l => l[0]?) h3
      simp [List.getElem?_drop] at this
      rw [show j / 2 * 2 = j from by omega] at this e0
      rw [this, e0]; simp [List.getD_eq_getElem?_getD]
    · have := congrArg (fun l => l[1]?) h3
      simp [List.getElem?_take, List.getElem?_drop] at this
      rw [show j / 2 * 2 + 1 = j from by omega] at this e1
      rw [this, e1]; simp [List.getD_eq_getElem?_getD]
  · rw [List.getElem?_eq_none (by omega), List.getElem?_eq_none (by omega)]
end
end Go.Proofs.YtgndbccogcofjaaGreatDoor
end
section
namespace Go.Proofs.YtgndbccogcofjaaGreatDoor
def Fj (x : Int) : Nat := if x < 128 then 1 else if 194 ≤ x ∧ x ≤ 223 then 2 else if 224 ≤ x ∧ x ≤ 239 then 3 else if 240 ≤ x ∧ x ≤ 244 then 4 else 0
def V6 (x : Int) : Int := if x = 224 then 160 else if x = 240 then 144 else 128
def TT (x : Int) : Int := if x = 237 then 159 else if x = 244 then 143 else 191
def V7 (b : List Int) (j : Nat) : Bool := j == 0 || (decide (128 ≤ b.getD j 0 ∧ b.getD j 0 ≤ 191) && (j != 1 || decide (V6 (b.getD 0 0) ≤ b.getD 1 0 ∧ b.getD 1 0 ≤ TT (b.getD 0 0))))
def Qe (b : List Int) : Nat → Bool
  | 0 => true
  | k + 1 => Qe b k && V7 b k
def yJ (b : List Int) : Nat × Nat := if b = [] then (0, 0) else if Fj (b.getD 0 0) = 0 then (0, 0) else if Qe b (min (Fj (b.getD 0 0)) b.length) then (min (Fj (b.getD 0 0)) b.length, Fj (b.getD 0 0)) else (0, Fj (b.getD 0 0))
def V8 (b : List Int) (n : Nat) : Int :=
  if n = 1 then b.getD 0 0 else if n = 2 then b.getD 0 0 % 32 * 64 + b.getD 1 0 % 64 else if n = 3 then b.getD 0 0 % 16 * 4096 + b.getD 1 0 % 64 * 64 + b.getD 2 0 % 64
  else b.getD 0 0 % 8 * 262144 + b.getD 1 0 % 64 * 4096 + b.getD 2 0 % 64 * 64 + b.getD 3 0 % 64
def QX (b : List Int) : Bool := decide ((yJ b).1 = (yJ b).2 ∧ 0 < (yJ b).2)
def LX (b : List Int) : Int × Nat := if QX b then (V8 b (yJ b).2, (yJ b).2) else (65533, 1)
def TU (b : List Int) : Bool := decide (0 < (yJ b).1 ∧ (yJ b).1 < (yJ b).2)
def LY : Nat → List Int → List Int
  | 0, _ => []
  | f + 1, b => if b = [] then [] else (LX b).1 :: LY f (b.drop (LX b).2)
def V9 (b : List Int) : List Int := LY b.length b
def QY : Nat → List Int → List Int × List Int
  | 0, b => ([], b)
  | f + 1, b => if b = [] ∨ TU b = true then ([], b) else ((LX b).1 :: (QY f (b.drop (LX b).2)).1, (QY f (b.drop (LX b).2)).2)
def Zz (b : List Int) : List Int × List Int := QY b.length b
def Wh (l : List Int) : List Int := l.flatMap Lib.encodeRuneZ
def ZA (b : List Int) : Prop := ∀ x ∈ b, 0 ≤ x ∧ x < 256
end Go.Proofs.YtgndbccogcofjaaGreatDoor
end
section
namespace Go.Proofs.YtgndbccogcofjaaGreatDoor
open Go.RowKit
section
variable {P : Program} {L : List (Nat × Value)} {w : World} {ty t t' : TypeId} {x y : Operand} {k k2 : IntKind} {m n : Int}
end
end Go.Proofs.YtgndbccogcofjaaGreatDoor
end
section
namespace Go.Proofs.YtgndbccogcofjaaGreatDoor
open Go.RowKit
def firstM (x : Nat) : Int := ((Go.Pinned.utf8FirstZ.getD x 0 : Nat) : Int)
def QZ : List (Int × Int) := [(128, 191), (160, 191), (128, 159), (144, 191), (128, 143)]
structure TV (w : World) : Prop where
  first : ∀ x : Nat, x < 256 → w.cell? ⟨2, x, none⟩ = some (.int .u8 (firstM x))
  acc : ∀ i : Nat, i < 5 → w.cell? ⟨3, i * 2, none⟩ = some (.int .u8 (QZ.getD i (0, 0)).1) ∧ w.cell? ⟨3, i * 2 + 1, none⟩ = some (.int .u8 (QZ.getD i (0, 0)).2)
section
variable {b : List Int}
end
section
variable {w0 w : World} {F : HP} {v : Value} {b : List Int}
end
end Go.Proofs.YtgndbccogcofjaaGreatDoor
end
