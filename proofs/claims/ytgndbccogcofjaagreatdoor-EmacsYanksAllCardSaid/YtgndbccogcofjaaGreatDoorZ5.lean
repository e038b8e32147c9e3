import Derived.Test.YtgndbccogcofjaaGreatDoorZ2
import Derived.Test.YtgndbccogcofjaaGreatDoorProg
import Derived.Test.YtgndbccogcofjaaGreatDoorZ4
import Derived.Test.YtgndbccogcofjaaGreatDoorRows
import Derived.Test.YtgndbccogcofjaaGreatDoorZ3
import Derived.Lib.RuneBytes
import Derived.Laws.BitsLemmas
import GoSem.PinnedTables
set_option linter.unusedSimpArgs false
set_option linter.unusedVariables false
/- Texts of mine, joined, their names in short: Tab LaidT UtfM Bits Utf. -/
section
namespace Go.Proofs.YtgndbccogcofjaaGreatDoor
open Go.RowKit
open _root_.Go.Proofs.Tryz
def iH (r : Int) : Bool := decide (0 ≤ r ∧ r < 55296 ∨ 57343 < r ∧ r ≤ 1114111)
def gX (r : Int) : Bool := decide (0 ≤ r ∧ r < 32 ∨ 127 ≤ r ∧ r ≤ 159)
def within (r : Int) (T : List (Int × Int)) : Bool := T.any fun x => decide (x.1 ≤ r ∧ r ≤ x.2)
def KN : List (Int × Int) := [(768, 879), (1155, 1161), (1425, 1469), (1552, 1562), (1611, 1631), (3633, 3633), (3636, 3642), (3655, 3662), (6832, 6911), (7616, 7679), (8203, 8207), (8400, 8447), (12441, 12442), (65024, 65039), (65056, 65071)]
def KO : List (Int × Int) := [(4352, 4447), (11904, 12350), (12353, 13311), (13312, 19903), (19968, 40959), (40960, 42191), (44032, 55203), (63744, 64255), (65072, 65135), (65280, 65376), (65504, 65510), (127744, 128591), (129280, 129535), (131072, 262141)]
def vJ (r : Int) : Int := if !iH r || gX r || within r KN then 0 else if within r KO then 2 else 1
def bH (r : Int) : Bool :=
  if r < 192 then decide (48 ≤ r ∧ r ≤ 57 ∨ 65 ≤ r ∧ r ≤ 90 ∨ 97 ≤ r ∧ r ≤ 122)
  else if r = 215 ∨ r = 247 ∨ r = 65533 ∨ 8192 ≤ r ∧ r ≤ 8303 ∨ 12288 ≤ r ∧ r ≤ 12351 ∨ 65280 ≤ r ∧ r ≤ 65295 then false
  else iH r && decide (0 < vJ r)
theorem aB.cell {w0 w : World} {F : HP} (H : aB w0 w F) {a : Addr} {v : Value} (h : w0.cell? a = some v) : w.cell? a = some v := (H.base.cell (World.block_lt_of_cell? _ _ h)).trans h
theorem MJ {w : World} {b o : Nat} {u v : Value} (h : w.cell? ⟨b, o, none⟩ = some u) (k : w.cell? ⟨b, o + 1, none⟩ = some v) : ∀ (j : Nat) x, ([u, v] : List Value)[j]? = some x → w.cell? ⟨b, o + j, none⟩ = some x := by
  intro j x hj
  match j, hj with
  | 0, hj => cases hj; exact h
  | 1, hj => cases hj; exact k
  | j + 2, hj => simp at hj
def mg (T : List (Int × Int)) : List Value := T.flatMap fun x => [.int .i32 x.1, .int .i32 x.2]
structure tZ (w : World) : Prop where
  Vd : Rd w 2 (.slice (some ⟨0, 0, none⟩) 15 15) 15 (mg KN)
  Ve : Rd w 2 (.slice (some ⟨1, 0, none⟩) 14 14) 14 (mg KO)
section
variable {w0 w : World} {F : HP} {r : Int}
theorem MK : fO prog 231 #[.int .i32 r] w fun v w' => v = .bool (iH r) ∧ w = w' := by
 refine gB func231 ntmps231 ?_
 dsimp only [bf, Nat.reduceAdd]
 refine ay (ah (aV rfl (aA (aj (ay (bC (ay (ah (aN rfl (aX (lQ rfl rfl) (fK rfl (fun h1 => ?_) (fun h1 => ?_))))))))))))
 ·(try simp only [aH] at h1)
  try (exfalso; first | contradiction | omega)
  all_goals
   refine aZ (aN rfl (aZ (aX (eu rfl rfl) (fG rfl rfl (aV rfl (aA (aj (aO rfl (fun h2 => ?_) (fun h2 => ?_)))))))))
   ·(try simp only [aH] at h2)
    try (exfalso; first | contradiction | omega)
    all_goals
     refine ay (ah (aV rfl (aA (aj (aJ (aW (aK (aI (.inl rfl) results231 rfl ?_))))))))
     refine ⟨?_, rfl⟩; congr 1; first | (symm; rw [iH, decide_eq_true_eq]; omega) | (symm; rw [iH, decide_eq_false_iff_not]; omega) | (rw [iH, decide_eq_decide]; omega)
   ·(try simp only [aH] at h2)
    try (exfalso; first | contradiction | omega)
    all_goals
     refine ay (ah (aN rfl (aX (eu rfl rfl) (fK rfl (fun h3 => ?_) (fun h3 => ?_)))))
     ·(try simp only [aH] at h3)
      try (exfalso; first | contradiction | omega)
      all_goals
       refine aZ (aN rfl (aZ (aX (lQ rfl rfl) (fG rfl rfl (aV rfl (aA (aj (aO rfl (fun h4 => ?_) (fun h4 => ?_)))))))))
       ·(try simp only [aH] at h4)
        try (exfalso; first | contradiction | omega)
        all_goals
         refine ay (ah (aV rfl (aA (aj (aJ (aW (aK (aI (.inl rfl) results231 rfl ?_))))))))
         refine ⟨?_, rfl⟩; congr 1; first | (symm; rw [iH, decide_eq_true_eq]; omega) | (symm; rw [iH, decide_eq_false_iff_not]; omega) | (rw [iH, decide_eq_decide]; omega)
       ·(try simp only [aH] at h4)
        try (exfalso; first | contradiction | omega)
        all_goals
         refine aP (aQ (aj (ay (ah (aV rfl (aA (aj (aJ (aI (.inl rfl) results231 rfl ?_)))))))))
         refine ⟨?_, rfl⟩; congr 1; first | (symm; rw [iH, decide_eq_true_eq]; omega) | (symm; rw [iH, decide_eq_false_iff_not]; omega) | (rw [iH, decide_eq_decide]; omega)
     ·(try simp only [aH] at h3)
      try (exfalso; first | contradiction | omega)
      all_goals
       refine bD (bD (eG rfl rfl (aV rfl (aA (aj (nN (aP (aQ (aj (ay (ah (aV rfl (aA (aj (aJ (aI (.inl rfl) results231 rfl ?_))))))))))))))))
       refine ⟨?_, rfl⟩; congr 1; first | (symm; rw [iH, decide_eq_true_eq]; omega) | (symm; rw [iH, decide_eq_false_iff_not]; omega) | (rw [iH, decide_eq_decide]; omega)
 ·(try simp only [aH] at h1)
  try (exfalso; first | contradiction | omega)
  all_goals
   refine bD (bD (eG rfl rfl (aV rfl (aA (aj (nN (ay (ah (aN rfl (aX (eu rfl rfl) (fK rfl (fun h5 => ?_) (fun h5 => ?_))))))))))))
   ·(try simp only [aH] at h5)
    try (exfalso; first | contradiction | omega)
    all_goals
     refine aZ (aN rfl (aZ (aX (lQ rfl rfl) (fG rfl rfl (aV rfl (aA (aj (aO rfl (fun h6 => ?_) (fun h6 => ?_)))))))))
     ·(try simp only [aH] at h6)
      try (exfalso; first | contradiction | omega)
      all_goals
       refine ay (ah (aV rfl (aA (aj (aJ (aW (aK (aI (.inl rfl) results231 rfl ?_))))))))
       refine ⟨?_, rfl⟩; congr 1; first | (symm; rw [iH, decide_eq_true_eq]; omega) | (symm; rw [iH, decide_eq_false_iff_not]; omega) | (rw [iH, decide_eq_decide]; omega)
     ·(try simp only [aH] at h6)
      try (exfalso; first | contradiction | omega)
      all_goals
       refine aP (aQ (aj (ay (ah (aV rfl (aA (aj (aJ (aI (.inl rfl) results231 rfl ?_)))))))))
       refine ⟨?_, rfl⟩; congr 1; first | (symm; rw [iH, decide_eq_true_eq]; omega) | (symm; rw [iH, decide_eq_false_iff_not]; omega) | (rw [iH, decide_eq_decide]; omega)
   ·(try simp only [aH] at h5)
    try (exfalso; first | contradiction | omega)
    all_goals
     refine bD (bD (eG rfl rfl (aV rfl (aA (aj (nN (aP (aQ (aj (ay (ah (aV rfl (aA (aj (aJ (aI (.inl rfl) results231 rfl ?_))))))))))))))))
     refine ⟨?_, rfl⟩; congr 1; first | (symm; rw [iH, decide_eq_true_eq]; omega) | (symm; rw [iH, decide_eq_false_iff_not]; omega) | (rw [iH, decide_eq_decide]; omega)
theorem nX : fO prog 200 #[.int .i32 r] w fun v w' => v = .bool (iH r) ∧ w = w' := by
 refine gB func200 ntmps200 ?_
 dsimp only [bf, Nat.reduceAdd]
 refine ay (ah (aV rfl (aA (aj (ay (ah (aN rfl (bZ rfl func231 (MK) ?_))))))))
 rintro _ _ ⟨rfl, rfl⟩
 refine aV rfl (aA (aj (aJ (aI (.inl rfl) results200 rfl ?_))))
 exact ⟨rfl, rfl⟩
theorem Hl : fO prog 228 #[.int .i32 r] w fun v w' => v = .bool (gX r) ∧ w = w' := by
 refine gB func228 ntmps228 ?_
 dsimp only [bf, Nat.reduceAdd]
 refine ay (ah (aV rfl (aA (aj (ay (ah (aN rfl (aX (jS rfl rfl) (fK rfl (fun h1 => ?_) (fun h1 => ?_))))))))))
 ·(try simp only [aH] at h1)
  try (exfalso; first | contradiction | omega)
  all_goals
   refine aZ (aN rfl (aZ (aX (eu rfl rfl) (fG rfl rfl (fK rfl (fun h2 => ?_) (fun h2 => ?_))))))
   ·(try simp only [aH] at h2)
    try (exfalso; first | contradiction | omega)
    all_goals
     refine bD (bD (bD (jq (jq (bD (fG rfl rfl (aV rfl (aA (aj (aJ (aI (.inl rfl) results228 rfl ?_)))))))))))
     refine ⟨?_, rfl⟩; congr 1; first | (symm; rw [gX, decide_eq_true_eq]; omega) | (symm; rw [gX, decide_eq_false_iff_not]; omega) | (rw [gX, decide_eq_decide]; omega)
   ·(try simp only [aH] at h2)
    try (exfalso; first | contradiction | omega)
    all_goals
     refine aZ (aN rfl (aZ (aX (jS rfl rfl) (aZ (fK rfl (fun h3 => ?_) (fun h3 => ?_))))))
     ·(try simp only [aH] at h3)
      try (exfalso; first | contradiction | omega)
      all_goals
       refine aZ (aN rfl (aZ (aX (lQ rfl rfl) (aZ (fG rfl rfl (eG rfl rfl (aV rfl (aA (aj (aJ (aI (.inl rfl) results228 rfl ?_)))))))))))
       refine ⟨?_, rfl⟩; congr 1; first | (symm; rw [gX, decide_eq_true_eq]; omega) | (symm; rw [gX, decide_eq_false_iff_not]; omega) | (rw [gX, decide_eq_decide]; omega)
     ·(try simp only [aH] at h3)
      try (exfalso; first | contradiction | omega)
      all_goals
       refine bD (bD (aZ (eG rfl rfl (eG rfl rfl (aV rfl (aA (aj (aJ (aI (.inl rfl) results228 rfl ?_)))))))))
       refine ⟨?_, rfl⟩; congr 1; first | (symm; rw [gX, decide_eq_true_eq]; omega) | (symm; rw [gX, decide_eq_false_iff_not]; omega) | (rw [gX, decide_eq_decide]; omega)
 ·(try simp only [aH] at h1)
  try (exfalso; first | contradiction | omega)
  all_goals
   refine bD (bD (eG rfl rfl (aN rfl (aZ (aN rfl (aZ (aX (jS rfl rfl) (aZ (fK rfl (fun h4 => ?_) (fun h4 => ?_))))))))))
   ·(try simp only [aH] at h4)
    try (exfalso; first | contradiction | omega)
    all_goals
     refine aZ (aN rfl (aZ (aX (lQ rfl rfl) (aZ (fG rfl rfl (eG rfl rfl (aV rfl (aA (aj (aJ (aI (.inl rfl) results228 rfl ?_)))))))))))
     refine ⟨?_, rfl⟩; congr 1; first | (symm; rw [gX, decide_eq_true_eq]; omega) | (symm; rw [gX, decide_eq_false_iff_not]; omega) | (rw [gX, decide_eq_decide]; omega)
   ·(try simp only [aH] at h4)
    try (exfalso; first | contradiction | omega)
    all_goals
     refine bD (bD (aZ (eG rfl rfl (eG rfl rfl (aV rfl (aA (aj (aJ (aI (.inl rfl) results228 rfl ?_)))))))))
     refine ⟨?_, rfl⟩; congr 1; first | (symm; rw [gX, decide_eq_true_eq]; omega) | (symm; rw [gX, decide_eq_false_iff_not]; omega) | (rw [gX, decide_eq_decide]; omega)
theorem FI (T : List (Int × Int)) : (mg T).length = T.length * 2 := by
  induction T with
  | nil => rfl
  | cons x r ih => simp only [mg, List.flatMap_cons, List.length_append] at *; simp [ih]; omega
theorem BO (T : List (Int × Int)) (k : Nat) (h : k < T.length) : (mg T).getD (k * 2) undef = .int .i32 (T.getD k (0, 0)).1 ∧ (mg T).getD (k * 2 + 1) undef = .int .i32 (T.getD k (0, 0)).2 := by
  induction T generalizing k with
  | nil => simp at h
  | cons x r ih =>
    cases k with
    | zero => exact ⟨rfl, rfl⟩
    | succ k =>
      have := ih k (by simpa using h)
      rw [show (k + 1) * 2 = k * 2 + 2 from by omega, show k * 2 + 2 + 1 = (k * 2 + 1) + 2 from by omega]
      simpa [mg, List.getD_eq_getElem?_getD] using this
theorem zX {r : Int} {T : List (Int × Int)} {k : Nat} (h : k < T.length) : within r (T.take (k + 1)) = (within r (T.take k) || decide ((T.getD k (0, 0)).1 ≤ r ∧ r ≤ (T.getD k (0, 0)).2)) := by
  unfold within
  rw [List.take_succ_eq_append_getElem h, List.any_append]
  simp [List.getD_eq_getElem?_getD, h]
theorem Ju {r : Int} {T : List (Int × Int)} {k : Nat} (h : k < T.length) (hk : (T.getD k (0, 0)).1 ≤ r ∧ r ≤ (T.getD k (0, 0)).2) : within r T = true := by
  unfold within
  rw [List.any_eq_true]
  refine ⟨T.getD k (0, 0), ?_, by simpa using hk⟩
  rw [List.getD_eq_getElem?_getD, List.getElem?_eq_getElem h]
  exact List.getElem_mem h
theorem BP {v : Value} {T : List (Int × Int)} (H : aB w0 w F) (hr : Rd w0 2 v T.length (mg T)) (hT : T.length < 1000000) :
  fO prog 232 #[.int .i32 r, v] w fun v w' => v = .bool (within r T) ∧ aB w0 w' F := by
 obtain ⟨hlen, a, c, rfl, hc1, hc2, hcell⟩ := hr
 refine gB func232 ntmps232 ?_
 dsimp only [bf, Nat.reduceAdd]
 refine ay (ah (aV rfl (aA (aj (ay (ay (ah (aN rfl (aX (fJ underlying215 rfl) (aN rfl (aA (aj (bC ?_)))))))))))))
 refine iw [(0, _), (7, _), (8, _)] (fun (k : Nat) => [(9, .int .i64 (k : Int))]) (fun (k : Nat) W => k ≤ T.length ∧ within r (T.take k) = false ∧ aB w0 W F) (fun (k : Nat) => T.length - k) (0) (Sub.cons rfl (Sub.cons rfl (Sub.cons rfl (Sub.nil _)))) (Sub.cons rfl (Sub.nil _)) ⟨by omega, rfl, H⟩ ?_
 rintro k w1 ⟨hk, hno, HL⟩
 dsimp only [List.cons_append, List.nil_append]
 refine ay (ah (aX (eu rfl rfl) (aA (aj (ay (aO rfl (fun h1 => ?_) (fun h1 => ?_)))))))
 ·(try simp only [aH] at h1)
  try (exfalso; first | contradiction | omega)
  all_goals
   refine aP (aj (ay (bC (ay ?_))))
   have hk1 : k < T.length := by omega
   obtain ⟨b0, o, rfl, hq⟩ := hcell (by omega)
   have hq0 := hq (k * 2) (by omega)
   have hq1 := hq (k * 2 + 1) (by omega)
   rw [(BO T k hk1).1] at hq0
   rw [(BO T k hk1).2] at hq1
   rw [← Nat.add_assoc] at hq1
   refine ah (aX (iV underlying215 sizeOf217 rfl rfl (by omega)) ?_)
   refine aX (tX (cs := [.int .i32 (T.getD k (0, 0)).1, .int .i32 (T.getD k (0, 0)).2]) (by rw [underlying217]; rfl) (GZ underlying217 rfl) sizeOf217 rfl rfl (MJ (by rw [show ((k : Int).toNat * 2) = k * 2 from by omega]; exact HL.cell hq0) (by rw [show ((k : Int).toNat * 2) = k * 2 from by omega]; exact HL.cell hq1))) ?_
   refine jh (qP HL zeroValue217) ?_
   rintro _ w2 ⟨b2, rfl, H2⟩
   refine aG (dh (cs := #[.int .i32 (T.getD k (0, 0)).1, .int .i32 (T.getD k (0, 0)).2]) H2 sizeOf217 rfl rfl rfl rfl (by simp [Value.oneCell'])) ?_
   rintro _ w3 H3
   have HN := H3.right
   refine aA (aj (ay (ah (aN rfl (bF 0 underlying217 rfl sizeOf21 rfl (dV underlying21 rfl H3.get.2 rfl (aX (jS rfl rfl) (fK rfl (fun h2 => ?_) (fun h2 => ?_)))))))))
   ·(try simp only [aH] at h2)
    try (exfalso; first | contradiction | omega)
    all_goals
     refine aZ (aN rfl (aZ (bF 1 underlying217 rfl sizeOf21 rfl (aZ (dV underlying21 rfl H3.get.2 rfl (aZ (aX (lQ rfl rfl) (fG rfl rfl (aA (aj (aO rfl (fun h3 => ?_) (fun h3 => ?_))))))))))))
     ·(try simp only [aH] at h3)
      try (exfalso; first | contradiction | omega)
      all_goals
       refine ay (ah (aV rfl (aA (aj (aJ (aW (aK (aK (aW (aK (aI (.inl rfl) results232 rfl ?_)))))))))))
       exact ⟨by rw [Ju hk1 (by omega)], HN⟩
     ·(try simp only [aH] at h3)
      try (exfalso; first | contradiction | omega)
      all_goals
       refine aP (aQ (aj (ah (aX (gy rfl rfl (by omega)) (aN rfl (aA ?_))))))
       refine fE (k + 1) ?_ ?_ ?_ ?_
       ·exact (Sub.cons rfl (Sub.nil _))
       ·exact (Sub.cons rfl (Sub.cons rfl (Sub.cons rfl (Sub.nil _))))
       ·(try dsimp only)
        first | done | exact ⟨by omega, by rw [zX hk1, hno, Bool.false_or, decide_eq_false_iff_not]; omega, HN⟩
       ·(try dsimp only); omega
   ·(try simp only [aH] at h2)
    try (exfalso; first | contradiction | omega)
    all_goals
     refine bD (bD (bD (bD (eG rfl rfl (aA (aj (nN (aP (aQ (aj (ah (aX (gy rfl rfl (by omega)) (aN rfl (aA ?_))))))))))))))
     refine fE (k + 1) ?_ ?_ ?_ ?_
     ·exact (Sub.cons rfl (Sub.nil _))
     ·exact (Sub.cons rfl (Sub.cons rfl (Sub.cons rfl (Sub.nil _))))
     ·(try dsimp only)
      first | done | exact ⟨by omega, by rw [zX hk1, hno, Bool.false_or, decide_eq_false_iff_not]; omega, HN⟩
     ·(try dsimp only); omega
 ·(try simp only [aH] at h1)
  try (exfalso; first | contradiction | omega)
  all_goals
   refine eX (aY (aY (bU (aj (ay (ah (aV rfl (aA (aj (aJ (aI (.inl rfl) results232 rfl ?_)))))))))))
   exact ⟨by rw [← hno, List.take_of_length_le (by omega)], HL⟩
theorem jd (H : aB w0 w F) (hT : tZ w0) : fO prog 201 #[.int .i32 r] w fun v w' => v = .int .i64 (vJ r) ∧ aB w0 w' F := by
 refine gB func201 ntmps201 ?_
 dsimp only [bf, Nat.reduceAdd]
 refine ay (ah (aV rfl (aA (aj (ay (bC (ay (ah (aN rfl (bZ rfl func200 (nX) ?_))))))))))
 rintro _ _ ⟨rfl, rfl⟩
 refine aX (kF rfl) (fK rfl (fun h1 => ?_) (fun h1 => ?_))
 ·(try simp only [aH] at h1)
  try (exfalso; first | contradiction | omega)
  all_goals
   refine bD (bD (fG rfl rfl (aN rfl (bD (bD (bD (fG rfl rfl (aV rfl (aA (aj (uX (ay (ah (aV rfl (aA (aj (aJ (aW (aK (aI (.inl rfl) results201 rfl ?_))))))))))))))))))))
   exact ⟨by unfold vJ; simp [*], H⟩
 ·(try simp only [aH] at h1)
  try (exfalso; first | contradiction | omega)
  all_goals
   refine aZ (aN rfl (aZ (bZ rfl func228 (Hl) ?_)))
   rintro _ _ ⟨rfl, rfl⟩
   refine eG rfl rfl (fK rfl (fun h2 => ?_) (fun h2 => ?_))
   ·(try simp only [aH] at h2)
    try (exfalso; first | contradiction | omega)
    all_goals
     refine bD (bD (bD (fG rfl rfl (aV rfl (aA (aj (uX (ay (ah (aV rfl (aA (aj (aJ (aW (aK (aI (.inl rfl) results201 rfl ?_))))))))))))))))
     exact ⟨by unfold vJ; simp [*], H⟩
   ·(try simp only [aH] at h2)
    try (exfalso; first | contradiction | omega)
    all_goals
     refine aZ (aN rfl (aZ (aX (zW underlying218 sizeOf217 rfl) (aZ (bZ rfl func232 (BP (T := KN) H hT.Vd (by decide)) ?_)))))
     rintro _ w3 ⟨rfl, H3⟩
     refine eG rfl rfl (aV rfl (aA (aj (aO rfl (fun h3 => ?_) (fun h3 => ?_)))))
     ·(try simp only [aH] at h3)
      try (exfalso; first | contradiction | omega)
      all_goals
       refine ay (ah (aV rfl (aA (aj (aJ (aW (aK (aI (.inl rfl) results201 rfl ?_))))))))
       exact ⟨by unfold vJ; simp [*], H3⟩
     ·(try simp only [aH] at h3)
      try (exfalso; first | contradiction | omega)
      all_goals
       refine ay (ah (aN rfl (aX (zW underlying219 sizeOf217 rfl) (bZ rfl func232 (BP (T := KO) H3 hT.Ve (by decide)) ?_))))
       rintro _ w4 ⟨rfl, H4⟩
       refine aV rfl (aA (aj (aO rfl (fun h4 => ?_) (fun h4 => ?_))))
       ·(try simp only [aH] at h4)
        try (exfalso; first | contradiction | omega)
        all_goals
         refine ay (ah (aV rfl (aA (aj (aJ (aW (aK (aI (.inl rfl) results201 rfl ?_))))))))
         exact ⟨by unfold vJ; simp [*], H4⟩
       ·(try simp only [aH] at h4)
        try (exfalso; first | contradiction | omega)
        all_goals
         refine aP (aQ (aj (ay (ah (aV rfl (aA (aj (aJ (aI (.inl rfl) results201 rfl ?_)))))))))
         exact ⟨by unfold vJ; simp [*], H4⟩
theorem Jv (H : aB w0 w F) (hT : tZ w0) : fO prog 137 #[.int .i32 r] w fun v w' => v = .bool (bH r) ∧ aB w0 w' F := by
 refine gB func137 ntmps137 ?_
 dsimp only [bf, Nat.reduceAdd]
 refine ay (ah (aV rfl (aA (aj (ay (ay (ah (aN rfl (aX (eu rfl rfl) (aA (aj (aO rfl (fun h1 => ?_) (fun h1 => ?_)))))))))))))
 ·(try simp only [aH] at h1)
  try (exfalso; first | contradiction | omega)
  all_goals
   refine ay (ah (aN rfl (aX (jS rfl rfl) (fK rfl (fun h2 => ?_) (fun h2 => ?_)))))
   ·(try simp only [aH] at h2)
    try (exfalso; first | contradiction | omega)
    all_goals
     refine aZ (aN rfl (aZ (aX (lQ rfl rfl) (fG rfl rfl (fK rfl (fun h3 => ?_) (fun h3 => ?_))))))
     ·(try simp only [aH] at h3)
      try (exfalso; first | contradiction | omega)
      all_goals
       refine bD (bD (bD (jq (jq (bD (fG rfl rfl (aN rfl (bD (bD (bD (jq (jq (bD (fG rfl rfl (aV rfl (aA (aj (aJ (aK (aI (.inl rfl) results137 rfl ?_))))))))))))))))))))
       refine ⟨?_, H⟩; congr 1; rw [bH, if_pos (by omega)]; first | (symm; rw [decide_eq_true_eq]; omega) | (symm; rw [decide_eq_false_iff_not]; omega) | (rw [decide_eq_decide]; omega)
     ·(try simp only [aH] at h3)
      try (exfalso; first | contradiction | omega)
      all_goals
       refine aZ (aN rfl (aZ (aX (jS rfl rfl) (aZ (fK rfl (fun h4 => ?_) (fun h4 => ?_))))))
       ·(try simp only [aH] at h4)
        try (exfalso; first | contradiction | omega)
        all_goals
         refine aZ (aN rfl (aZ (aX (lQ rfl rfl) (aZ (fG rfl rfl (eG rfl rfl (fK rfl (fun h5 => ?_) (fun h5 => ?_))))))))
         ·(try simp only [aH] at h5)
          try (exfalso; first | contradiction | omega)
          all_goals
           refine bD (bD (bD (jq (jq (bD (fG rfl rfl (aV rfl (aA (aj (aJ (aK (aI (.inl rfl) results137 rfl ?_))))))))))))
           refine ⟨?_, H⟩; congr 1; rw [bH, if_pos (by omega)]; first | (symm; rw [decide_eq_true_eq]; omega) | (symm; rw [decide_eq_false_iff_not]; omega) | (rw [decide_eq_decide]; omega)
         ·(try simp only [aH] at h5)
          try (exfalso; first | contradiction | omega)
          all_goals
           refine aZ (aN rfl (aZ (aX (jS rfl rfl) (aZ (fK rfl (fun h6 => ?_) (fun h6 => ?_))))))
           ·(try simp only [aH] at h6)
            try (exfalso; first | contradiction | omega)
            all_goals
             refine aZ (aN rfl (aZ (aX (lQ rfl rfl) (aZ (fG rfl rfl (eG rfl rfl (aV rfl (aA (aj (aJ (aK (aI (.inl rfl) results137 rfl ?_))))))))))))
             refine ⟨?_, H⟩; congr 1; rw [bH, if_pos (by omega)]; first | (symm; rw [decide_eq_true_eq]; omega) | (symm; rw [decide_eq_false_iff_not]; omega) | (rw [decide_eq_decide]; omega)
           ·(try simp only [aH] at h6)
            try (exfalso; first | contradiction | omega)
            all_goals
             refine bD (bD (aZ (eG rfl rfl (eG rfl rfl (aV rfl (aA (aj (aJ (aK (aI (.inl rfl) results137 rfl ?_))))))))))
             refine ⟨?_, H⟩; congr 1; rw [bH, if_pos (by omega)]; first | (symm; rw [decide_eq_true_eq]; omega) | (symm; rw [decide_eq_false_iff_not]; omega) | (rw [decide_eq_decide]; omega)
       ·(try simp only [aH] at h4)
        try (exfalso; first | contradiction | omega)
        all_goals
         refine bD (bD (aZ (eG rfl rfl (eG rfl rfl (aN rfl (aZ (aN rfl (aZ (aX (jS rfl rfl) (aZ (fK rfl (fun h7 => ?_) (fun h7 => ?_))))))))))))
         ·(try simp only [aH] at h7)
          try (exfalso; first | contradiction | omega)
          all_goals
           refine aZ (aN rfl (aZ (aX (lQ rfl rfl) (aZ (fG rfl rfl (eG rfl rfl (aV rfl (aA (aj (aJ (aK (aI (.inl rfl) results137 rfl ?_))))))))))))
           refine ⟨?_, H⟩; congr 1; rw [bH, if_pos (by omega)]; first | (symm; rw [decide_eq_true_eq]; omega) | (symm; rw [decide_eq_false_iff_not]; omega) | (rw [decide_eq_decide]; omega)
         ·(try simp only [aH] at h7)
          try (exfalso; first | contradiction | omega)
          all_goals
           refine bD (bD (aZ (eG rfl rfl (eG rfl rfl (aV rfl (aA (aj (aJ (aK (aI (.inl rfl) results137 rfl ?_))))))))))
           refine ⟨?_, H⟩; congr 1; rw [bH, if_pos (by omega)]; first | (symm; rw [decide_eq_true_eq]; omega) | (symm; rw [decide_eq_false_iff_not]; omega) | (rw [decide_eq_decide]; omega)
   ·(try simp only [aH] at h2)
    try (exfalso; first | contradiction | omega)
    all_goals
     refine bD (bD (eG rfl rfl (aN rfl (aZ (aN rfl (aZ (aX (jS rfl rfl) (aZ (fK rfl (fun h8 => ?_) (fun h8 => ?_))))))))))
     ·(try simp only [aH] at h8)
      try (exfalso; first | contradiction | omega)
      all_goals
       refine aZ (aN rfl (aZ (aX (lQ rfl rfl) (aZ (fG rfl rfl (eG rfl rfl (fK rfl (fun h9 => ?_) (fun h9 => ?_))))))))
       ·(try simp only [aH] at h9)
        try (exfalso; first | contradiction | omega)
        all_goals
         refine bD (bD (bD (jq (jq (bD (fG rfl rfl (aV rfl (aA (aj (aJ (aK (aI (.inl rfl) results137 rfl ?_))))))))))))
         refine ⟨?_, H⟩; congr 1; rw [bH, if_pos (by omega)]; first | (symm; rw [decide_eq_true_eq]; omega) | (symm; rw [decide_eq_false_iff_not]; omega) | (rw [decide_eq_decide]; omega)
       ·(try simp only [aH] at h9)
        try (exfalso; first | contradiction | omega)
        all_goals
         refine aZ (aN rfl (aZ (aX (jS rfl rfl) (aZ (fK rfl (fun h10 => ?_) (fun h10 => ?_))))))
         ·(try simp only [aH] at h10)
          try (exfalso; first | contradiction | omega)
          all_goals
           refine aZ (aN rfl (aZ (aX (lQ rfl rfl) (aZ (fG rfl rfl (eG rfl rfl (aV rfl (aA (aj (aJ (aK (aI (.inl rfl) results137 rfl ?_))))))))))))
           refine ⟨?_, H⟩; congr 1; rw [bH, if_pos (by omega)]; first | (symm; rw [decide_eq_true_eq]; omega) | (symm; rw [decide_eq_false_iff_not]; omega) | (rw [decide_eq_decide]; omega)
         ·(try simp only [aH] at h10)
          try (exfalso; first | contradiction | omega)
          all_goals
           refine bD (bD (aZ (eG rfl rfl (eG rfl rfl (aV rfl (aA (aj (aJ (aK (aI (.inl rfl) results137 rfl ?_))))))))))
           refine ⟨?_, H⟩; congr 1; rw [bH, if_pos (by omega)]; first | (symm; rw [decide_eq_true_eq]; omega) | (symm; rw [decide_eq_false_iff_not]; omega) | (rw [decide_eq_decide]; omega)
     ·(try simp only [aH] at h8)
      try (exfalso; first | contradiction | omega)
      all_goals
       refine bD (bD (aZ (eG rfl rfl (eG rfl rfl (aN rfl (aZ (aN rfl (aZ (aX (jS rfl rfl) (aZ (fK rfl (fun h11 => ?_) (fun h11 => ?_))))))))))))
       ·(try simp only [aH] at h11)
        try (exfalso; first | contradiction | omega)
        all_goals
         refine aZ (aN rfl (aZ (aX (lQ rfl rfl) (aZ (fG rfl rfl (eG rfl rfl (aV rfl (aA (aj (aJ (aK (aI (.inl rfl) results137 rfl ?_))))))))))))
         refine ⟨?_, H⟩; congr 1; rw [bH, if_pos (by omega)]; first | (symm; rw [decide_eq_true_eq]; omega) | (symm; rw [decide_eq_false_iff_not]; omega) | (rw [decide_eq_decide]; omega)
       ·(try simp only [aH] at h11)
        try (exfalso; first | contradiction | omega)
        all_goals
         refine bD (bD (aZ (eG rfl rfl (eG rfl rfl (aV rfl (aA (aj (aJ (aK (aI (.inl rfl) results137 rfl ?_))))))))))
         refine ⟨?_, H⟩; congr 1; rw [bH, if_pos (by omega)]; first | (symm; rw [decide_eq_true_eq]; omega) | (symm; rw [decide_eq_false_iff_not]; omega) | (rw [decide_eq_decide]; omega)
 ·(try simp only [aH] at h1)
  try (exfalso; first | contradiction | omega)
  all_goals
   refine aP (aj (ay (bC (ay (ay (ah (aN rfl (aX (dO rfl rfl) (fK rfl (fun h12 => ?_) (fun h12 => ?_))))))))))
   ·(try simp only [aH] at h12)
    try (exfalso; first | contradiction | omega)
    all_goals
     refine bD (bD (fG rfl rfl (aN rfl (bD (bD (fG rfl rfl (aV rfl (aA (aj (uX (aP (aj (uX (ay (ah (aV rfl (aA (aj (aJ (aW (aK (aI (.inl rfl) results137 rfl ?_))))))))))))))))))))))
     refine ⟨?_, H⟩; congr 1; rw [bH, if_neg (by omega), if_pos (by omega)]
   ·(try simp only [aH] at h12)
    try (exfalso; first | contradiction | omega)
    all_goals
     refine aZ (aN rfl (aZ (aX (dO rfl rfl) (eG rfl rfl (fK rfl (fun h13 => ?_) (fun h13 => ?_))))))
     ·(try simp only [aH] at h13)
      try (exfalso; first | contradiction | omega)
      all_goals
       refine bD (bD (fG rfl rfl (aV rfl (aA (aj (uX (aP (aj (uX (ay (ah (aV rfl (aA (aj (aJ (aW (aK (aI (.inl rfl) results137 rfl ?_))))))))))))))))))
       refine ⟨?_, H⟩; congr 1; rw [bH, if_neg (by omega), if_pos (by omega)]
     ·(try simp only [aH] at h13)
      try (exfalso; first | contradiction | omega)
      all_goals
       refine aZ (aN rfl (aZ (aX (dO rfl rfl) (eG rfl rfl (aV rfl (aA (aj (aO rfl (fun h14 => ?_) (fun h14 => ?_)))))))))
       ·(try simp only [aH] at h14)
        try (exfalso; first | contradiction | omega)
        all_goals
         refine aP (aj (aO rfl (fun h15 => ?_) (fun h15 => ?_)))
         ·(try simp only [aH] at h15)
          try (exfalso; first | contradiction | omega)
          all_goals
           refine ay (ah (aV rfl (aA (aj (aJ (aW (aK (aI (.inl rfl) results137 rfl ?_))))))))
           refine ⟨?_, H⟩; congr 1; rw [bH, if_neg (by omega), if_pos (by omega)]
         ·(try simp only [aH] at h15)
          try (exfalso; first | contradiction | omega)
          all_goals
           refine aP (aQ (aj (ay (ah (aN rfl (bZ rfl func200 (nX) ?_))))))
           rintro _ _ ⟨rfl, rfl⟩
           refine fK rfl (fun h16 => ?_) (fun h16 => ?_)
           ·(try simp only [aH] at h16)
            try (exfalso; first | contradiction | omega)
            all_goals
             refine aZ (aN rfl (aZ (bZ rfl func201 (jd H hT) ?_)))
             rintro _ w2 ⟨rfl, H2⟩
             refine aZ (aX (dn rfl rfl) (fG rfl rfl (aV rfl (aA (aj (aJ (aI (.inl rfl) results137 rfl ?_)))))))
             refine ⟨?_, H2⟩; congr 1; rw [bH, if_neg (by omega), if_neg (by omega)]; simp [*]
           ·(try simp only [aH] at h16)
            try (exfalso; first | contradiction | omega)
            all_goals
             refine bD (bD (bD (eG rfl rfl (aV rfl (aA (aj (aJ (aI (.inl rfl) results137 rfl ?_))))))))
             refine ⟨?_, H⟩; congr 1; rw [bH, if_neg (by omega), if_neg (by omega)]; simp [*]
       ·(try simp only [aH] at h14)
        try (exfalso; first | contradiction | omega)
        all_goals
         refine ay (ah (aN rfl (aX (jS rfl rfl) (fK rfl (fun h17 => ?_) (fun h17 => ?_)))))
         ·(try simp only [aH] at h17)
          try (exfalso; first | contradiction | omega)
          all_goals
           refine aZ (aN rfl (aZ (aX (lQ rfl rfl) (fG rfl rfl (aV rfl (aA (aj (aO rfl (fun h18 => ?_) (fun h18 => ?_)))))))))
           ·(try simp only [aH] at h18)
            try (exfalso; first | contradiction | omega)
            all_goals
             refine aP (aj (aO rfl (fun h19 => ?_) (fun h19 => ?_)))
             ·(try simp only [aH] at h19)
              try (exfalso; first | contradiction | omega)
              all_goals
               refine ay (ah (aV rfl (aA (aj (aJ (aW (aK (aI (.inl rfl) results137 rfl ?_))))))))
               refine ⟨?_, H⟩; congr 1; rw [bH, if_neg (by omega), if_pos (by omega)]
             ·(try simp only [aH] at h19)
              try (exfalso; first | contradiction | omega)
              all_goals
               refine aP (aQ (aj (ay (ah (aN rfl (bZ rfl func200 (nX) ?_))))))
               rintro _ _ ⟨rfl, rfl⟩
               refine fK rfl (fun h20 => ?_) (fun h20 => ?_)
               ·(try simp only [aH] at h20)
                try (exfalso; first | contradiction | omega)
                all_goals
                 refine aZ (aN rfl (aZ (bZ rfl func201 (jd H hT) ?_)))
                 rintro _ w4 ⟨rfl, H4⟩
                 refine aZ (aX (dn rfl rfl) (fG rfl rfl (aV rfl (aA (aj (aJ (aI (.inl rfl) results137 rfl ?_)))))))
                 refine ⟨?_, H4⟩; congr 1; rw [bH, if_neg (by omega), if_neg (by omega)]; simp [*]
               ·(try simp only [aH] at h20)
                try (exfalso; first | contradiction | omega)
                all_goals
                 refine bD (bD (bD (eG rfl rfl (aV rfl (aA (aj (aJ (aI (.inl rfl) results137 rfl ?_))))))))
                 refine ⟨?_, H⟩; congr 1; rw [bH, if_neg (by omega), if_neg (by omega)]; simp [*]
           ·(try simp only [aH] at h18)
            try (exfalso; first | contradiction | omega)
            all_goals
             refine ay (ah (aN rfl (aX (jS rfl rfl) (fK rfl (fun h21 => ?_) (fun h21 => ?_)))))
             ·(try simp only [aH] at h21)
              try (exfalso; first | contradiction | omega)
              all_goals
               refine aZ (aN rfl (aZ (aX (lQ rfl rfl) (fG rfl rfl (aV rfl (aA (aj (aO rfl (fun h22 => ?_) (fun h22 => ?_)))))))))
               ·(try simp only [aH] at h22)
                try (exfalso; first | contradiction | omega)
                all_goals
                 refine aP (aj (aO rfl (fun h23 => ?_) (fun h23 => ?_)))
                 ·(try simp only [aH] at h23)
                  try (exfalso; first | contradiction | omega)
                  all_goals
                   refine ay (ah (aV rfl (aA (aj (aJ (aW (aK (aI (.inl rfl) results137 rfl ?_))))))))
                   refine ⟨?_, H⟩; congr 1; rw [bH, if_neg (by omega), if_pos (by omega)]
                 ·(try simp only [aH] at h23)
                  try (exfalso; first | contradiction | omega)
                  all_goals
                   refine aP (aQ (aj (ay (ah (aN rfl (bZ rfl func200 (nX) ?_))))))
                   rintro _ _ ⟨rfl, rfl⟩
                   refine fK rfl (fun h24 => ?_) (fun h24 => ?_)
                   ·(try simp only [aH] at h24)
                    try (exfalso; first | contradiction | omega)
                    all_goals
                     refine aZ (aN rfl (aZ (bZ rfl func201 (jd H hT) ?_)))
                     rintro _ w6 ⟨rfl, H6⟩
                     refine aZ (aX (dn rfl rfl) (fG rfl rfl (aV rfl (aA (aj (aJ (aI (.inl rfl) results137 rfl ?_)))))))
                     refine ⟨?_, H6⟩; congr 1; rw [bH, if_neg (by omega), if_neg (by omega)]; simp [*]
                   ·(try simp only [aH] at h24)
                    try (exfalso; first | contradiction | omega)
                    all_goals
                     refine bD (bD (bD (eG rfl rfl (aV rfl (aA (aj (aJ (aI (.inl rfl) results137 rfl ?_))))))))
                     refine ⟨?_, H⟩; congr 1; rw [bH, if_neg (by omega), if_neg (by omega)]; simp [*]
               ·(try simp only [aH] at h22)
                try (exfalso; first | contradiction | omega)
                all_goals
                 refine ah (aN rfl (aX (jS rfl rfl) (fK rfl (fun h25 => ?_) (fun h25 => ?_))))
                 ·(try simp only [aH] at h25)
                  try (exfalso; first | contradiction | omega)
                  all_goals
                   refine aZ (aN rfl (aZ (aX (lQ rfl rfl) (fG rfl rfl (aV rfl (aA (aj (aO rfl (fun h26 => ?_) (fun h26 => ?_)))))))))
                   ·(try simp only [aH] at h26)
                    try (exfalso; first | contradiction | omega)
                    all_goals
                     refine ay (ah (aV rfl (aA (aj (aJ (aW (aK (aI (.inl rfl) results137 rfl ?_))))))))
                     refine ⟨?_, H⟩; congr 1; rw [bH, if_neg (by omega), if_pos (by omega)]
                   ·(try simp only [aH] at h26)
                    try (exfalso; first | contradiction | omega)
                    all_goals
                     refine aP (aQ (aj (ay (ah (aN rfl (bZ rfl func200 (nX) ?_))))))
                     rintro _ _ ⟨rfl, rfl⟩
                     refine fK rfl (fun h27 => ?_) (fun h27 => ?_)
                     ·(try simp only [aH] at h27)
                      try (exfalso; first | contradiction | omega)
                      all_goals
                       refine aZ (aN rfl (aZ (bZ rfl func201 (jd H hT) ?_)))
                       rintro _ w8 ⟨rfl, H8⟩
                       refine aZ (aX (dn rfl rfl) (fG rfl rfl (aV rfl (aA (aj (aJ (aI (.inl rfl) results137 rfl ?_)))))))
                       refine ⟨?_, H8⟩; congr 1; rw [bH, if_neg (by omega), if_neg (by omega)]; simp [*]
                     ·(try simp only [aH] at h27)
                      try (exfalso; first | contradiction | omega)
                      all_goals
                       refine bD (bD (bD (eG rfl rfl (aV rfl (aA (aj (aJ (aI (.inl rfl) results137 rfl ?_))))))))
                       refine ⟨?_, H⟩; congr 1; rw [bH, if_neg (by omega), if_neg (by omega)]; simp [*]
                 ·(try simp only [aH] at h25)
                  try (exfalso; first | contradiction | omega)
                  all_goals
                   refine bD (bD (eG rfl rfl (aV rfl (aA (aj (nN (aP (aQ (aj (ay (ah (aN rfl (bZ rfl func200 (nX) ?_)))))))))))))
                   rintro _ _ ⟨rfl, rfl⟩
                   refine fK rfl (fun h28 => ?_) (fun h28 => ?_)
                   ·(try simp only [aH] at h28)
                    try (exfalso; first | contradiction | omega)
                    all_goals
                     refine aZ (aN rfl (aZ (bZ rfl func201 (jd H hT) ?_)))
                     rintro _ w10 ⟨rfl, nO⟩
                     refine aZ (aX (dn rfl rfl) (fG rfl rfl (aV rfl (aA (aj (aJ (aI (.inl rfl) results137 rfl ?_)))))))
                     refine ⟨?_, nO⟩; congr 1; rw [bH, if_neg (by omega), if_neg (by omega)]; simp [*]
                   ·(try simp only [aH] at h28)
                    try (exfalso; first | contradiction | omega)
                    all_goals
                     refine bD (bD (bD (eG rfl rfl (aV rfl (aA (aj (aJ (aI (.inl rfl) results137 rfl ?_))))))))
                     refine ⟨?_, H⟩; congr 1; rw [bH, if_neg (by omega), if_neg (by omega)]; simp [*]
             ·(try simp only [aH] at h21)
              try (exfalso; first | contradiction | omega)
              all_goals
               refine bD (bD (eG rfl rfl (aV rfl (aA (aj (nN (ah (aN rfl (aX (jS rfl rfl) (fK rfl (fun h29 => ?_) (fun h29 => ?_)))))))))))
               ·(try simp only [aH] at h29)
                try (exfalso; first | contradiction | omega)
                all_goals
                 refine aZ (aN rfl (aZ (aX (lQ rfl rfl) (fG rfl rfl (aV rfl (aA (aj (aO rfl (fun h30 => ?_) (fun h30 => ?_)))))))))
                 ·(try simp only [aH] at h30)
                  try (exfalso; first | contradiction | omega)
                  all_goals
                   refine ay (ah (aV rfl (aA (aj (aJ (aW (aK (aI (.inl rfl) results137 rfl ?_))))))))
                   refine ⟨?_, H⟩; congr 1; rw [bH, if_neg (by omega), if_pos (by omega)]
                 ·(try simp only [aH] at h30)
                  try (exfalso; first | contradiction | omega)
                  all_goals
                   refine aP (aQ (aj (ay (ah (aN rfl (bZ rfl func200 (nX) ?_))))))
                   rintro _ _ ⟨rfl, rfl⟩
                   refine fK rfl (fun h31 => ?_) (fun h31 => ?_)
                   ·(try simp only [aH] at h31)
                    try (exfalso; first | contradiction | omega)
                    all_goals
                     refine aZ (aN rfl (aZ (bZ rfl func201 (jd H hT) ?_)))
                     rintro _ w12 ⟨rfl, wP⟩
                     refine aZ (aX (dn rfl rfl) (fG rfl rfl (aV rfl (aA (aj (aJ (aI (.inl rfl) results137 rfl ?_)))))))
                     refine ⟨?_, wP⟩; congr 1; rw [bH, if_neg (by omega), if_neg (by omega)]; simp [*]
                   ·(try simp only [aH] at h31)
                    try (exfalso; first | contradiction | omega)
                    all_goals
                     refine bD (bD (bD (eG rfl rfl (aV rfl (aA (aj (aJ (aI (.inl rfl) results137 rfl ?_))))))))
                     refine ⟨?_, H⟩; congr 1; rw [bH, if_neg (by omega), if_neg (by omega)]; simp [*]
               ·(try simp only [aH] at h29)
                try (exfalso; first | contradiction | omega)
                all_goals
                 refine bD (bD (eG rfl rfl (aV rfl (aA (aj (nN (aP (aQ (aj (ay (ah (aN rfl (bZ rfl func200 (nX) ?_)))))))))))))
                 rintro _ _ ⟨rfl, rfl⟩
                 refine fK rfl (fun h32 => ?_) (fun h32 => ?_)
                 ·(try simp only [aH] at h32)
                  try (exfalso; first | contradiction | omega)
                  all_goals
                   refine aZ (aN rfl (aZ (bZ rfl func201 (jd H hT) ?_)))
                   rintro _ Jw ⟨rfl, xE⟩
                   refine aZ (aX (dn rfl rfl) (fG rfl rfl (aV rfl (aA (aj (aJ (aI (.inl rfl) results137 rfl ?_)))))))
                   refine ⟨?_, xE⟩; congr 1; rw [bH, if_neg (by omega), if_neg (by omega)]; simp [*]
                 ·(try simp only [aH] at h32)
                  try (exfalso; first | contradiction | omega)
                  all_goals
                   refine bD (bD (bD (eG rfl rfl (aV rfl (aA (aj (aJ (aI (.inl rfl) results137 rfl ?_))))))))
                   refine ⟨?_, H⟩; congr 1; rw [bH, if_neg (by omega), if_neg (by omega)]; simp [*]
         ·(try simp only [aH] at h17)
          try (exfalso; first | contradiction | omega)
          all_goals
           refine bD (bD (eG rfl rfl (aV rfl (aA (aj (nN (ay (ah (aN rfl (aX (jS rfl rfl) (fK rfl (fun h33 => ?_) (fun h33 => ?_))))))))))))
           ·(try simp only [aH] at h33)
            try (exfalso; first | contradiction | omega)
            all_goals
             refine aZ (aN rfl (aZ (aX (lQ rfl rfl) (fG rfl rfl (aV rfl (aA (aj (aO rfl (fun h34 => ?_) (fun h34 => ?_)))))))))
             ·(try simp only [aH] at h34)
              try (exfalso; first | contradiction | omega)
              all_goals
               refine aP (aj (aO rfl (fun h35 => ?_) (fun h35 => ?_)))
               ·(try simp only [aH] at h35)
                try (exfalso; first | contradiction | omega)
                all_goals
                 refine ay (ah (aV rfl (aA (aj (aJ (aW (aK (aI (.inl rfl) results137 rfl ?_))))))))
                 refine ⟨?_, H⟩; congr 1; rw [bH, if_neg (by omega), if_pos (by omega)]
               ·(try simp only [aH] at h35)
                try (exfalso; first | contradiction | omega)
                all_goals
                 refine aP (aQ (aj (ay (ah (aN rfl (bZ rfl func200 (nX) ?_))))))
                 rintro _ _ ⟨rfl, rfl⟩
                 refine fK rfl (fun h36 => ?_) (fun h36 => ?_)
                 ·(try simp only [aH] at h36)
                  try (exfalso; first | contradiction | omega)
                  all_goals
                   refine aZ (aN rfl (aZ (bZ rfl func201 (jd H hT) ?_)))
                   rintro _ w16 ⟨rfl, rZ⟩
                   refine aZ (aX (dn rfl rfl) (fG rfl rfl (aV rfl (aA (aj (aJ (aI (.inl rfl) results137 rfl ?_)))))))
                   refine ⟨?_, rZ⟩; congr 1; rw [bH, if_neg (by omega), if_neg (by omega)]; simp [*]
                 ·(try simp only [aH] at h36)
                  try (exfalso; first | contradiction | omega)
                  all_goals
                   refine bD (bD (bD (eG rfl rfl (aV rfl (aA (aj (aJ (aI (.inl rfl) results137 rfl ?_))))))))
                   refine ⟨?_, H⟩; congr 1; rw [bH, if_neg (by omega), if_neg (by omega)]; simp [*]
             ·(try simp only [aH] at h34)
              try (exfalso; first | contradiction | omega)
              all_goals
               refine ah (aN rfl (aX (jS rfl rfl) (fK rfl (fun h37 => ?_) (fun h37 => ?_))))
               ·(try simp only [aH] at h37)
                try (exfalso; first | contradiction | omega)
                all_goals
                 refine aZ (aN rfl (aZ (aX (lQ rfl rfl) (fG rfl rfl (aV rfl (aA (aj (aO rfl (fun h38 => ?_) (fun h38 => ?_)))))))))
                 ·(try simp only [aH] at h38)
                  try (exfalso; first | contradiction | omega)
                  all_goals
                   refine ay (ah (aV rfl (aA (aj (aJ (aW (aK (aI (.inl rfl) results137 rfl ?_))))))))
                   refine ⟨?_, H⟩; congr 1; rw [bH, if_neg (by omega), if_pos (by omega)]
                 ·(try simp only [aH] at h38)
                  try (exfalso; first | contradiction | omega)
                  all_goals
                   refine aP (aQ (aj (ay (ah (aN rfl (bZ rfl func200 (nX) ?_))))))
                   rintro _ _ ⟨rfl, rfl⟩
                   refine fK rfl (fun h39 => ?_) (fun h39 => ?_)
                   ·(try simp only [aH] at h39)
                    try (exfalso; first | contradiction | omega)
                    all_goals
                     refine aZ (aN rfl (aZ (bZ rfl func201 (jd H hT) ?_)))
                     rintro _ Qc ⟨rfl, zY⟩
                     refine aZ (aX (dn rfl rfl) (fG rfl rfl (aV rfl (aA (aj (aJ (aI (.inl rfl) results137 rfl ?_)))))))
                     refine ⟨?_, zY⟩; congr 1; rw [bH, if_neg (by omega), if_neg (by omega)]; simp [*]
                   ·(try simp only [aH] at h39)
                    try (exfalso; first | contradiction | omega)
                    all_goals
                     refine bD (bD (bD (eG rfl rfl (aV rfl (aA (aj (aJ (aI (.inl rfl) results137 rfl ?_))))))))
                     refine ⟨?_, H⟩; congr 1; rw [bH, if_neg (by omega), if_neg (by omega)]; simp [*]
               ·(try simp only [aH] at h37)
                try (exfalso; first | contradiction | omega)
                all_goals
                 refine bD (bD (eG rfl rfl (aV rfl (aA (aj (nN (aP (aQ (aj (ay (ah (aN rfl (bZ rfl func200 (nX) ?_)))))))))))))
                 rintro _ _ ⟨rfl, rfl⟩
                 refine fK rfl (fun h40 => ?_) (fun h40 => ?_)
                 ·(try simp only [aH] at h40)
                  try (exfalso; first | contradiction | omega)
                  all_goals
                   refine aZ (aN rfl (aZ (bZ rfl func201 (jd H hT) ?_)))
                   rintro _ Qd ⟨rfl, uZ⟩
                   refine aZ (aX (dn rfl rfl) (fG rfl rfl (aV rfl (aA (aj (aJ (aI (.inl rfl) results137 rfl ?_)))))))
                   refine ⟨?_, uZ⟩; congr 1; rw [bH, if_neg (by omega), if_neg (by omega)]; simp [*]
                 ·(try simp only [aH] at h40)
                  try (exfalso; first | contradiction | omega)
                  all_goals
                   refine bD (bD (bD (eG rfl rfl (aV rfl (aA (aj (aJ (aI (.inl rfl) results137 rfl ?_))))))))
                   refine ⟨?_, H⟩; congr 1; rw [bH, if_neg (by omega), if_neg (by omega)]; simp [*]
           ·(try simp only [aH] at h33)
            try (exfalso; first | contradiction | omega)
            all_goals
             refine bD (bD (eG rfl rfl (aV rfl (aA (aj (nN (ah (aN rfl (aX (jS rfl rfl) (fK rfl (fun h41 => ?_) (fun h41 => ?_)))))))))))
             ·(try simp only [aH] at h41)
              try (exfalso; first | contradiction | omega)
              all_goals
               refine aZ (aN rfl (aZ (aX (lQ rfl rfl) (fG rfl rfl (aV rfl (aA (aj (aO rfl (fun h42 => ?_) (fun h42 => ?_)))))))))
               ·(try simp only [aH] at h42)
                try (exfalso; first | contradiction | omega)
                all_goals
                 refine ay (ah (aV rfl (aA (aj (aJ (aW (aK (aI (.inl rfl) results137 rfl ?_))))))))
                 refine ⟨?_, H⟩; congr 1; rw [bH, if_neg (by omega), if_pos (by omega)]
               ·(try simp only [aH] at h42)
                try (exfalso; first | contradiction | omega)
                all_goals
                 refine aP (aQ (aj (ay (ah (aN rfl (bZ rfl func200 (nX) ?_))))))
                 rintro _ _ ⟨rfl, rfl⟩
                 refine fK rfl (fun h43 => ?_) (fun h43 => ?_)
                 ·(try simp only [aH] at h43)
                  try (exfalso; first | contradiction | omega)
                  all_goals
                   refine aZ (aN rfl (aZ (bZ rfl func201 (jd H hT) ?_)))
                   rintro _ UK ⟨rfl, BQ⟩
                   refine aZ (aX (dn rfl rfl) (fG rfl rfl (aV rfl (aA (aj (aJ (aI (.inl rfl) results137 rfl ?_)))))))
                   refine ⟨?_, BQ⟩; congr 1; rw [bH, if_neg (by omega), if_neg (by omega)]; simp [*]
                 ·(try simp only [aH] at h43)
                  try (exfalso; first | contradiction | omega)
                  all_goals
                   refine bD (bD (bD (eG rfl rfl (aV rfl (aA (aj (aJ (aI (.inl rfl) results137 rfl ?_))))))))
                   refine ⟨?_, H⟩; congr 1; rw [bH, if_neg (by omega), if_neg (by omega)]; simp [*]
             ·(try simp only [aH] at h41)
              try (exfalso; first | contradiction | omega)
              all_goals
               refine bD (bD (eG rfl rfl (aV rfl (aA (aj (nN (aP (aQ (aj (ay (ah (aN rfl (bZ rfl func200 (nX) ?_)))))))))))))
               rintro _ _ ⟨rfl, rfl⟩
               refine fK rfl (fun h44 => ?_) (fun h44 => ?_)
               ·(try simp only [aH] at h44)
                try (exfalso; first | contradiction | omega)
                all_goals
                 refine aZ (aN rfl (aZ (bZ rfl func201 (jd H hT) ?_)))
                 rintro _ Vf ⟨rfl, Ho⟩
                 refine aZ (aX (dn rfl rfl) (fG rfl rfl (aV rfl (aA (aj (aJ (aI (.inl rfl) results137 rfl ?_)))))))
                 refine ⟨?_, Ho⟩; congr 1; rw [bH, if_neg (by omega), if_neg (by omega)]; simp [*]
               ·(try simp only [aH] at h44)
                try (exfalso; first | contradiction | omega)
                all_goals
                 refine bD (bD (bD (eG rfl rfl (aV rfl (aA (aj (aJ (aI (.inl rfl) results137 rfl ?_))))))))
                 refine ⟨?_, H⟩; congr 1; rw [bH, if_neg (by omega), if_neg (by omega)]; simp [*]
end
end Go.Proofs.YtgndbccogcofjaaGreatDoor
end
section
set_option maxRecDepth 100000
namespace Go.Proofs.YtgndbccogcofjaaGreatDoor
open Go.ChangeShapes Go.WideShapes Go.ChangeAt Go.RowKit
def KP (x : Int × Int) : DataW Unit := .agg [.lit (.int .i32 x.1), .lit (.int .i32 x.2)]
section
variable {enc : TypeId × Value → Unit} {w : World} {base : Nat} {spare : Nat → Bool} {held : Bool} {fuel : Nat} {ps : List MemPlace}
theorem Qx {cs : List Value} {x : Int × Int} (h : DataW.trod enc Tryz.prog w base spare held fuel 217 cs = some (KP x, ps)) : cs = [.int .i32 x.1, .int .i32 x.2] := by
  obtain ⟨xs, n, -, hx, hl, hl2, hf⟩ := DataW.trod_struct Tryz.underlying217 h
  rw [show Tryz.prog.cellsOf 217 = 2 from by kernel_rfl] at hl
  simp only [Prod.mk.injEq, KP, DataW.agg.injEq] at hx
  match xs, hl2, hx, cs, hl with
  | [y0, y1], _, hx, [c0, c1], _ =>
    have h0 : DataW.trod enc Tryz.prog w base spare held n 21 (([c0, c1].drop 0).take (Tryz.prog.cellsOf 21)) = some y0 := hf 0 _ rfl
    have h1 : DataW.trod enc Tryz.prog w base spare held n 21 (([c0, c1].drop 1).take (Tryz.prog.cellsOf 21)) = some y1 := hf 1 _ rfl
    simp only [List.map_cons, List.map_nil, List.cons.injEq] at hx
    obtain ⟨n0, e0, d0, -⟩ := DataW.trod_int Tryz.underlying21 h0
    obtain ⟨n1, e1, d1, -⟩ := DataW.trod_int Tryz.underlying21 h1
    rw [show Tryz.prog.cellsOf 21 = 1 from by kernel_rfl] at e0 e1
    simp at e0 e1
    rw [d0, d1] at hx
    simp at hx
    subst e0; subst e1
    rw [hx.1.1, hx.1.2]
theorem Oc {t n : Nat} {cs : List Value} {T : List (Int × Int)} (ht : Tryz.prog.underlying t = some (.array n 217)) (hc : Tryz.prog.cellsOf t = n * 2) (h : DataW.trod enc Tryz.prog w base spare held fuel t cs = some (.agg (T.map KP), ps)) : cs = mg T := by
  obtain ⟨xs, m, -, hx, hl, hl2, hel⟩ := DataW.trod_array ht h
  simp only [Prod.mk.injEq, DataW.agg.injEq] at hx
  rw [hc] at hl
  have hTn : T.length = n := by have := congrArg List.length hx.1; simpa [hl2] using this
  have hv := FI T
  apply List.ext_getElem?
  intro j
  by_cases hj : j < n * 2
  · have hk : j / 2 < n := by omega
    have h1 := hel (j / 2) hk
    rw [show Tryz.prog.cellsOf 217 = 2 from by kernel_rfl, List.getElem?_eq_getElem (by omega)] at h1
    have h2 : xs[j / 2].1 = KP (T.getD (j / 2) (0, 0)) := by
      have := congrArg (fun l => l[j / 2]?) hx.1
      simp [List.getElem?_eq_getElem (show j / 2 < T.length by omega), List.getElem?_eq_getElem (show j / 2 < xs.length by omega)] at this
      rw [List.getD_eq_getElem?_getD, List.getElem?_eq_getElem (show j / 2 < T.length by omega), Option.getD_some, this]
    have h3 := Qx (x := T.getD (j / 2) (0, 0)) (ps := xs[j / 2].2) (by rw [h1, ← h2])
    obtain ⟨e0, e1⟩ := BO T (j / 2) (by omega)
    have hq : (mg T)[j]? = some ((mg T).getD j undef) := by rw [List.getD_eq_getElem?_getD, List.getElem?_eq_getElem (by omega)]; rfl
    rw [hq]
    rcases (show j = j / 2 * 2 ∨ j = j / 2 * 2 + 1 by omega) with hj2 | hj2
    · have := congrArg (fun l => l[0]?) h3
      simp [List.getElem?_drop] at this
      rw [show j / 2 * 2 = j from by omega] at this e0
      rw [this, e0]; simp [List.getD_eq_getElem?_getD]
    · have := congrArg (fun l => l[1]?) h3
      simp [List.getElem?_take, List.getElem?_drop] at this
      rw [show j / 2 * 2 + 1 = j from by omega] at this e1
      rw [this, e1]; simp [List.getD_eq_getElem?_getD]
  · rw [List.getElem?_eq_none (by omega), List.getElem?_eq_none (by omega)]
end
end Go.Proofs.YtgndbccogcofjaaGreatDoor
end
section
namespace Go.Proofs.YtgndbccogcofjaaGreatDoor
def Hr (x : Int) : Nat := if x < 128 then 1 else if 194 ≤ x ∧ x ≤ 223 then 2 else if 224 ≤ x ∧ x ≤ 239 then 3 else if 240 ≤ x ∧ x ≤ 244 then 4 else 0
def XB (x : Int) : Int := if x = 224 then 160 else if x = 240 then 144 else 128
def Vg (x : Int) : Int := if x = 237 then 159 else if x = 244 then 143 else 191
def XC (b : List Int) (j : Nat) : Bool := j == 0 || (decide (128 ≤ b.getD j 0 ∧ b.getD j 0 ≤ 191) && (j != 1 || decide (XB (b.getD 0 0) ≤ b.getD 1 0 ∧ b.getD 1 0 ≤ Vg (b.getD 0 0))))
def RU (b : List Int) : Nat → Bool
  | 0 => true
  | k + 1 => RU b k && XC b k
def zZ (b : List Int) : Nat × Nat := if b = [] then (0, 0) else if Hr (b.getD 0 0) = 0 then (0, 0) else if RU b (min (Hr (b.getD 0 0)) b.length) then (min (Hr (b.getD 0 0)) b.length, Hr (b.getD 0 0)) else (0, Hr (b.getD 0 0))
def XD (b : List Int) (n : Nat) : Int :=
  if n = 1 then b.getD 0 0 else if n = 2 then b.getD 0 0 % 32 * 64 + b.getD 1 0 % 64 else if n = 3 then b.getD 0 0 % 16 * 4096 + b.getD 1 0 % 64 * 64 + b.getD 2 0 % 64
  else b.getD 0 0 % 8 * 262144 + b.getD 1 0 % 64 * 4096 + b.getD 2 0 % 64 * 64 + b.getD 3 0 % 64
def Tv (b : List Int) : Bool := decide ((zZ b).1 = (zZ b).2 ∧ 0 < (zZ b).2)
def Oe (b : List Int) : Int × Nat := if Tv b then (XD b (zZ b).2, (zZ b).2) else (65533, 1)
def Vh (b : List Int) : Bool := decide (0 < (zZ b).1 ∧ (zZ b).1 < (zZ b).2)
def Og : Nat → List Int → List Int
  | 0, _ => []
  | f + 1, b => if b = [] then [] else (Oe b).1 :: Og f (b.drop (Oe b).2)
def XE (b : List Int) : List Int := Og b.length b
def Tz : Nat → List Int → List Int × List Int
  | 0, b => ([], b)
  | f + 1, b => if b = [] ∨ Vh b = true then ([], b) else ((Oe b).1 :: (Tz f (b.drop (Oe b).2)).1, (Tz f (b.drop (Oe b).2)).2)
def aas (b : List Int) : List Int × List Int := Tz b.length b
def XF (l : List Int) : List Int := l.flatMap Lib.encodeRuneZ
def aat (b : List Int) : Prop := ∀ x ∈ b, 0 ≤ x ∧ x < 256
end Go.Proofs.YtgndbccogcofjaaGreatDoor
end
section
namespace Go.Proofs.YtgndbccogcofjaaGreatDoor
open Go.RowKit
section
variable {P : Program} {L : List (Nat × Value)} {w : World} {ty t t' : TypeId} {x y : Operand} {k k2 : IntKind} {m n : Int}
theorem TA {n : Int} (h : 0 ≤ n ∧ n < 256) : IntKind.u8.wrap n = n := by rw [IntKind.wrap_u8]; omega
theorem A8 {n : Int} (h : -9223372036854775808 ≤ n ∧ n < 9223372036854775808) : IntKind.i64.wrap n = n := by rw [IntKind.wrap_i64]; omega
end
end Go.Proofs.YtgndbccogcofjaaGreatDoor
end
section
namespace Go.Proofs.YtgndbccogcofjaaGreatDoor
open Go.RowKit
def firstM (x : Nat) : Int := ((Go.Pinned.utf8FirstZ.getD x 0 : Nat) : Int)
def TB : List (Int × Int) := [(128, 191), (160, 191), (128, 159), (144, 191), (128, 143)]
structure Vj (w : World) : Prop where
  first : ∀ x : Nat, x < 256 → w.cell? ⟨2, x, none⟩ = some (.int .u8 (firstM x))
  acc : ∀ i : Nat, i < 5 → w.cell? ⟨3, i * 2, none⟩ = some (.int .u8 (TB.getD i (0, 0)).1) ∧ w.cell? ⟨3, i * 2 + 1, none⟩ = some (.int .u8 (TB.getD i (0, 0)).2)
section
variable {b : List Int}
end
section
variable {w0 w : World} {F : HP} {v : Value} {b : List Int}
end
end Go.Proofs.YtgndbccogcofjaaGreatDoor
end
