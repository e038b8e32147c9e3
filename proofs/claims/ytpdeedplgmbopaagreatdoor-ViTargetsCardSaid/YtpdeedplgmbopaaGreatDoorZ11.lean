import Derived.Test.YtpdeedplgmbopaaGreatDoorZ4
import Derived.Test.YtpdeedplgmbopaaGreatDoorProg
import Derived.Test.YtpdeedplgmbopaaGreatDoorZ10
import Derived.Test.YtpdeedplgmbopaaGreatDoorZ2
import Derived.Test.YtpdeedplgmbopaaGreatDoorZ6
import Derived.Test.YtpdeedplgmbopaaGreatDoorZ8
import Derived.Test.YtpdeedplgmbopaaGreatDoorZ3
set_option linter.unusedSimpArgs false
set_option linter.unusedVariables false
/- Texts of mine, joined, their names in short: StrF VI VC HistF RHist RWalk VNm. -/
section
namespace Go.Proofs.YtpdeedplgmbopaaGreatDoor
open Go.RowKit Go.Lib
section
variable {w0 w : World} {F : HP} {s : ByteArray} {r c : Int}
theorem JC : ig Tryz.prog 143 #[.string s, .int .u8 c] w fun v w' => v = .int .i64 (indexByte s.data.toList c.toNat.toUInt8) ∧ w = w' := by
  refine nC Tryz.func143 Tryz.ntmps143 ?_
  refine jy O (bM O (bG O (Z (acA O Tryz.func180 O O (by kernel_rfl) (by kernel_rfl) (run_indexByteString _ _ _)) (dU O (dF Tryz.results143 O ?_)))))
  exact ⟨O, O⟩
theorem Ec : ig Tryz.prog 98 #[.string s, .int .u8 c] w fun v w' => v = .int .i64 (indexByte s.data.toList c.toNat.toUInt8) ∧ w = w' := by
  refine nC Tryz.func98 Tryz.ntmps98 ?_
  refine jy O (bM O (bG O (dX O Tryz.func143 (JC) ?_)))
  rintro _ _ ⟨rfl, rfl⟩
  refine dU O (dF Tryz.results98 O ?_)
  exact ⟨O, O⟩
def afB (s : ByteArray) (r : Int) : Int := if 0 ≤ r ∧ r < 128 then indexByte s.data.toList r.toNat.toUInt8 else -1
end
theorem YZ {l : List UInt8} {c : UInt8} : 0 ≤ indexByte l c ↔ c ∈ l := by
  induction l with
  | nil => simp [indexByte]
  | cons b l ih =>
    have h1 := indexByte_ge l c
    unfold indexByte
    by_cases hb : b = c
    · simp [hb]
    · rw [if_neg (by simpa using hb)]
      by_cases h2 : indexByte l c = -1
      · rw [if_pos (by simpa using h2)]
        have : c ∉ l := fun h => by have := ih.2 h; omega
        simp [this, Ne.symm hb]
      · rw [if_neg (by simpa using h2)]
        have : c ∈ l := ih.1 (by omega)
        simp [this]; omega
def xU (s : ByteArray) : List Int := s.data.toList.map fun b => (b.toNat : Int)
def Asc (s : ByteArray) : Prop := ∀ x ∈ s.data.toList, 0 < x.toNat ∧ x.toNat < 128
instance (s : ByteArray) : Decidable (Asc s) := by unfold Asc; infer_instance
theorem yH {s : ByteArray} (hs : Asc s) {r : Int} : (0 < r ∧ r < 128 ∧ 0 ≤ indexByte s.data.toList r.toNat.toUInt8) ↔ r ∈ xU s := by
  rw [YZ]
  unfold xU
  rw [List.mem_map]
  constructor
  · rintro ⟨h1, h2, h3⟩
    refine ⟨_, h3, ?_⟩
    rw [show r.toNat.toUInt8.toNat = r.toNat % 256 from by simp [Nat.toUInt8]]
    omega
  · rintro ⟨b, hb, rfl⟩
    have := hs b hb
    refine ⟨by omega, by omega, ?_⟩
    rw [show ((b.toNat : Int)).toNat.toUInt8 = b from by rw [Int.toNat_natCast]; simp [Nat.toUInt8]]
    exact hb
section
variable {w0 w : World} {F : HP} {r : Int} {s : ByteArray}
theorem Ed (hs : Asc s) : ig Tryz.prog 50 #[.int .i32 r, .string s] w fun v w' => v = .bool (decide (r ∈ xU s)) ∧ w = w' := by
  have hi := yH hs (r := r)
  refine nC Tryz.func50 Tryz.ntmps50 ?_
  refine jy O (bM O (Z (iw O O) (iZ O (fun h1 => ?_) (fun h1 => ?_))))
  · (try simp only [aC] at h1)
    try (exfalso; first | contradiction | omega)
    all_goals
      refine bg (bG O (bg (Z (fF O O) (iM O O (iZ O (fun h2 => ?_) (fun h2 => ?_))))))
      · (try simp only [aC] at h2)
        try (exfalso; first | contradiction | omega)
        all_goals
          refine bg (bG O (bg (bG O (bg ?_))))
          refine Z (KF O (by rw [Tryz.underlying21]; rfl) Tryz.underlying5) ?_
          refine bg (dX O Tryz.func98 (Ec) ?_)
          rintro _ _ ⟨rfl, rfl⟩
          refine bg (Z (jw O O) (iM O O (dU O (dF Tryz.results50 O ?_))))
          refine ⟨congrArg Value.bool ?_, O⟩; first | exact (decide_eq_false (fun c => by have := (yH hs).2 c; omega)).symm | (rw [show r % 256 = r from by omega]; exact decide_eq_decide.2 ⟨fun c => (yH hs).1 ⟨by omega, by omega, c⟩, fun c => ((yH hs).2 c).2.2⟩)
      · (try simp only [aC] at h2)
        try (exfalso; first | contradiction | omega)
        all_goals
          refine bn (bn (bn (bn (bn (gI O O (dU O (dF Tryz.results50 O ?_)))))))
          refine ⟨congrArg Value.bool ?_, O⟩; first | exact (decide_eq_false (fun c => by have := (yH hs).2 c; omega)).symm | (rw [show r % 256 = r from by omega]; exact decide_eq_decide.2 ⟨fun c => (yH hs).1 ⟨by omega, by omega, c⟩, fun c => ((yH hs).2 c).2.2⟩)
  · (try simp only [aC] at h1)
    try (exfalso; first | contradiction | omega)
    all_goals
      refine bn (bn (gI O O (bG O (bn (bn (bn (bn (bn (gI O O (dU O (dF Tryz.results50 O ?_)))))))))))
      refine ⟨congrArg Value.bool ?_, O⟩; first | exact (decide_eq_false (fun c => by have := (yH hs).2 c; omega)).symm | (rw [show r % 256 = r from by omega]; exact decide_eq_decide.2 ⟨fun c => (yH hs).1 ⟨by omega, by omega, c⟩, fun c => ((yH hs).2 c).2.2⟩)
end
end Go.Proofs.YtpdeedplgmbopaaGreatDoor
end
section
namespace Go.Proofs.YtpdeedplgmbopaaGreatDoor
open Go.RowKit
open _root_.Go.Proofs.Tryz
def vJ (st : Int) (n i : Int) : Int := if st = 1 then n - i else i + 1
theorem xE {st n i : Int} (h : st = 1 ∨ st = -1) : vJ st n (i + st) + 1 = vJ st n i := by
  unfold vJ; rcases h with rfl | rfl
  · rw [if_pos rfl, if_pos rfl]; omega
  · rw [if_neg (by decide), if_neg (by decide)]; omega
theorem sF {st n i : Int} (h : st = 1 ∨ st = -1) (h0 : 0 ≤ i) (h1 : i < n) : 0 < vJ st n i ∧ vJ st n i ≤ n := by
  unfold vJ; rcases h with rfl | rfl
  · rw [if_pos rfl]; omega
  · rw [if_neg (by decide)]; omega
theorem OA (key : Int) : ku key = 1 ∨ ku key = -1 := by unfold ku; split <;> simp
theorem IC {c m x : Int} (h : ¬ x = c) : xC c m x = some m := if_neg h
theorem zO {c m x : Int} (h : x = c) (h2 : 0 < m - 1) : xC c m x = some (m - 1) := by unfold xC; rw [if_pos h, if_neg (by omega)]
theorem BO {c m x : Int} (h : x = c) (h2 : m - 1 ≤ 0) : xC c m x = none := by unfold xC; rw [if_pos h, if_pos (by omega)]
theorem sG {l : List Int} {x n key c i : Int} (h : pJ (ku key) (xC c) l n (x + ku key) = some i) : nP l x key c n = (if key = 116 ∨ key = 84 then i - ku key else i, decide (0 < ku key), true) := by unfold nP; rw [h]
theorem oU {l : List Int} {x n key c : Int} (h : pJ (ku key) (xC c) l n (x + ku key) = none) : nP l x key c n = (0, false, false) := by unfold nP; rw [h]
section
variable {w0 w : World} {F : HP} {v : Value} {l : List Int} {x n key c r : Int} {s : ByteArray}
theorem QF (H : V w0 w F) (hr : jE w0 F .i32 v l) (hx : 0 ≤ x ∧ x ≤ l.length) (hn : 1 ≤ n) (hn2 : n ≤ 9223372036854775807) (SC : l.length ≤ 4611686018427387904) : ig prog 42 #[v, .int .i64 x, .int .i32 key, .int .i32 c, .int .i64 n] w fun u w' => u = F7 (nP l x key c n) ∧ V w0 w' F := by
 have hst := OA key
 refine abU func42 ntmps42 ?_
 refine gW (dL O (dL O (fV O (jy O ?_))))
 refine iY [(0, _), (1, _), (2, _), (3, _), (4, _)] (fun (_ : Unit) => [(13, .int .i64 (ku key))]) (fun (_ : Unit) W => V w0 W F) Nz ?_ ?_
 ·rintro _ w1 HL
  dsimp only [List.cons_append, List.nil_append]
  refine aK (bM O (bG O (Z (dP O O (by omega)) (fV O (aV ?_)))))
  refine dJ [(0, _), (2, _), (3, _), (13, _)] (fun (⟨i, m⟩ : Int × Int) => [(4, .int .i64 m), (14, .int .i64 i)]) (fun (⟨i, m⟩ : Int × Int) W => ((-1 ≤ i ∧ i ≤ l.length + 1) ∧ (1 ≤ m ∧ m ≤ n) ∧ pJ (ku key) (xC c) l n (x + ku key) = pJ (ku key) (xC c) l m i) ∧ V w0 W F) (fun (⟨i, m⟩ : Int × Int) => (vJ (ku key) l.length i).toNat) ((x + ku key, n)) BI mW ⟨⟨by omega, by omega, O⟩, HL⟩ ?_
  rintro ⟨i, m⟩ w2 ⟨⟨hi, hm, hE⟩, HL⟩
  dsimp only [List.cons_append, List.nil_append]
  have hms := xE (n := l.length) (i := i) hst
  have hmp := fun h0 h1 => sF (n := l.length) (i := i) hst h0 h1
  refine aK (bM O (Z (jw O O) (iZ O (fun h1 => ?_) (fun h1 => ?_))))
  ·(try simp only [aC] at h1)
   refine bg (bG O (bg (bG O (bg (Z (fO (hr _ (HL)) aj O) (bg (Z (fF O O) (iM O O (gQ O (fun h2 => ?_) (fun h2 => ?_))))))))))
   ·(try simp only [aC] at h2)
    refine fG (aK (aV (aK (bM O (bG O ?_)))))
    obtain ⟨bv, ov, cv, ev⟩ := dR.nJ (hr _ (HL)) (by omega)
    cases ev
    refine Z (dh aj bF O O (by omega)) ?_
    refine Z (dH (bT aQ O) O (by first | exact dR.jo (hr _ (HL)) (by omega) | exact dR.qB (hr _ (HL)) (by omega) | exact dR.qx (hr _ (HL)) (by omega))) ?_
    refine bG O (Z (jv O O) (gQ O (fun h3 => ?_) (fun h3 => ?_)))
    ·(try simp only [aC] at h3)
     have hf := IC (m := m) h3
     refine bQ (aB (aU (aW (aA (jr O O (Z (dP O O (by omega)) (dL O (bD ?_))))))))
     refine bZ (_, _) mW BI (by (try dsimp only); exact ⟨⟨by omega, by omega, hE.trans (tJ hst (by omega) (by omega) hf)⟩, HL⟩) ?_
     ·(try dsimp only); have := hmp (by omega) (by omega); omega
    ·(try simp only [aC] at h3)
     have heq : l.getD i.toNat 0 = c := by have h9 := h3; omega
     refine fG (aK (bM O (Z (iG O O (by omega)) (fV O (bM O (Z (iw O O) (gQ O (fun h4 => ?_) (fun h4 => ?_))))))))
     ·(try simp only [aC] at h4)
      have hf := zO heq h4
      refine bQ (aB (aU (aW (aA (jr O O (Z (dP O O (by omega)) (dL O (bD ?_))))))))
      refine bZ (_, _) mW BI (by (try dsimp only); exact ⟨⟨by omega, by omega, hE.trans (tJ hst (by omega) (by omega) hf)⟩, HL⟩) ?_
      ·(try dsimp only); have := hmp (by omega) (by omega); omega
     ·(try simp only [aC] at h4)
      have hf := BO heq h4
      refine fG (aK (bM O (Z (cZ O O) (iZ O (fun h5 => ?_) (fun h5 => ?_)))))
      ·(try simp only [aC] at h5)
       refine bn (bn (iM O O (iy (DC (aA (jr O O (Z (iG O O (by omega)) (fV O (bM O (bG O (Z (iw O O) (dL O (dL O (dU O (aN (ay (ay (aN (ay ?_)))))))))))))))))))
       refine dW (.inl O) results42 O O O ?_
       refine ⟨?_, HL⟩
       rw [sG (hE.trans (qU (by omega) (by omega) hf))]
       first | (rw [if_pos (by omega)]; rfl) | (rw [if_neg (by omega)]; rfl)
      ·(try simp only [aC] at h5)
       refine bg (bG O (bg (Z (cZ O O) (gI O O (gQ O (fun h6 => ?_) (fun h6 => ?_))))))
       ·(try simp only [aC] at h6)
        refine aA (jr O O (Z (iG O O (by omega)) (fV O (bM O (bG O (Z (iw O O) (dL O (dL O (dU O (aN (ay (ay (aN (ay ?_))))))))))))))
        refine dW (.inl O) results42 O O O ?_
        refine ⟨?_, HL⟩
        rw [sG (hE.trans (qU (by omega) (by omega) hf))]
        first | (rw [if_pos (by omega)]; rfl) | (rw [if_neg (by omega)]; rfl)
       ·(try simp only [aC] at h6)
        refine fG (bM O (bG O (Z (iw O O) (dL O (dL O (dU O (aN (ay (ay (aN (ay ?_)))))))))))
        refine dW (.inl O) results42 O O O ?_
        refine ⟨?_, HL⟩
        rw [sG (hE.trans (qU (by omega) (by omega) hf))]
        first | (rw [if_pos (by omega)]; rfl) | (rw [if_neg (by omega)]; rfl)
   ·(try simp only [aC] at h2)
    refine bQ (aB (aB (aU (aW (gW (dL O (dL O (dU O ?_))))))))
    refine dW (.inl O) results42 O O O ?_
    exact ⟨by rw [oU (hE.trans (lF (by omega)))]; rfl, HL⟩
  ·(try simp only [aC] at h1)
   refine bn (bn (bn (bn (gI O O (iy (oD (bQ (aB (aB (aU (aW (gW (dL O (dL O (dU O ?_)))))))))))))))
   refine dW (.inl O) results42 O O O ?_
   exact ⟨by rw [oU (hE.trans (lF (by omega)))]; rfl, HL⟩
 ·skip
  refine bM O (Z (cZ O O) (iZ O (fun h7 => ?_) (fun h7 => ?_)))
  ·(try simp only [aC] at h7)
   refine bn (bn (iM O O (iy (DC (aA (dL O (bD ?_)))))))
   refine cO (()) ?_ ?_ ?_
   ·exact (Sub.eP O (by congr 1; unfold ku; first | rw [if_pos (by omega)] | rw [if_neg (by omega)]) (Sub.nil _))
   ·exact Nz
   ·(try dsimp only)
    first | done | exact H
  ·(try simp only [aC] at h7)
   refine bg (bG O (bg (Z (cZ O O) (gI O O (gQ O (fun h8 => ?_) (fun h8 => ?_))))))
   ·(try simp only [aC] at h8)
    refine aA (dL O (bD ?_))
    refine cO (()) ?_ ?_ ?_
    ·exact (Sub.eP O (by congr 1; unfold ku; first | rw [if_pos (by omega)] | rw [if_neg (by omega)]) (Sub.nil _))
    ·exact Nz
    ·(try dsimp only)
     first | done | exact H
   ·(try simp only [aC] at h8)
    refine bY ?_
    refine cO (()) ?_ ?_ ?_
    ·exact (Sub.eP O (by congr 1; unfold ku; first | rw [if_pos (by omega)] | rw [if_neg (by omega)]) (Sub.nil _))
    ·exact Nz
    ·(try dsimp only)
     first | done | exact H
theorem QG (H : V w0 w F) (hr : jE w0 F .i32 v l) (hx : 0 ≤ x ∧ x ≤ l.length) (hn : 1 ≤ n) (hn2 : n ≤ 9223372036854775807) (SC : l.length ≤ 4611686018427387904) : ig prog 44 #[v, .int .i64 x, .int .i32 key, .int .i32 c, .int .i64 n] w fun u w' => u = .tuple #[.int .i64 (nP l x key c n).1, .bool (nP l x key c n).2.2] ∧ V w0 w' F := by
 have hst := OA key
 refine abU func44 ntmps44 ?_
 refine gW (dL O (fV O (jy O ?_)))
 refine iY [(0, _), (1, _), (2, _), (3, _), (4, _)] (fun (_ : Unit) => [(12, .int .i64 (ku key))]) (fun (_ : Unit) W => V w0 W F) Nz ?_ ?_
 ·rintro _ w1 HL
  dsimp only [List.cons_append, List.nil_append]
  refine bM O (tX O (aV ?_))
  refine dJ [(0, _), (2, _), (3, _), (12, _)] (fun (⟨i, m⟩ : Int × Int) => [(4, .int .i64 m), (13, .int .i64 i)]) (fun (⟨i, m⟩ : Int × Int) W => ((0 ≤ i ∧ i ≤ l.length) ∧ (0 ≤ m ∧ m ≤ n) ∧ (0 < m → pJ (ku key) (xC c) l n (x + ku key) = pJ (ku key) (xC c) l m (i + ku key)) ∧ (m = 0 → pJ (ku key) (xC c) l n (x + ku key) = some i)) ∧ V w0 W F) (fun (⟨i, m⟩ : Int × Int) => m.toNat) ((x, n)) BI mW ⟨⟨hx, by omega, fun _ => rfl, fun h => by omega⟩, HL⟩ ?_
  rintro ⟨i, m⟩ w2 ⟨⟨hi, hm, hE, hE0⟩, HL⟩
  dsimp only [List.cons_append, List.nil_append]
  refine aK (bM O (Z (iw O O) (gQ O (fun h1 => ?_) (fun h1 => ?_))))
  ·(try simp only [aC] at h1)
   have hm0 : 0 < m := h1
   refine fG (aK (aV (bM O (bG O (Z (dP O O (by omega)) (tX O (aV ?_)))))))
   refine dJ [(0, _), (2, _), (3, _), (4, _), (12, _)] (fun (j : Int) => [(13, .int .i64 j)]) (fun (j : Int) W => ((-1 ≤ j ∧ j ≤ l.length + 1) ∧ pJ (ku key) (xC c) l n (x + ku key) = pJ (ku key) (xC c) l m j) ∧ V w0 W F) (fun (j : Int) => (vJ (ku key) l.length j).toNat) (i + ku key) Nz ji ⟨⟨by omega, hE hm0⟩, HL⟩ ?_
   rintro j w3 ⟨⟨hj, hF⟩, HM⟩
   dsimp only [List.cons_append, List.nil_append]
   have hms := xE (n := l.length) (i := j) hst
   have hmp := fun h0 h1 => sF (n := l.length) (i := j) hst h0 h1
   refine aK (bM O (Z (jw O O) (iZ O (fun h2 => ?_) (fun h2 => ?_))))
   ·(try simp only [aC] at h2)
    refine bg (bG O (bg (bG O (bg (Z (fO (hr _ (HM)) aj O) (bg (Z (fF O O) (iM O O (iZ O (fun h3 => ?_) (fun h3 => ?_))))))))))
    ·(try simp only [aC] at h3)
     refine bg (bG O (bg (bG O (bg ?_))))
     obtain ⟨bv, ov, cv, ev⟩ := dR.nJ (hr _ (HM)) (by omega)
     cases ev
     refine Z (dh aj bF O O (by omega)) (bg ?_)
     refine Z (dH (bT aQ O) O (by first | exact dR.jo (hr _ (HM)) (by omega) | exact dR.qB (hr _ (HM)) (by omega) | exact dR.qx (hr _ (HM)) (by omega))) ?_
     refine bg (bG O (bg (Z (jv O O) (iM O O (gQ O (fun h4 => ?_) (fun h4 => ?_))))))
     ·(try simp only [aC] at h4)
      have hne : ¬ l.getD j.toNat 0 = c := h4
      refine fG (aV (aA (jr O O (Z (dP O O (by omega)) (dL O (bD (aG ?_)))))))
      refine bZ (_) ji Nz (by (try dsimp only); exact ⟨⟨by omega, hF.trans (tJ hst (by omega) (by omega) (IC hne))⟩, HM⟩) ?_
      ·(try dsimp only); have := hmp (by omega) (by omega); omega
     ·(try simp only [aC] at h4)
      refine bQ (aB (aB (aU (aW (bM O (Z (fF O O) (iZ O (fun h5 => ?_) (fun h5 => ?_))))))))
      ·(try simp only [aC] at h5)
       refine bn (bn (bn (bn (iM O O (iy (DC (gW (dL O (dU O (aN (ay (ay (aN (ay (Az results44 O O ?_)))))))))))))))
       exact ⟨by rw [oU (hF.trans (lF (by omega)))], HM⟩
      ·(try simp only [aC] at h5)
       refine bg (bG O (bg (bG O (bg (Z (jZ aj O) (bg (Z (jw O O) (gI O O (gQ O (fun h6 => ?_) (fun h6 => ?_))))))))))
       ·(try simp only [aC] at h6)
        refine gW (dL O (dU O (aN (ay (ay (aN (ay (Az results44 O O ?_))))))))
        exact ⟨by rw [oU (hF.trans (lF (by omega)))], HM⟩
       ·(try simp only [aC] at h6)
        try have heq : l.getD j.toNat 0 = c := by omega
        refine bY (aG (aW (aA (bG O (Z (iG O O (by omega)) (dL O (bD ?_)))))))
        refine bZ (_, _) mW BI (by (try dsimp only); exact ⟨⟨by omega, by omega, fun h => hF.trans (tJ hst (by omega) (by omega) (zO heq h)), fun h => hF.trans (qU (by omega) (by omega) (BO heq (by omega)))⟩, HM⟩) ?_
        ·(try dsimp only); omega
    ·(try simp only [aC] at h3)
     refine bn (bn (bn (bn (bn (bn (gI O O (iy (oD (bQ (aB (aB (aU (aW (bM O (Z (fF O O) (iZ O (fun h7 => ?_) (fun h7 => ?_)))))))))))))))))
     ·(try simp only [aC] at h7)
      refine bn (bn (bn (bn (iM O O (iy (DC (gW (dL O (dU O (aN (ay (ay (aN (ay (Az results44 O O ?_)))))))))))))))
      exact ⟨by rw [oU (hF.trans (lF (by omega)))], HM⟩
     ·(try simp only [aC] at h7)
      refine bg (bG O (bg (bG O (bg (Z (fO (hr _ (HM)) aj O) (bg (Z (jw O O) (gI O O (gQ O (fun h8 => ?_) (fun h8 => ?_))))))))))
      ·(try simp only [aC] at h8)
       refine gW (dL O (dU O (aN (ay (ay (aN (ay (Az results44 O O ?_))))))))
       exact ⟨by rw [oU (hF.trans (lF (by omega)))], HM⟩
      ·(try simp only [aC] at h8)
       try have heq : l.getD j.toNat 0 = c := by omega
       refine bY (aG (aW (aA (bG O (Z (iG O O (by omega)) (dL O (bD ?_)))))))
       refine bZ (_, _) mW BI (by (try dsimp only); exact ⟨⟨by omega, by omega, fun h => hF.trans (tJ hst (by omega) (by omega) (zO heq h)), fun h => hF.trans (qU (by omega) (by omega) (BO heq (by omega)))⟩, HM⟩) ?_
       ·(try dsimp only); omega
   ·(try simp only [aC] at h2)
    refine bn (bn (bn (bn (gI O O (bG O (bn (bn (bn (bn (bn (bn (gI O O (iy (oD (bQ (aB (aB (aU (aW (bM O (Z (fF O O) (iZ O (fun h9 => ?_) (fun h9 => ?_)))))))))))))))))))))))
    ·(try simp only [aC] at h9)
     refine bn (bn (bn (bn (iM O O (iy (DC (gW (dL O (dU O (aN (ay (ay (aN (ay (Az results44 O O ?_)))))))))))))))
     exact ⟨by rw [oU (hF.trans (lF (by omega)))], HM⟩
    ·(try simp only [aC] at h9)
     refine bg (bG O (bg (bG O (bg (Z (fO (hr _ (HM)) aj O) (bg (Z (jw O O) (gI O O (gQ O (fun h10 => ?_) (fun h10 => ?_))))))))))
     ·(try simp only [aC] at h10)
      refine gW (dL O (dU O (aN (ay (ay (aN (ay (Az results44 O O ?_))))))))
      exact ⟨by rw [oU (hF.trans (lF (by omega)))], HM⟩
     ·(try simp only [aC] at h10)
      try have heq : l.getD j.toNat 0 = c := by omega
      refine bY (aG (aW (aA (bG O (Z (iG O O (by omega)) (dL O (bD ?_)))))))
      refine bZ (_, _) mW BI (by (try dsimp only); exact ⟨⟨by omega, by omega, fun h => hF.trans (tJ hst (by omega) (by omega) (zO heq h)), fun h => hF.trans (qU (by omega) (by omega) (BO heq (by omega)))⟩, HM⟩) ?_
      ·(try dsimp only); omega
  ·(try simp only [aC] at h1)
   refine bQ (aB (aB (aU (aW (aK (bM O (iy (aV (gW (Z (cZ O O) (fV O (bI O (fun h11 => ?_) (fun h11 => ?_)))))))))))))
   ·(try simp only [aC] at h11)
    refine aA (bG O (Z (iG O O (by omega)) (dL O (bD (aG (aW (bM O (dL O (dU O (Az results44 O O ?_))))))))))
    refine ⟨?_, HL⟩
    rw [sG (hE0 (by omega))]
    dsimp only
    by_cases k1 : key = 116 <;> by_cases k2 : key = 84 <;> simp [ku, k1, k2] <;> omega
   ·(try simp only [aC] at h11)
    refine gW (Z (cZ O O) (fV O (bI O (fun h12 => ?_) (fun h12 => ?_))))
    ·(try simp only [aC] at h12)
     refine aA (bG O (Z (dP O O (by omega)) (dL O (bD (aG (aW (bM O (dL O (dU O (Az results44 O O ?_))))))))))
     refine ⟨?_, HL⟩
     rw [sG (hE0 (by omega))]
     dsimp only
     by_cases k1 : key = 116 <;> by_cases k2 : key = 84 <;> simp [ku, k1, k2] <;> omega
    ·(try simp only [aC] at h12)
     refine bY (aG (aW (bM O (dL O (dU O (Az results44 O O ?_))))))
     refine ⟨?_, HL⟩
     rw [sG (hE0 (by omega))]
     dsimp only
     by_cases k1 : key = 116 <;> by_cases k2 : key = 84 <;> simp [ku, k1, k2] <;> omega
 ·skip
  refine bM O (Z (cZ O O) (iZ O (fun h13 => ?_) (fun h13 => ?_)))
  ·(try simp only [aC] at h13)
   refine bn (bn (iM O O (iy (DC (aA (dL O (bD ?_)))))))
   refine cO (()) ?_ ?_ ?_
   ·exact (Sub.eP O (by congr 1; unfold ku; first | rw [if_pos (by omega)] | rw [if_neg (by omega)]) (Sub.nil _))
   ·exact Nz
   ·(try dsimp only)
    first | done | exact H
  ·(try simp only [aC] at h13)
   refine bg (bG O (bg (Z (cZ O O) (gI O O (gQ O (fun h14 => ?_) (fun h14 => ?_))))))
   ·(try simp only [aC] at h14)
    refine aA (dL O (bD ?_))
    refine cO (()) ?_ ?_ ?_
    ·exact (Sub.eP O (by congr 1; unfold ku; first | rw [if_pos (by omega)] | rw [if_neg (by omega)]) (Sub.nil _))
    ·exact Nz
    ·(try dsimp only)
     first | done | exact H
   ·(try simp only [aC] at h14)
    refine bY ?_
    refine cO (()) ?_ ?_ ?_
    ·exact (Sub.eP O (by congr 1; unfold ku; first | rw [if_pos (by omega)] | rw [if_neg (by omega)]) (Sub.nil _))
    ·exact Nz
    ·(try dsimp only)
     first | done | exact H
theorem Y0 (H : V w0 w F) (hs : Conv.runesFrom s s.size 0 #[] = ((xU s).map (Value.int .i32)).toArray) (hb : (xU s).length ≤ 1000) : ig prog 53 #[.int .i32 r, .string s] w fun u w' => u = .bool (decide (r ∈ xU s)) ∧ V w0 w' F := by
 refine nC func53 ntmps53 ?_
 refine jy O (bM O (jL (Fp H fB aj aQ O hs (by omega)) ?_))
 rintro u w1 H1
 refine tX O (jy O (aV ?_))
 refine dJ [(0, _), (5, _)] (fun (k : Nat) => [(6, .int .i64 (k : Int))]) (fun (k : Nat) W => (k ≤ (xU s).length ∧ ∀ j, j < k → ¬ (xU s).getD j 0 = r) ∧ V w0 W (lD 21 .i32 u (xU s) • F)) (fun (k : Nat) => (xU s).length - k) (0) mW ji ⟨⟨by omega, fun j h => by omega⟩, H1⟩ ?_
 rintro k w2 ⟨⟨hk, hno⟩, HL⟩
 dsimp only [List.cons_append, List.nil_append]
 refine aK (bM O (bG O (Z (fO ((HL).aY) aj O) (Z (fF O O) (gQ O (fun h1 => ?_) (fun h1 => ?_))))))
 ·(try simp only [aC] at h1)
  refine fG (aK (aV (bM O (bG O ?_))))
  obtain ⟨bu, ou, cu, eu⟩ := dR.nJ ((HL).aY) (by omega)
  cases eu
  refine Z (dh aj bF O O (by omega)) ?_
  refine Z (dH (bT aQ O) O (by first | exact dR.jo ((HL).aY) (by omega) | exact dR.qB ((HL).aY) (by omega) | exact dR.qx ((HL).aY) (by omega))) ?_
  refine bG O (Z (cZ O O) (gQ O (fun h2 => ?_) (fun h2 => ?_)))
  ·(try simp only [aC] at h2)
   have heq : (xU s).getD k 0 = r := h2
   refine jB O (aN (ay (ay (aN (ay (dF results53 O ?_))))))
   exact ⟨by rw [decide_eq_true (by rw [← heq, List.getD_eq_getElem?_getD, List.getElem?_eq_getElem (by omega)]; exact List.getElem_mem _)], HL.right⟩
  ·(try simp only [aC] at h2)
   have hne : ¬ (xU s).getD k 0 = r := h2
   refine bY (aG (aW (aA (bG O (Z (dP O O (by omega)) (dL O (bD ?_)))))))
   refine bZ (k + 1) ?_ ?_ ?_ ?_
   ·exact ji
   ·exact mW
   ·(try dsimp only)
    first | done | exact ⟨⟨by omega, fun j h => if e : j = k then (by rw [e]; exact hne) else hno j (by omega)⟩, HL⟩
   ·(try dsimp only); omega
 ·(try simp only [aC] at h1)
  refine bQ (aB (aB (aU (aW (jB O (dF results53 O ?_))))))
  exact ⟨by rw [decide_eq_false (fun h => by obtain ⟨j, hj, e⟩ := List.getElem_of_mem h; exact hno j (by omega) (by rw [List.getD_eq_getElem?_getD, List.getElem?_eq_getElem hj]; exact e))], HL.right⟩
end
end Go.Proofs.YtpdeedplgmbopaaGreatDoor
end
section
namespace Go.Proofs.YtpdeedplgmbopaaGreatDoor
open Go.RowKit
def acB (l : List qQ) : Int := if l.any (fun x => decide (16384 < x.1.size)) then 3 else if l.any (fun x => decide (x.2 < 0)) then 1 else 0
section
variable {P : Program} {L : List (Nat × Value)} {w0 w : World} {F : HP} {p : Nat} {hl l : List qQ} {base most : Int} {v : Value}
def Z5 (hl : List qQ) (most : Int) : Nat := hl.length - most.toNat
def ad3 (hl : List qQ) (most : Int) (l : List qQ) : List qQ := if acB l = 0 then (hl ++ l).drop (Z5 (hl ++ l) most) else hl
def ad4 (hl : List qQ) (base most : Int) (l : List qQ) : Int := if acB l = 0 then base + Z5 (hl ++ l) most else base
end
def aff (l : List qQ) : List qQ := ad3 [] 4096 l
def afg (l : List qQ) : Int := ad4 [] 1 4096 l
end Go.Proofs.YtpdeedplgmbopaaGreatDoor
end
section
namespace Go.Proofs.YtpdeedplgmbopaaGreatDoor
open Go.RowKit
open _root_.Go.Proofs.Tryz
theorem BU.cut {I : Hp} {v : Value} {sz n : Nat} {xs : List Value} (hr : BU I sz v n xs) {l h : Nat} (h1 : l ≤ h) (h2 : h ≤ n) : BU I sz (xP sz l h v) (h - l) ((xs.drop (l * sz)).take ((h - l) * sz)) := by
  obtain ⟨hl, a, c, rfl, hc1, hc2, hc⟩ := hr
  refine ⟨?_, GU a l c sz, c - l, rfl, by omega, by omega, fun hp => ?_⟩
  · rw [List.length_take, List.length_drop, hl, ← Nat.sub_mul]
    exact Nat.min_eq_left (Nat.mul_le_mul_right _ (by omega))
  · obtain ⟨b, o, cs, e, fr, rfl, hI, hcell⟩ := hc (by omega)
    have : ¬ c = l := by omega
    refine ⟨b, o + l * sz, cs, e, fr, by simp [GU, this, wW], hI, fun j hj => ?_⟩
    have e1 : l * sz + (h - l) * sz = h * sz := by rw [← Nat.add_mul]; congr 1; omega
    have e2 : h * sz ≤ n * sz := Nat.mul_le_mul_right _ h2
    have := hcell (l * sz + j) (by omega)
    rw [Nat.add_assoc, this, List.getD_eq_getElem?_getD, List.getD_eq_getElem?_getD, List.getElem?_take, if_pos hj, List.getElem?_drop]
def hlK (v : Value) (l : List qQ) : HP := know (fun I => BU I 2 v l.length (l.flatMap Ad)) fun _ _ hl h => h.mono hl
def jF (p : Nat) (hl : List qQ) (base most : Int) : HP := uf fun (v : Value) => fact (HOk hl base most) • dS p (.cells #[v, .int .i64 base, .int .i64 most] 155 (0, 0)) • hlK v hl
section
variable {P : Program} {L : List (Nat × Value)} {w0 w : World} {F : HP} {p : Nat} {hl l : List qQ} {base most : Int} {v : Value}
theorem V.IE (H : V w0 w (hlK v l • F)) : Rd w 2 v l.length (l.flatMap Ad) := let ⟨I, h, hI⟩ := H.rJ; h.rd hI
theorem V.KG (H : V w0 w (Row 218 2 v l.length (l.flatMap Ad) • F)) : V w0 w (hlK v l • F) := by
  have hl := H.xZ
  rcases H.vF with ⟨a, rfl, h1, h2, H1⟩ | ⟨g, o, c, cur, rfl, h2, h3, h4, h5, H1⟩
  · exact H1.wI fun I => ⟨hl, a, 0, by rw [h1], by omega, by decide, fun h => by omega⟩
  · exact H1.freeze.EF (pI (fun I hI => ⟨hl, _, c, rfl, h2, h3, fun _ => ⟨g, o, cur, _, (0, 0), rfl, hI, h5⟩⟩) F)
theorem V.SI (H : V w0 w (jF p hl base most • F)) : ∃ v, HOk hl base most ∧ V w0 w (dS p (.cells #[v, .int .i64 base, .int .i64 most] 155 (0, 0)) • hlK v hl • F) := by
  obtain ⟨v, H⟩ := H.lZ
  obtain ⟨h, H⟩ := H.flat.fact
  exact ⟨v, h, H.flat⟩
theorem V.Ee (h : HOk hl base most) (H : V w0 w (dS p (.cells #[v, .int .i64 base, .int .i64 most] 155 (0, 0)) • hlK v hl • F)) : V w0 w (jF p hl base most • F) :=
  V.iV v (V.deep (V.kR h H.deep))
theorem aaY {l : List qQ} {k : Nat} (hk : k < l.length) : (l.flatMap Ad).getD (k * 2 + 0) undef = .string (l.getD k default).1 := by
  have h := congrArg (fun x => x.getD 0 undef) (uy Kz hk default)
  simp only [List.getD_eq_getElem?_getD, List.getElem?_take, List.getElem?_drop] at h ⊢
  exact h
theorem JD {n : Int} (H : V w0 w F) (hn : 0 ≤ n ∧ n ≤ 4096) : ig prog 56 #[.int .i64 n] w fun v w' => ∃ p, v = .tuple #[.pointer (some ⟨p, 0, none⟩), .int .i64 0] ∧ V w0 w' (jF p [] 1 n • F) := by
  refine iK func56 ntmps56 ?_
  refine gW (dL O (tX O (bM O (Z (fF O O) (iZ O (fun h1 => ?_) (fun h1 => ?_))))))
  · (try simp only [aC] at h1)
    exfalso; first | contradiction | omega
  · (try simp only [aC] at h1)
    refine bg (bG O (bg (Z (iw O O) (gI O O (gQ O (fun h2 => ?_) (fun h2 => ?_))))))
    · (try simp only [aC] at h2)
      exfalso; first | contradiction | omega
    · (try simp only [aC] at h2)
      refine fG (bM O ?_)
      refine Z (eX (zl := [.slice none 0 0, .int .i64 0, .int .i64 0]) (pl := [(0, 1), (1, 1), (2, 1)]) [_, _, _] lg zeroValue155 O (fun w => by kernel_rfl) O (.zero (zs := [.slice none 0 0]) O (.on (.on .nil))) O) ?_
      refine jL (jf (l := [_, _, _]) H O O) ?_
      rintro _ w1 ⟨b1, rfl, H1⟩
      refine dL O (dU O (Az results56 O O ?_))
      exact ⟨_, O, V.Ee (v := .slice none 0 0) (hl := []) ⟨by simp, by decide, by decide, by simp; omega, by omega, by simp⟩ ((H1.jk none).KG (l := [])).swap⟩
theorem F8 (H : V w0 w (jF p hl base most • F)) : ig prog 113 #[.pointer (some ⟨p, 0, none⟩)] w fun v w' => ∃ q, v = .pointer (some ⟨q, 0, none⟩) ∧ V w0 w' (jF q hl base most • jF p hl base most • F) := by
 refine iK func113 ntmps113 ?_
 refine jy O (aK ?_)
 obtain ⟨Qy, Cb, Aj⟩ := (H).SI
 have hkl := Cb.1
 have OB := @Sj hl
 have Qv := Aj.drew
 have oQ := V.kp (Qv.f2.f2)
 refine yY [3, 8, 12] oQ O (jW 0 O oQ O (kV 1 O oQ O (iJ 2 O oQ 0 lg O sizeOf149 O (kK 3 O oQ (fun W hW => kQ fZ O ((Kp.h hW)).get.2 O) (jW 5 O oQ O (kV 6 O oQ O (iJ 7 O oQ 1 lg O sizeOf2 O (kK 8 O oQ (fun W hW => kQ underlying2 O ((Kp.h hW)).get.2 O) (jW 9 O oQ O (kV 10 O oQ O (iJ 11 O oQ 2 lg O aF O (kK 12 O oQ (fun W hW => kQ aP O ((Kp.h hW)).get.2 O) (oV 4 O (gZ (Qv.jk none) fZ aaZ O O O ((Qv.f2).IE) (by assumption) (by omega) (by omega)) ?_)))))))))))))
 rintro l2 w2 H2
 have yD := V.kp (H2.f3.f3.f3)
 refine eU yD (fun W hW => (Kp.h hW).right.f2.f2) ?_
 refine jQ 13 O yD (fun _ => eX (zl := [.slice none 0 0, .int .i64 0, .int .i64 0]) (pl := [(0, 1), (1, 1), (2, 1)]) [_, _, _] lg zeroValue155 O (fun w => by kernel_rfl) O (.one (Rd.one ((H2).aY)) (.on (.on .nil))) O) ?_
 refine oV 14 O (jf (l := [_, _, _]) H2 O O) ?_
 rintro _ w3 ⟨b3, rfl, H3⟩
 have zD := V.kp (H3.f4.f4.f4.f4)
 refine iD zD (by kernel_rfl) ?_
 refine jQ 15 O zD (fun _ => dY O) (sK (aW (mg (dF results113 O ?_))))
 have Ho5 := H3.f4.f4
 have Hc6 := V.Ee Cb Ho5
 have HQ := Hc6.f2.f3
 rw [List.nil_append, Nat.zero_add] at HQ
 exact ⟨_, O, V.Ee Cb HQ.KG.swap⟩
end
def strs (l : List ByteArray) : List Value := l.map Value.string
theorem KH {l : List ByteArray} : ∀ x ∈ strs l, x.oneCell' = true := by
  intro x hx
  obtain ⟨e, _, rfl⟩ := List.mem_map.1 hx
  rfl
def oM (hl : List qQ) : List ByteArray := hl.map (·.1) ++ [.empty]
section
variable {P : Program} {L : List (Nat × Value)} {w0 w : World} {F : HP} {p : Nat} {hl l : List qQ} {base most : Int} {v : Value}
theorem Um {hl : List qQ} {k : Nat} (hk : k < hl.length) : strs ((hl.take (k + 1)).map (·.1)) = strs ((hl.take k).map (·.1)) ++ [.string (hl.getD k default).1] := by
  unfold strs
  rw [List.take_succ_eq_append_getElem hk, List.map_append, List.map_append, List.getD_eq_getElem?_getD, List.getElem?_eq_getElem hk]; rfl
theorem JE (H : V w0 w (jF p hl base most • F)) : ig prog 114 #[.pointer (some ⟨p, 0, none⟩)] w fun v w' => ∃ q ov nv, v = .pointer (some ⟨q, 0, none⟩) ∧
  V w0 w' (dS q (.cells #[ov, nv, .int .i64 hl.length] 166 (0, 0)) • Row 9 1 ov (oM hl).length (strs (oM hl)) • Row 9 1 nv (oM hl).length (strs (oM hl)) • jF p hl base most • F) := by
 refine iK func114 ntmps114 ?_
 refine jy O (aK ?_)
 obtain ⟨Qy, Cb, Aj⟩ := (H).SI
 have hkl := Cb.1
 refine aA (nZ O O (bK 0 lg O sizeOf149 O (gJ fZ O (Aj).get.2 O (Z (jU ((Aj.f2).IE) fZ O) ?_))))
 refine Z (eX (zl := [.slice none 0 0, .slice none 0 0, .int .i64 0]) (pl := [(0, 1), (1, 1), (2, 1)]) [_, _, _] gV zeroValue166 O (fun w => by kernel_rfl) O (.zero (zs := [.slice none 0 0]) O (.zero (zs := [.slice none 0 0]) O (.on .nil))) O) ?_
 refine jL (jf (l := [_, _, _]) Aj O O) ?_
 rintro _ w2 ⟨b2, rfl, H2⟩
 refine tX O (jy O (aV ?_))
 refine dJ [(0, _), (3, _)] (fun (⟨k, u⟩ : Nat × Value) => [(4, .int .i64 (k : Int))]) (fun (⟨k, u⟩ : Nat × Value) W => k ≤ hl.length ∧ V w0 W (dS b2 (.cells #[u, .slice none 0 0, .int .i64 hl.length] 166 (0, 0)) • Row 9 1 u k (strs ((hl.take k).map (·.1))) • dS p (.cells #[Qy, .int .i64 base, .int .i64 most] 155 (0, 0)) • hlK Qy hl • F)) (fun (⟨k, u⟩ : Nat × Value) => hl.length - k) ((0, .slice none 0 0)) mW ji ⟨by omega, (H2.f3.f3.f3).jk none |>.swap⟩ ?_
 rintro ⟨k, u⟩ w3 ⟨hk, HL⟩
 dsimp only [List.cons_append, List.nil_append]
 refine aK (bM O (nZ O O (bK 0 lg O sizeOf149 O (gJ fZ O (HL.f3).get.2 O (Z (jU ((HL.f4).IE) fZ O) (Z (fF O O) (gQ O (fun h1 => ?_) (fun h1 => ?_))))))))
 ·(try simp only [aC] at h1)
  have hkl2 : k < hl.length := by have h9 := h1; omega
  refine fG (aK (aV ?_))
  have aa0 := HL.drew
  have yj := V.kp (aa0.f4.f4.f4.f4)
  refine yY [4, 8, 12] yj O (jW 0 O yj O (jW 1 O yj O (kV 2 O yj O (iJ 3 O yj 0 gV O sizeOf33 O (kK 4 O yj (fun W hW => kQ iP O ((Kp.h hW)).get.2 O) (jW 5 O yj O (kV 6 O yj O (iJ 7 O yj 0 lg O sizeOf149 O (kK 8 O yj (fun W hW => kQ fZ O ((Kp.h hW).f3).get.2 O) (jW 9 O yj O ?_))))))))))
  obtain ⟨acC, acD, acE, WJ⟩ := Rd.nJ ((aa0.f4).IE) (by omega)
  cases WJ
  refine jQ 10 O yj (fun _ => dh fZ sizeOf218 O O (by omega)) (iJ 11 O yj 0 lq O pK O (kK 12 O yj (fun W hW => Jq (dH (bT fB O) O (Rd.atS (((Kp.h hW).f4).IE) (by omega) (by decide))) (aaY hkl2)) (oV 13 O (kH (vs := [_]) aa0 iP pK zeroValue9 O O O (by decide) (aH bP)) ?_)))
  rintro l4 w4 H4
  have nK := V.kp (H4.f5.f5.f5.f5.f5)
  refine eU nK (fun W hW => (Kp.h hW).right.f4.f4.f4.f4) ?_
  refine oV 14 O (gZ H4.f3 iP Y1 O O O ((H4).aY) (aH bP) (by omega) (by omega)) ?_
  rintro l5 w5 H5
  have Hd6 := H5.f2.right
  have Dj := V.kp (Hd6.f4.f4.f4.f4)
  refine iD Dj (by kernel_rfl) ?_
  refine kV 15 O Dj O (iJ 16 O Dj 0 gV O sizeOf33 O ?_)
  refine gX 17 O (by kernel_rfl) (fQ 0 (l' := [_, _, _]) Hd6.f2 sizeOf33 O O (by first | rfl | exact Rd.one ((Hd6).aY)) O O) ?_
  rintro _ w7 H7
  have Jw := V.kp (H7.f4.f4.f4.f4)
  refine iD Jw (by kernel_rfl) ?_
  refine sK (aG (aW (aA (bG O (Z (dP O O (by omega)) (dL O (bD ?_)))))))
  refine bZ ((k + 1, l5)) ?_ ?_ ?_ ?_
  ·exact ji
  ·exact mW
  ·(try dsimp only)
   first | done | exact ⟨by omega, by rw [Um hkl2]; exact H7⟩
  ·(try dsimp only); omega
 ·(try simp only [aC] at h1)
  refine bQ (aB (aB (aU (aW (aK ?_)))))
  obtain rfl : k = hl.length := by omega
  refine aA (jr O O (dQ O (bK 0 gV O sizeOf33 O (gJ iP O (HL).get.2 O (jL (kH (vs := [_]) HL iP pK zeroValue9 O O O (by decide) (aH bP)) ?_)))))
  rintro l8 w8 H8
  refine jL (gZ H8.f3 iP Y1 O O O ((H8).aY) (aH bP) (by omega) (by omega)) ?_
  rintro l9 w9 H9
  have Y2 := H9.f2.right
  refine dQ O (bK 0 gV O sizeOf33 O (aO (fQ 0 (l' := [_, _, _]) Y2.f2 sizeOf33 O O (by first | rfl | exact Rd.one ((Y2).aY)) O O) ?_))
  rintro _ ED rM
  have HX := rM
  rw [List.take_length, show strs (hl.map (·.1)) ++ [Value.string { data := #[] }] = strs (oM hl) from by unfold oM strs; rw [List.map_append]; rfl, show hl.length + 1 = (oM hl).length from by simp [oM]] at HX
  have hon := @KH (oM hl)
  have hol : (oM hl).length = hl.length + 1 := by simp [oM]
  refine sH O (nZ O O (bK 0 gV O sizeOf33 O (gJ iP O (HX).get.2 O (jL (gZ (HX.jk none) iP Y1 O O O ((HX.f2).aY) (by assumption) (by omega) (by omega)) ?_))))
  rintro l12 w12 vX
  refine dQ O (bK 1 gV O sizeOf33 O (aO (fQ 1 (l' := [_, _, _]) vX.f2 sizeOf33 O O (by first | rfl | exact Rd.one ((vX).aY)) O O) ?_))
  rintro _ PO xM
  refine sH O (dU O (dF results114 O ?_))
  have aa1 := xM.f5.f5
  have aa2 := V.Ee Cb aa1
  have HQ := aa2.f3.f4.f4
  rw [List.nil_append, Nat.zero_add] at HQ
  exact ⟨_, _, _, O, HQ⟩
end
section
def acF : ByteArray := ⟨#[118, 105, 45, 97, 114, 103, 45, 100, 105, 103, 105, 116]⟩
def WM : ByteArray := ⟨#[118, 105, 45, 99, 104, 97, 110, 103, 101, 45, 99, 97, 115, 101]⟩
def Dk : ByteArray := ⟨#[118, 105, 45, 99, 104, 97, 110, 103, 101, 45, 99, 104, 97, 114]⟩
def Dl : ByteArray := ⟨#[118, 105, 45, 99, 104, 97, 110, 103, 101, 45, 116, 111]⟩
def WO : ByteArray := ⟨#[118, 105, 45, 100, 101, 108, 101, 116, 101]⟩
def zQ : ByteArray := ⟨#[118, 105, 45, 100, 101, 108, 101, 116, 101, 45, 116, 111]⟩
def WR : ByteArray := ⟨#[118, 105, 45, 105, 110, 115, 101, 114, 116]⟩
def tN : ByteArray := ⟨#[118, 105, 45, 109, 111, 118, 101]⟩
def aa3 : ByteArray := ⟨#[118, 105, 45, 109, 111, 118, 101, 109, 101, 110, 116, 45, 109, 111, 100, 101]⟩
def WS : ByteArray := ⟨#[118, 105, 45, 111, 118, 101, 114, 115, 116, 114, 105, 107, 101]⟩
def WT : ByteArray := ⟨#[118, 105, 45, 112, 117, 116]⟩
def aa4 : ByteArray := ⟨#[118, 105, 45, 114, 101, 100, 111]⟩
def ET : ByteArray := ⟨#[118, 105, 45, 115, 101, 116, 45, 109, 97, 114, 107]⟩
def WU : ByteArray := ⟨#[118, 105, 45, 115, 117, 98, 115, 116]⟩
def WV : ByteArray := ⟨#[118, 105, 45, 117, 110, 100, 111]⟩
def EU : ByteArray := ⟨#[118, 105, 45, 121, 97, 110, 107, 45, 116, 111]⟩
def Mc : List ByteArray := [acF, WM, Dk, Dl, WO, zQ, WR, tN, aa3, WS, WT, aa4, ET, WU, WV, EU]
def Bd (n : ByteArray) : Prop := ∃ k, k < 16 ∧ (Mc.getD k .empty).toList = n.toList
theorem WW {l : List ByteArray} {k : Nat} (hk : k < l.length) : (strs l).getD k undef = .string (l.getD k .empty) := by
  unfold strs; simp [List.getD_eq_getElem?_getD, hk]
def EW : ByteArray := ⟨#[102, 70, 116, 84, 96]⟩
def aa5 : ByteArray := ⟨#[100, 99, 121]⟩
def zn (n : ByteArray) (keys : List Int) : Prop :=
  if n.toList = tN.toList then keys.length = 1 ∧ keys.getD 0 0 ∈ xU EW
  else if n.toList = Dk.toList ∨ n.toList = ET.toList then keys.length = 1
  else if n.toList = zQ.toList ∨ n.toList = Dl.toList ∨ n.toList = EU.toList then
    keys.getD 0 0 ∈ xU aa5 ∧ ((lI (keys.drop 1)).length = 0 ∨ ((lI (keys.drop 1)).length = 1 ∧ (lI (keys.drop 1)).getD 0 0 ∈ xU EW))
  else False
open Classical in
noncomputable def pq (n : ByteArray) (keys : List Int) : Int := if ¬ Bd n then -1 else if keys.length = 0 then 1 else if zn n keys then 1 else 0
section
variable {n : ByteArray} {keys : List Int}
theorem Un (h : ¬ Bd n) : pq n keys = -1 := if_pos h
theorem WX (h : Bd n) (h0 : keys.length = 0) : pq n keys = 1 := by unfold pq; rw [if_neg (not_not_intro h), if_pos h0]
theorem OC (h : Bd n) (h1 : zn n keys) : pq n keys = 1 := by
  unfold pq; rw [if_neg (not_not_intro h), if_pos h1]; split <;> rfl
theorem IG (h : Bd n) (h0 : ¬ keys.length = 0) (h1 : ¬ zn n keys) : pq n keys = 0 := by unfold pq; rw [if_neg (not_not_intro h), if_neg h0, if_neg h1]
theorem gG (h : n.toList = tN.toList) : zn n keys ↔ (keys.length = 1 ∧ keys.getD 0 0 ∈ xU EW) := by unfold zn; rw [if_pos h]
theorem kJ (h1 : ¬ n.toList = tN.toList) (h : n.toList = Dk.toList ∨ n.toList = ET.toList) : zn n keys ↔ keys.length = 1 := by unfold zn; rw [if_neg h1, if_pos h]
theorem eY (h1 : ¬ n.toList = tN.toList) (h2 : ¬ (n.toList = Dk.toList ∨ n.toList = ET.toList)) (h : n.toList = zQ.toList ∨ n.toList = Dl.toList ∨ n.toList = EU.toList) :
    zn n keys ↔ (keys.getD 0 0 ∈ xU aa5 ∧ ((lI (keys.drop 1)).length = 0 ∨ ((lI (keys.drop 1)).length = 1 ∧ (lI (keys.drop 1)).getD 0 0 ∈ xU EW))) := by unfold zn; rw [if_neg h1, if_neg h2, if_pos h]
theorem vK (h1 : ¬ n.toList = tN.toList) (h2 : ¬ (n.toList = Dk.toList ∨ n.toList = ET.toList)) (h : ¬ (n.toList = zQ.toList ∨ n.toList = Dl.toList ∨ n.toList = EU.toList)) : ¬ zn n keys := by unfold zn; rw [if_neg h1, if_neg h2, if_neg h]; exact id
end
section
variable {w0 w : World} {F : HP} {v u : Value} {l : List ByteArray} {n : ByteArray} {keys : List Int}
theorem QH (H : V w0 w F) : ig prog 19 #[] w fun u w' => V w0 w' (Row 9 1 u 16 (strs Mc) • F) := by
  refine TK func19 ntmps19 ?_
  refine jy O (gW (jL (kH (vs := [_, _, _, _, _, _, _, _, _, _, _, _, _, _, _, _]) H iP pK zeroValue9 O O O (by decide) (aH (aH (aH (aH (aH (aH (aH (aH (aH (aH (aH (aH (aH (aH (aH (aH bP))))))))))))))))) ?_))
  rintro l1 w1 H1
  refine dU O (dF results19 O ?_)
  exact H1
theorem Uo (H : V w0 w F) (hr : TI w0 F 1 v l.length (strs l)) : ig prog 108 #[v, .string n] w fun u w' => ∃ i, u = .int .i64 i ∧ (0 ≤ i ↔ ∃ k, k < l.length ∧ (l.getD k .empty).toList = n.toList) ∧ V w0 w' F := by
 have SC : l.length ≤ 9223372036854775807 := by obtain ⟨_, a, c, _, h1, h2, _⟩ := hr w H; omega
 refine nC func108 ntmps108 ?_
 refine jy O (aK (bM O (Z (jU (hr _ (H)) iP O) (bG O (iy (aV ?_))))))
 refine dJ [(0, _), (1, _), (7, _)] (fun (k : Nat) => [(8, .int .i64 (k : Int))]) (fun (k : Nat) W => (k ≤ l.length ∧ ∀ j, j < k → ¬ (l.getD j .empty).toList = n.toList) ∧ V w0 W F) (fun (k : Nat) => l.length - k) (0) qC ji ⟨⟨by omega, fun j h => by omega⟩, H⟩ ?_
 rintro k w1 ⟨⟨hk, hno⟩, HL⟩
 dsimp only [List.cons_append, List.nil_append]
 refine gW (Z (fF O O) (qW (bI O (fun h1 => ?_) (fun h1 => ?_))))
 ·(try simp only [aC] at h1)
  refine fG (aK (aV (bM O (tX O ?_))))
  have hkl : k < l.length := by omega
  refine aA (jr O O (bG O ?_))
  obtain ⟨bv, ov, cv, ev⟩ := Rd.nJ (hr _ (HL)) (by omega)
  cases ev
  refine Z (dh iP pK O O (by omega)) ?_
  refine Z (Jq (dH (bT fB O) O (by first | exact Rd.jo (hr _ (HL)) (by omega) | exact Rd.qB (hr _ (HL)) (by omega) | exact Rd.qx (hr _ (HL)) (by omega))) (WW (l := l) hkl)) ?_
  refine Z (gY O O) (gQ O (fun h2 => ?_) (fun h2 => ?_))
  ·(try simp only [aC] at h2)
   have heq : n.toList = (l.getD k .empty).toList := h2
   refine bM O (dU O (aN (ay (ay (aN (ay (dF results108 O ?_)))))))
   exact ⟨_, O, ⟨fun _ => ⟨k, hkl, heq.symm⟩, fun _ => by omega⟩, HL⟩
  ·(try simp only [aC] at h2)
   have hne : ¬ n.toList = (l.getD k .empty).toList := h2
   refine bY (aG (aW (aA (Z (dP O O (by omega)) (bG O (bD ?_))))))
   refine bZ (k + 1) ?_ ?_ ?_ ?_
   ·exact ji
   ·exact qC
   ·(try dsimp only)
    first | done | exact ⟨⟨by omega, fun j h => if e : j = k then (by rw [e]; exact fun c => hne c.symm) else hno j (by omega)⟩, HL⟩
   ·(try dsimp only); omega
 ·(try simp only [aC] at h1)
  refine bQ (aB (aB (aU (aW (jB O (dF results108 O ?_))))))
  exact ⟨_, rfl, ⟨fun h => (by omega), fun ⟨j, h1, h2⟩ => absurd h2 (hno j (by omega))⟩, HL⟩
theorem QI (H : V w0 w F) (hr : TI w0 F 1 v l.length (strs l)) : ig prog 49 #[v, .string n] w fun u w' => ∃ b, u = .bool b ∧ (b = true ↔ ∃ k, k < l.length ∧ (l.getD k .empty).toList = n.toList) ∧ V w0 w' F := by
  refine nC func49 ntmps49 ?_
  refine jy O (bM O (bG O (dX O func108 (Uo H (fun W HW => hr _ (HW))) ?_)))
  rintro _ w1 ⟨i1, rfl, hi1, H1⟩
  refine Z (jw O O) (dU O (dF results49 O ?_))
  exact ⟨_, O, by rw [decide_eq_true_iff]; assumption, H1⟩
end
end
end Go.Proofs.YtpdeedplgmbopaaGreatDoor
end
