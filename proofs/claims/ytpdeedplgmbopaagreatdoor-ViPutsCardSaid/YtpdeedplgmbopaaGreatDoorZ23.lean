import Derived.Test.YtpdeedplgmbopaaGreatDoorZ4
import Derived.Test.YtpdeedplgmbopaaGreatDoorZ22
import Derived.Test.YtpdeedplgmbopaaGreatDoorCards
import Derived.Test.YtpdeedplgmbopaaGreatDoorZ5
import Derived.SevenTiedAt
set_option linter.unusedSimpArgs false
set_option linter.unusedVariables false
/- ViPuts in its first form, as the card states it, for whatever the program's variables hold as its text lays them. No condition beside the form's own.
Texts of mine, joined, their names in short: LawVPuts HasVPuts. -/
section
namespace Go.Proofs.YtpdeedplgmbopaaGreatDoor
open Go.RowKit
open _root_.Go.Proofs.Tryz
theorem Yb : AU Fa := ⟨4, by decide, rfl⟩
theorem Yc : AU GU := ⟨10, by decide, rfl⟩
theorem ab2 : nM Fa [120] = 0 := DU Yb (by decide) (uz (kV (by decide)) (by rintro (h | h) <;> exact absurd h (kV (by decide))) (by rintro (h | h | h) <;> exact absurd h (kV (by decide))))
theorem ab3 (k : Int) : nM GU [k] = 0 := DU Yc (by simp) (uz (kV (by decide)) (by rintro (h | h) <;> exact absurd h (kV (by decide))) (by rintro (h | h | h) <;> exact absurd h (kV (by decide))))
theorem CJ : pU GU = ⟨#[112, 80]⟩ := by
  unfold pU
  rw [if_neg (kV (by decide)), if_neg (kV (by decide)), if_neg (kV (by decide)), if_neg (kV (by decide)), if_neg (kV (by decide)), if_pos rfl]
namespace bn
variable (s : bn)
def Ee (keys : List Int) (n : Int) : Int × bn := if keys.getD 0 0 ∈ zW ⟨#[112, 80]⟩ then s.LX keys n else (6, s)
end bn
section
variable {w0 w : World} {F : HP} {m e : Nat} {s : bn} {keys : List Int} {kv lv : Value} {M : VM} {n at_ : Int} {g : Bool} {line : List Int}
theorem aaH (hk1 : 1 ≤ keys.length) (hn : 1 ≤ n ∧ n ≤ 1000000) : Z8 w0 GU keys n g s M fun x t M' => x = (s.Ee keys n).1 ∧ t = (s.Ee keys n).2 ∧ M' = M := by
 intro F w c m e kv lv H hk
 refine iZ func124 ntmps124 ?_
 refine jQ O (aN (bQ O (dK O (bJ 2 bC O nD O (fM jS O (H).get.2 O (dS O func160 (D9) ?_))))))
 rintro _ _ ⟨rfl, rfl⟩
 refine fG O (bQ O (Z (Ei O O) (jG O (fun h1 => ?_) (fun h => by exfalso; (try simp only [aA] at h); exact absurd h (by rw [CJ]; exact kV (by decide))))))
 (try simp only [aA] at h1)
 refine bg (bT O (bg (dK O (bg (bJ 3 bC O dh O (bg (fM aj O (H).get.2 O (bg ?_))))))))
 obtain ⟨bkv, okv, ckv, ekv⟩ := gJ.rM (hk _ (H.right.right.right.right)) (by omega)
 cases ekv
 refine Z (dP aj bZ O O (by omega)) (bg ?_)
 refine Z (fK (dA bG O) O (by first | exact gJ.ni (hk _ (H.right.right.right.right)) (by omega) | exact gJ.yc (hk _ (H.right.right.right.right)) (by omega) | exact gJ.yx (hk _ (H.right.right.right.right)) (by omega))) ?_
 refine bg (bT O (bg (dS O func50 (BZ (by rw [CJ]; decide)) ?_)))
 rintro _ _ ⟨rfl, rfl⟩
 refine bg (Z (lJ O) (iU O O (jB O (fun h2 => ?_) (fun h2 => ?_))))
 ·(try simp only [aA] at h2)
  have hin : ¬ keys.getD 0 0 ∈ zW ⟨#[112, 80]⟩ := by have h9 := h2; rw [CJ] at h9; exact h9
  refine jM O (aB (dL results124 O ?_))
  exact ⟨_, _, _, ⟨by unfold bn.Ee; rw [if_neg hin], by unfold bn.Ee; rw [if_neg hin], O⟩, O, H.f4.f4.f4.f4⟩
 ·(try simp only [aA] at h2)
  have hin : keys.getD 0 0 ∈ zW ⟨#[112, 80]⟩ := by have h9 := h2; rw [CJ] at h9; exact h9
  refine gG (aN (bQ O (dK O (bJ 2 bC O nD O (fM jS O (H).get.2 O (iJ (aY (iR (Z (dU O O) (fG O (bD O (fun h => by exfalso; (try simp only [aA] at h); exact absurd h (kV (by decide))) (fun h3 => ?_))))))))))))
  (try simp only [aA] at h3)
  refine iR (Z (dU O O) (fG O (bD O (fun h => by exfalso; (try simp only [aA] at h); exact absurd h (kV (by decide))) (fun h4 => ?_))))
  (try simp only [aA] at h4)
  refine aN (iR (Z (dU O O) (fG O (bD O (fun h => by exfalso; (try simp only [aA] at h); exact absurd h (kV (by decide))) (fun h5 => ?_)))))
  (try simp only [aA] at h5)
  refine iR (Z (dU O O) (fG O (bD O (fun h => by exfalso; (try simp only [aA] at h); exact absurd h (kV (by decide))) (fun h6 => ?_))))
  (try simp only [aA] at h6)
  refine aC (Z (dU O O) (fG O (bD O (fun h => by exfalso; (try simp only [aA] at h); exact absurd h (kV (by decide))) (fun h7 => ?_))))
  (try simp only [aA] at h7)
  refine iR (Z (dU O O) (fG O (bD O (fun h => by exfalso; (try simp only [aA] at h); exact absurd h (kV (by decide))) (fun h8 => ?_))))
  (try simp only [aA] at h8)
  refine iR (Z (dU O O) (fG O (bD O (fun h => by exfalso; (try simp only [aA] at h); exact absurd h (kV (by decide))) (fun h9 => ?_))))
  (try simp only [aA] at h9)
  refine aN (iR (Z (dU O O) (fG O (bD O (fun h => by exfalso; (try simp only [aA] at h); exact absurd h (kV (by decide))) (fun h10 => ?_)))))
  (try simp only [aA] at h10)
  refine aC (Z (dU O O) (fG O (bD O (fun h => by exfalso; (try simp only [aA] at h); exact absurd h (kV (by decide))) (fun h11 => ?_))))
  (try simp only [aA] at h11)
  refine iR (Z (dU O O) (fG O (bD O (fun h12 => ?_) (fun h => by exfalso; (try simp only [aA] at h); exact h O))))
  (try simp only [aA] at h12)
  refine bQ O (dS O func167 (aaF H.f4.f3.f3 (fun W HW => hk _ (HW.right)) hk1 hn) ?_)
  rintro _ w3 ⟨rfl, H3⟩
  refine fB O (aT (aB (dL results124 O ?_)))
  exact ⟨_, _, _, ⟨by unfold bn.Ee; rw [if_pos hin], by unfold bn.Ee; rw [if_pos hin], O⟩, O, H3.f3.f4.f4.f4⟩
theorem aaI (H : V w0 w (oQ m M • eP e s • F)) (hi : s.inn = false) (hk : jF w0 F .i32 kv keys) (hkl : keys.length * 4 ≤ 140737488355328) (hk1 : 1 ≤ keys.length) (hw : nM Fa keys = 0) :
    iE prog 24 #[.pointer (some ⟨m, 0, none⟩), .pointer (some ⟨e, 0, none⟩), .string Fa, kv] w fun v w' => ∃ M', v = .int .i64 ((s.aV.BF keys (max s.aV.count 1)).Oo (s.aV.BD keys (max s.aV.count 1))) ∧ V w0 w' (oQ m M' • eP e ((s.aV.BF keys (max s.aV.count 1)).Tv (s.aV.BD keys (max s.aV.count 1))) • F) := by
  have hco := Ez s (P7 H.f2)
  refine (P8 H hi hk hkl hw (aai hk1 ?_)).mono ?_
  · rw [yT]; omega
  · rintro v w' ⟨x, t, M', ⟨rfl, rfl, rfl⟩, rfl, H⟩
    exact ⟨_, rfl, H⟩
theorem Yd (H : V w0 w (oQ m M • eP e s • F)) (hi : s.inn = false) (hk : jF w0 F .i32 kv keys) (hkl : keys.length * 4 ≤ 140737488355328) (hk1 : 1 ≤ keys.length) (hw : nM GU keys = 0) :
    iE prog 24 #[.pointer (some ⟨m, 0, none⟩), .pointer (some ⟨e, 0, none⟩), .string GU, kv] w fun v w' => ∃ M', v = .int .i64 ((s.aV.Ee keys (max s.aV.count 1)).2.Oo (s.aV.Ee keys (max s.aV.count 1)).1) ∧ V w0 w' (oQ m M' • eP e ((s.aV.Ee keys (max s.aV.count 1)).2.Tv (s.aV.Ee keys (max s.aV.count 1)).1) • F) := by
  have hco := Ez s (P7 H.f2)
  refine (P8 H hi hk hkl hw (aaH hk1 ?_)).mono ?_
  · rw [yT]; omega
  · rintro v w' ⟨x, t, M', ⟨rfl, rfl, rfl⟩, rfl, H⟩
    exact ⟨_, rfl, H⟩
theorem Tj {w : World} (hT : Aq w) (g : gJ w .i32 lv line) (hx : ¬ ((0 ≤ at_ ∧ at_ < line.length) ∧ line.length ≤ 1024 ∧ 1 ≤ n ∧ n ≤ 1000000)) :
    iE prog 8 #[lv, .int .i64 at_, .int .i64 n] w fun v w' => v = .bool true ∧ Below w.heap.size w w' := by
  obtain ⟨F, H⟩ : ∃ F, V w w F := ⟨_, V.start w⟩
  have hv : jF w F .i32 lv line := jF.JR g F
  refine zT func8 ntmps8 ?_
  refine jQ O (bQ O (dS O func21 (IG H (fun W HW => hv _ (HW))) ?_))
  rintro _ w1 ⟨e1, y1, rfl, H1⟩
  refine bT O (uH O O (uH O O (uH O O (iK O (iK O (fG O (iR (dS O func22 (FU H1) ?_))))))))
  rintro _ w2 ⟨m2, rfl, H2⟩
  refine uZ O (bQ O (Z (lJ O) (Yh O (fun h1 => ?_))))
  (try simp only [aA] at h1)
  refine bg (bT O (bg (Z (jy jJ O O) (iH O O (Yh O (fun h2 => ?_))))))
  (try simp only [aA] at h2)
  refine bg (bT O (bg (Z (fZ O O) (iH O O (jG O (fun h3 => ?_) (fun h3 => ?_))))))
  · (try simp only [aA] at h3)
    refine bF (bF (bF (bF (iU O O (bT O (bF (bF (bF (iU O O (bT O (bF (bF (iU O O (bT O (bF (bF (iU O O (bT O (bF (bF (iU O O (iJ (CP (bQ O (bT O (bg (bT O (bg (Z (wH jJ O O) (iU O O (xsE O (fun h4 => ?_))))))))))))))))))))))))))))))))
    (try simp only [aA] at h4)
    refine bg (dS O func13 (yZ H2 hT) ?_)
    rintro _ w3 ⟨rfl, H3⟩
    refine iU O O (fB O (aB (dL results8 O ?_)))
    exact ⟨O, H3.base⟩
  · (try simp only [aA] at h3)
    refine bg (bT O (bg (bT O (bg (Z (iM (hv _ (H2.right.right.right)) aj O) (bg (Z (lV O O) (iH O O (jG O (fun h5 => ?_) (fun h5 => ?_))))))))))
    · (try simp only [aA] at h5)
      refine bF (bF (bF (iU O O (bT O (bF (bF (iU O O (bT O (bF (bF (iU O O (bT O (bF (bF (iU O O (iJ (CP (bQ O (bT O (bg (bT O (bg (Z (wH jJ O O) (iU O O (xsE O (fun h6 => ?_))))))))))))))))))))))))))
      (try simp only [aA] at h6)
      refine bg (dS O func13 (yZ H2 hT) ?_)
      rintro _ w4 ⟨rfl, H4⟩
      refine iU O O (fB O (aB (dL results8 O ?_)))
      exact ⟨O, H4.base⟩
    · (try simp only [aA] at h5)
      refine bg (bT O (bg (Z (iM (hv _ (H2.right.right.right)) aj O) (bg (Z (dY O O) (iH O O (jG O (fun h7 => ?_) (fun h7 => ?_))))))))
      · (try simp only [aA] at h7)
        refine bF (bF (iU O O (bT O (bF (bF (iU O O (bT O (bF (bF (iU O O (iJ (CP (bQ O (bT O (bg (bT O (bg (Z (wH jJ O O) (iU O O (xsE O (fun h8 => ?_)))))))))))))))))))))
        (try simp only [aA] at h8)
        refine bg (dS O func13 (yZ H2 hT) ?_)
        rintro _ w5 ⟨rfl, H5⟩
        refine iU O O (fB O (aB (dL results8 O ?_)))
        exact ⟨O, H5.base⟩
      · (try simp only [aA] at h7)
        refine bg (bT O (bg (Z (fZ O O) (iH O O (jG O (fun h9 => ?_) (fun h9 => ?_))))))
        · (try simp only [aA] at h9)
          refine bF (bF (iU O O (bT O (bF (bF (iU O O (iJ (CP (bQ O (bT O (bg (bT O (bg (Z (wH jJ O O) (iU O O (xsE O (fun h10 => ?_)))))))))))))))))
          (try simp only [aA] at h10)
          refine bg (dS O func13 (yZ H2 hT) ?_)
          rintro _ w6 ⟨rfl, H6⟩
          refine iU O O (fB O (aB (dL results8 O ?_)))
          exact ⟨O, H6.base⟩
        · (try simp only [aA] at h9)
          refine bg (bT O (bg (Z (dY O O) (iH O O (jG O (fun h11 => ?_) (fun h => by exfalso; (try simp only [aA] at h); omega))))))
          (try simp only [aA] at h11)
          refine bF (bF (iU O O (iJ (CP (bQ O (bT O (bg (bT O (bg (Z (wH jJ O O) (iU O O (xsE O (fun h12 => ?_)))))))))))))
          (try simp only [aA] at h12)
          refine bg (dS O func13 (yZ H2 hT) ?_)
          rintro _ w7 ⟨rfl, H7⟩
          refine iU O O (fB O (aB (dL results8 O ?_)))
          exact ⟨O, H7.base⟩
theorem Vp {w : World} (hT : Aq w) (g : gJ w .i32 lv line) (hx : (0 ≤ at_ ∧ at_ < line.length) ∧ line.length ≤ 1024 ∧ 1 ≤ n ∧ n ≤ 1000000) :
  iE prog 8 #[lv, .int .i64 at_, .int .i64 n] w fun v w' => v = .bool true ∧ Below w.heap.size w w' := by
 obtain ⟨F, H⟩ : ∃ F, V w w F := ⟨_, V.start w⟩
 have hv : jF w F .i32 lv line := jF.JR g F
 have hA : line.length ≤ 1024 := by omega
 have hb := ab1 hA
 obtain ⟨s0, hs0⟩ : ∃ s0, s0 = xg line := ⟨_, rfl⟩
 rw [← hs0] at hb
 have hz := OA (s := s0) (L := line) (x := at_) (a := at_) hb.inn hb.given hb.L hb.E (Ti (by omega)) (by omega)
 have hzm : ((s0.aV.lC at_).jY 0).c.mode = 2 := by
  rw [IJ _ (by rw [(Hr (mW s0) (by rw [eH, hb.L]; omega)).2]; exact mW s0), (Hr (mW s0) (by rw [eH, hb.L]; omega)).2]
  show s0.aV.c.mode = 2
  rw [eH, hb.mode]
 obtain ⟨s1, hs1⟩ : ∃ s1, s1 = (s0.aV.lC at_).jY 0 := ⟨_, rfl⟩
 rw [← hs1] at hz hzm
 obtain ⟨ha0, ha, hac, haE, ham⟩ := VK.arg hz.1 hz.2.2 (n := n) (by omega)
 obtain ⟨s2, hs2⟩ : ∃ s2, s2 = s1.Vj n := ⟨_, rfl⟩
 have hs2' : (s1.aV.FH n).jY 0 = s2 := by rw [hs2]; unfold bn.Vj; rw [ha0]
 rw [← hs2] at ha hac haE ham
 have hm2 : max s2.aV.count 1 = n := by rw [hac]; omega
 have hd := VP.del (keys := [120]) (n := n) ha haE (ham.trans hzm) hA rfl (by omega) (by omega)
 obtain ⟨s3, hs3⟩ : ∃ s3, s3 = (s2.aV.BF [120] n).Tv (s2.aV.BD [120] n) := ⟨_, rfl⟩
 rw [← hs3] at hd
 obtain ⟨k, hk⟩ : ∃ k : Int, k = min n (line.length - at_) := ⟨_, rfl⟩
 rw [← hk] at hd
 have hl3 : (s3.c.L.length : Int) = line.length - k := by rw [hd.2.L]; simp; omega
 have hm3 : max s3.aV.count 1 = 1 := by rw [Tf hd.2.inn hd.2.given]; rfl
 obtain ⟨x, hx9⟩ : ∃ x : Int, x = if at_ + k = line.length ∧ 0 < at_ then 112 else 80 := ⟨_, rfl⟩
 have hp9 : s3.aV.Ee [x] 1 = s3.aV.LX [x] 1 := if_pos (by show x ∈ _; rw [hx9]; split <;> decide)
 have hP := VP.put (keys := [x]) hd.2 hA hx9
 rw [← hp9] at hP
 refine zT func8 ntmps8 ?_
 refine jQ O (bQ O (dS O func21 (IG H (fun W HW => hv _ (HW))) ?_))
 rintro _ w1 ⟨e1, y1, rfl, H1⟩
 have HX := H1
 rw [← hs0] at HX
 have Hd2 := HX.f2.right
 refine bT O (uH O O (uH O O (uH O O (iK O (iK O (fG O (iR (dS O func22 (FU Hd2) ?_))))))))
 rintro _ w3 ⟨m3, rfl, H3⟩
 refine uZ O (bQ O (Z (lJ O) (Yh O (fun h1 => ?_))))
 (try simp only [aA] at h1)
 refine bg (bT O (bg (Z (jy jJ O O) (iH O O (Yh O (fun h2 => ?_))))))
 (try simp only [aA] at h2)
 refine bg (bT O (bg (Z (fZ O O) (iH O O (jG O (fun h => by exfalso; (try simp only [aA] at h); omega) (fun h3 => ?_))))))
 (try simp only [aA] at h3)
 refine bg (bT O (bg (bT O (bg (Z (iM (hv _ (H3.right.right)) aj O) (bg (Z (lV O O) (iH O O (jG O (fun h => by exfalso; (try simp only [aA] at h); omega) (fun h4 => ?_))))))))))
 (try simp only [aA] at h4)
 refine bg (bT O (bg (Z (iM (hv _ (H3.right.right)) aj O) (bg (Z (dY O O) (iH O O (jG O (fun h => by exfalso; (try simp only [aA] at h); omega) (fun h5 => ?_))))))))
 (try simp only [aA] at h5)
 refine bg (bT O (bg (Z (fZ O O) (iH O O (jG O (fun h => by exfalso; (try simp only [aA] at h); omega) (fun h6 => ?_))))))
 (try simp only [aA] at h6)
 refine bg (bT O (bg (Z (dY O O) (iH O O (jG O (fun h => by exfalso; (try simp only [aA] at h); omega) (fun h7 => ?_))))))
 (try simp only [aA] at h7)
 refine bg (dS O func13 (yZ H3 hT) ?_)
 rintro _ w4 ⟨rfl, H4⟩
 refine bg (Z (lJ O) (iH O O (iJ (Qg O (fun h8 => ?_)))))
 (try simp only [aA] at h8)
 refine gG (bQ O (dS O func29 (yO H4.f2) ?_))
 rintro _ w5 ⟨rfl, H5⟩
 refine rG O (bT O (dS O func30 (uY H5) ?_))
 rintro _ w6 ⟨rfl, H6⟩
 refine rG O (dS O func31 (zM H6) ?_)
 rintro _ w7 ⟨rfl, H7⟩
 have HX := H7
 rw [← hs1] at HX
 refine rG O (dS O func29 (yO HX) ?_)
 rintro _ w8 ⟨rfl, H8⟩
 refine rG O (bT O (dS O func32 (UH H8) ?_))
 rintro _ w9 ⟨rfl, H9⟩
 refine rG O (dS O func31 (zM H9) ?_)
 rintro _ w10 ⟨rfl, pR⟩
 have HX := pR
 rw [hs2'] at HX
 refine qQ (bQ O (bT O (kD (uI (k := .i32) (l := [120]) HX aj bZ sH O O O (by decide)) ?_)))
 rintro l11 Fv tq
 refine dS O func24 (aaI (s := s2) (keys := [120]) tq.f2.f3 ha.inn (fun W HW => (HW).aS) (by decide) (by decide) ab2) ?_
 rintro _ w12 ⟨M12, rfl, vZ⟩
 have HX := vZ
 rw [hm2, ← hs3] at HX
 refine Z (ig O O) (jB O (fun h => by exfalso; (try simp only [aA] at h); exact h (by rw [hm2]; exact hd.1)) (fun h9 => ?_))
 (try simp only [aA] at h9)
 refine gG (bQ O (bT O (Z (iM (hv _ (HX.right.right.right)) aj O) (bT O (Z (iV O O (by omega)) (Z (zZ O O) (uZ O (bQ O (dS O func28 (qE HX.f2) ?_)))))))))
 rintro _ Qh ⟨u13, rfl, wo⟩
 refine Z (rZ 0 iO O O (dA aj O) O O) (Z (iM ((wo).aS) aj O) (bT O (Z (iM (hv _ (wo.right.right.right.right)) aj O) (bT O (Z (iV O O (by omega)) (Z (ig O O) (jB O (fun h => by exfalso; (try simp only [aA] at h); exact h (by rw [hl3, hk])) (fun h10 => ?_))))))))
 (try simp only [aA] at h10)
 refine gG (jQ O ?_)
 refine kT [(0, _), (7, _), (10, _)] (fun (_ : Unit) => [(12, .int .i32 x)]) (fun (_ : Unit) W => ∃ M, V w W (oQ m3 M • eP e1 s3 • F)) uK ?_ ?_
 ·rintro _ OQ ⟨M9, HJ⟩
  dsimp only [List.cons_append, List.nil_append]
  refine bQ O (jR O O (kD (uI (k := .i32) (l := [_]) HJ aj bZ sH O O O (by decide)) ?_))
  rintro l15 QE zU
  refine dS O func24 (Yd (s := s3) (keys := [x]) zU.f3.f3 hd.2.inn (fun W HW => (HW).aS) (by show 1 * 4 ≤ 140737488355328; omega) (by show 1 ≤ 1; omega) (ab3 x)) ?_
  rintro _ w16 ⟨M16, rfl, vw⟩
  have HX := vw
  rw [hm3] at HX
  refine Z (dX O O) (jG O (fun h11 => ?_) (fun h => by exfalso; (try simp only [aA] at h); exact h (by rw [hm3]; exact hP.1)))
  (try simp only [aA] at h11)
  refine bg (bT O (bg (dS O func28 (qE HX.f2) ?_)))
  rintro _ YI ⟨u17, rfl, Dh⟩
  refine bg (Z (rZ 0 iO O O (dA aj O) O O) (bg (bT O (bg (dS O func27 (WT _ _ _ _ _ ((Dh).aS) (hv _ (Dh.right.right.right.right))) ?_)))))
  rintro _ YD ⟨rfl, agW⟩
  have agX := Dh.y7 agW
  refine iU O O (fB O (dL results8 O ?_))
  exact ⟨by rw [beq_iff_eq.2 hP.2], agX.base⟩
 ·skip
  refine bQ O (bT O (Z (fJ O O (by omega)) (bT O (Z (iM (hv _ (wo.right.right.right.right)) aj O) (Z (dX O O) (jG O (fun h12 => ?_) (fun h12 => ?_)))))))
  ·(try simp only [aA] at h12)
   refine bg (bT O (bg (Z (dY O O) (iU O O (jB O (fun h13 => ?_) (fun h13 => ?_))))))
   ·(try simp only [aA] at h13)
    refine aC (iK O (bW ?_))
    refine dw (()) ?_ ?_ ?_
    ·exact (Sub.jv O (congrArg (Value.int .i32) (by rw [hx9]; first | rw [if_pos (by omega)] | rw [if_neg (by omega)])) (Sub.nil _))
    ·exact uK
    ·(try dsimp only)
     first | done | exact ⟨_, wo.right.f3.right.f2⟩
   ·(try simp only [aA] at h13)
    refine cZ ?_
    refine dw (()) ?_ ?_ ?_
    ·exact (Sub.jv O (congrArg (Value.int .i32) (by rw [hx9]; first | rw [if_pos (by omega)] | rw [if_neg (by omega)])) (Sub.nil _))
    ·exact uK
    ·(try dsimp only)
     first | done | exact ⟨_, wo.right.f3.right.f2⟩
  ·(try simp only [aA] at h12)
   refine bF (bF (iH O O (iJ (qo (cZ ?_)))))
   refine dw (()) ?_ ?_ ?_
   ·exact (Sub.jv O (congrArg (Value.int .i32) (by rw [hx9]; first | rw [if_pos (by omega)] | rw [if_neg (by omega)])) (Sub.nil _))
   ·exact uK
   ·(try dsimp only)
    first | done | exact ⟨_, wo.right.f3.right.f2⟩
theorem ab4 {w : World} (hT : Aq w) (g : gJ w .i32 lv line) : iE prog 8 #[lv, .int .i64 at_, .int .i64 n] w fun v w' => v = .bool true ∧ Below w.heap.size w w' := by
  by_cases hx : (0 ≤ at_ ∧ at_ < line.length) ∧ line.length ≤ 1024 ∧ 1 ≤ n ∧ n ≤ 1000000
  · exact Vp hT g hx
  · exact Tj hT g hx
end
end Go.Proofs.YtpdeedplgmbopaaGreatDoor
end
section
set_option maxRecDepth 100000
namespace Go.Proofs.YtpdeedplgmbopaaGreatDoor
open Go.ChangeShapes Go.WideShapes Go.ChangeAt Go.RowKit
set_option maxRecDepth 100000 in
theorem NC (os : Os) (started : os.Started) (H : Type) (enc : TypeId × Value → H) :
    ReturnsInHanded {} Tryz.checked os 8 .any (fun w args => (Rows.viPutsSpec.pre enc Tryz.prog Tryz.f8 Rows.viPutsRow.domain false w args ∧ laidMetH Tryz.prog Vz w) ∧ sizedMet enc Tryz.prog Tryz.f8 (OpenSpec.ofChange Rows.viPutsSpec) false w args) (Rows.viPutsSpec.post enc Tryz.prog Tryz.f8 false true false false) := by
  refine Mc (C := Tryz.checked) (tb := 4) _ own laid started (by kernel_rfl) Tryz.func8 (congrArg Array.toList Tryz.params8) rfl Tryz.underlying4 rfl (by kernel_rfl) (fun ds hd => ?_)
    (ChangeSpec.witness_shaped (enc := enc) (C := Tryz.checked) (os := os) (X := fun w _ => laidMetH Tryz.prog Vz w) false (World.doorLaid Tryz.prog 400 os) #[.slice none 0 0, .int .i64 0, .int .i64 0] 8 rfl (World.shaped_of_RefB (by kernel_rfl) (by kernel_rfl)) (by kernel_rfl) (by kernel_rfl) (by kernel_rfl) (YF os _)) ?_
  · obtain ⟨a0, a1, a2, rfl⟩ := WO hd
    rfl
  intro W args hL hin
  have hT := aaY hL
  obtain ⟨v1, v2, v3, rfl, ⟨⟨_, o1⟩, i1⟩, ⟨⟨_, o2⟩, i2⟩, ⟨⟨_, o3⟩, i3⟩⟩ := hin.three
  obtain ⟨a, rfl⟩ := okWide_int Tryz.underlying3 o2
  obtain ⟨n, rfl⟩ := okWide_int Tryz.underlying3 o3
  obtain ⟨a1, n1, c1, rfl⟩ := okWide_slice Tryz.underlying22 o1
  obtain ⟨v, l, e1, g1, bl, -⟩ := i1.ints Tryz.underlying22 Tryz.underlying21 (by kernel_rfl)
  obtain rfl := List.singleton_inj.1 e1
  exact ab4 hT g1
theorem ND : Rows.ViPutsSaid :=
  OpenClaim.holds_of_wide 8 Tryz.f8 rfl rfl rfl rfl rfl rfl rfl ⟨rfl, rfl, rfl, rfl, rfl⟩ rfl rfl rfl rfl rfl (by kernel_rfl) Tryz.func8 (by kernel_rfl)
    (of_decide_eq_true (by kernel_rfl)) (by unfold Func.isWrapper; first | (rw [if_pos (by decide +kernel)]; kernel_rfl) | (rw [if_neg (by decide +kernel)]; exact ⟨rfl, rfl⟩))
    (fun os started H enc _ => NC os started H enc)
theorem viPuts_card : Rows.ViPutsCardSaid :=
  Claim7.holds_tied_plain_at .later [] [.widerDeep, .widerDeep] true (true, "99a5bb9fd978799d876f5c744ef21e54f7b6a4f05c2918ab827c141780b2be91") false
    ND (fun _ h => by cases h) (by kernel_rfl) (fun _ h => by cases h) viPuts_row_tie rfl ⟨rfl, rfl⟩ (by kernel_rfl) rfl
    (fun f fn hf hfn => by
      obtain rfl : f = 8 := Option.some.inj ((show Tryz.prog.funcNamed "lanyard/lanyardlaw19.ViPuts" = some 8 by kernel_rfl).symm.trans hf) |>.symm
      obtain rfl : fn = Tryz.f8 := (Option.some.inj (Tryz.func8.symm.trans hfn)).symm
      exact ⟨by kernel_rfl, fun j t ht => by
        rw [Tryz.params8] at ht
        have hm : t ∈ [22, 3, 3] := by simpa using Array.mem_of_getElem? ht
        have hall : ([22, 3, 3].all fun u => !Tryz.prog.wantsStandIn u) = true := by kernel_rfl
        exact (show Tryz.prog.wantsStandIn t = false by simpa using List.all_eq_true.1 hall t hm)⟩)
    (by kernel_rfl)
end Go.Proofs.YtpdeedplgmbopaaGreatDoor
end
