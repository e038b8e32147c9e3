import Derived.Test.YtpdeedplgmbopaaGreatDoorZ4
import Derived.Test.YtpdeedplgmbopaaGreatDoorZ22
import Derived.Test.YtpdeedplgmbopaaGreatDoorCards
import Derived.Test.YtpdeedplgmbopaaGreatDoorZ5
import Derived.SevenTiedAt
set_option linter.unusedSimpArgs false
set_option linter.unusedVariables false
/- ViCounts in its first form, as the card states it, for whatever the program's variables hold as its text lays them. No condition beside the form's own.
Texts of mine, joined, their names in short: LawVCounts HasVCounts. -/
section
namespace Go.Proofs.YtpdeedplgmbopaaGreatDoor
open Go.RowKit
open _root_.Go.Proofs.Tryz
theorem XZ : BL EX := ⟨4, by decide, rfl⟩
theorem Wp : nT EX [120] = 0 := DN XZ (by decide) (vV (sN (by decide)) (by rintro (h | h) <;> exact absurd h (sN (by decide))) (by rintro (h | h | h) <;> exact absurd h (sN (by decide))))
theorem Wq : nT uI [48] = 0 := DN Et (by decide) fun h => absurd ((gZ rfl).1 h).2 (by decide)
section
variable {w0 w : World} {F : HP} {m e : Nat} {s : bC} {keys : List Int} {kv lv : Value} {M : VM} {n : Int} {line : List Int}
theorem SQ (H : V w0 w (pR m M • fF e s • F)) (hi : s.inn = false) (hk : jE w0 F .i32 kv keys) (hkl : keys.length * 4 ≤ 140737488355328) (hk1 : 1 ≤ keys.length) (hw : nT EX keys = 0) :
    iI prog 24 #[.pointer (some ⟨m, 0, none⟩), .pointer (some ⟨e, 0, none⟩), .string EX, kv] w fun v w' => ∃ M', v = .int .i64 ((s.aZ.GX keys (max s.aZ.count 1)).UG (s.aZ.GV keys (max s.aZ.count 1))) ∧ V w0 w' (pR m M' • fF e ((s.aZ.GX keys (max s.aZ.count 1)).ZN (s.aZ.GV keys (max s.aZ.count 1))) • F) := by
  have hco := IB s (UH H.f2)
  refine (V3 H hi hk hkl hw (ZW hk1 ?_)).mono ?_
  · rw [BX]; omega
  · rintro v w' ⟨x, t, M', ⟨rfl, rfl, rfl⟩, rfl, H⟩
    exact ⟨_, rfl, H⟩
theorem Nu {w : World} (hT : Ae w) (g : gJ w .i32 lv line) (hx : ¬ (1 ≤ n ∧ n ≤ line.length ∧ line.length ≤ 50)) :
    iI prog 9 #[lv, .int .i64 n] w fun v w' => v = .bool true ∧ Below w.heap.size w w' := by
  obtain ⟨F, H⟩ : ∃ F, V w w F := ⟨_, V.start w⟩
  have hv : jE w F .i32 lv line := jE.JQ g F
  refine oN func9 ntmps9 ?_
  refine jR O (bT O (dS O func21 (Bh H (fun W HW => hv _ (HW))) ?_))
  rintro _ w1 ⟨e1, y1, rfl, H1⟩
  refine bP O (uf O O (uf O O (uf O O (iJ O (iJ O (fP O (bT O (dS O func21 (Bh H1 (fun W HW => hv _ (HW.right.right))) ?_))))))))
  rintro _ w2 ⟨e2, y2, rfl, H2⟩
  refine bP O (uf O O (uf O O (uf O O (iJ O (iJ O (fP O (iV (dS O func22 (zD H2) ?_))))))))
  rintro _ w3 ⟨m3, rfl, H3⟩
  refine dS O func22 (zD H3) ?_
  rintro _ w4 ⟨m4, rfl, H4⟩
  refine iJ O (vY O (bT O (Z (lC O) (SS O (fun h1 => ?_)))))
  (try simp only [aA] at h1)
  refine bg (bP O (bg (Z (lC O) (ig O O (SS O (fun h2 => ?_))))))
  (try simp only [aA] at h2)
  refine bg (bP O (bg (Z (iR iK O O) (ig O O (SS O (fun h3 => ?_))))))
  (try simp only [aA] at h3)
  refine bg (bP O (bg (Z (iR iK O O) (ig O O (SS O (fun h4 => ?_))))))
  (try simp only [aA] at h4)
  refine bg (bP O (bg (Z (gB O O) (ig O O (jJ O (fun h5 => ?_) (fun h5 => ?_))))))
  · (try simp only [aA] at h5)
    refine bF (bF (bF (bF (jh O O (bP O (bF (bF (bF (jh O O (bP O (bF (bF (jh O O (iL (C9 (bT O (bP O (bg (bP O (jh O O (bP O (bg (bP O (bg (Z (tZ iK O O) (jh O O (jJ O (fun h6 => ?_) (fun h6 => ?_))))))))))))))))))))))))))))
    · (try simp only [aA] at h6)
      refine bg (bP O (bg (Z (tZ iK O O) (jh O O (jJ O (fun h7 => ?_) (fun h7 => ?_))))))
      · (try simp only [aA] at h7)
        refine bg (dS O func13 (Eu H4 hT) ?_)
        rintro _ w5 ⟨rfl, H5⟩
        refine jh O O (fC O (aB (dK results9 O ?_)))
        first | exact ⟨rfl, H5.base⟩ | (exfalso; simp at *)
      · (try simp only [aA] at h7)
        refine bF (ig O O (fC O (aB (dK results9 O ?_))))
        first | exact ⟨rfl, H4.base⟩ | (exfalso; simp at *)
    · (try simp only [aA] at h6)
      refine bF (bF (ig O O (bP O (bF (ig O O (fC O (aB (dK results9 O ?_))))))))
      first | exact ⟨rfl, H4.base⟩ | (exfalso; simp at *)
  · (try simp only [aA] at h5)
    refine bg (bP O (bg (bP O (bg (Z (jy (hv _ (H4.right.right.right.right.right.right)) aj O) (bg (Z (dY O O) (ig O O (jJ O (fun h8 => ?_) (fun h8 => ?_))))))))))
    · (try simp only [aA] at h8)
      refine bF (bF (bF (jh O O (bP O (bF (bF (jh O O (iL (C9 (bT O (bP O (bg (bP O (jh O O (bP O (bg (bP O (bg (Z (tZ iK O O) (jh O O (jJ O (fun h9 => ?_) (fun h9 => ?_))))))))))))))))))))))
      · (try simp only [aA] at h9)
        refine bg (bP O (bg (Z (tZ iK O O) (jh O O (jJ O (fun h10 => ?_) (fun h10 => ?_))))))
        · (try simp only [aA] at h10)
          refine bg (dS O func13 (Eu H4 hT) ?_)
          rintro _ w6 ⟨rfl, H6⟩
          refine jh O O (fC O (aB (dK results9 O ?_)))
          first | exact ⟨rfl, H6.base⟩ | (exfalso; simp at *)
        · (try simp only [aA] at h10)
          refine bF (ig O O (fC O (aB (dK results9 O ?_))))
          first | exact ⟨rfl, H4.base⟩ | (exfalso; simp at *)
      · (try simp only [aA] at h9)
        refine bF (bF (ig O O (bP O (bF (ig O O (fC O (aB (dK results9 O ?_))))))))
        first | exact ⟨rfl, H4.base⟩ | (exfalso; simp at *)
    · (try simp only [aA] at h8)
      refine bg (bP O (bg (Z (jy (hv _ (H4.right.right.right.right.right.right)) aj O) (bg (Z (dY O O) (ig O O (jJ O (fun h11 => ?_) (fun h => by exfalso; (try simp only [aA] at h); omega))))))))
      (try simp only [aA] at h11)
      refine bF (bF (jh O O (iL (C9 (bT O (bP O (bg (bP O (jh O O (bP O (bg (bP O (bg (Z (tZ iK O O) (jh O O (jJ O (fun h12 => ?_) (fun h12 => ?_)))))))))))))))))
      · (try simp only [aA] at h12)
        refine bg (bP O (bg (Z (tZ iK O O) (jh O O (jJ O (fun h13 => ?_) (fun h13 => ?_))))))
        · (try simp only [aA] at h13)
          refine bg (dS O func13 (Eu H4 hT) ?_)
          rintro _ w7 ⟨rfl, H7⟩
          refine jh O O (fC O (aB (dK results9 O ?_)))
          first | exact ⟨rfl, H7.base⟩ | (exfalso; simp at *)
        · (try simp only [aA] at h13)
          refine bF (ig O O (fC O (aB (dK results9 O ?_))))
          first | exact ⟨rfl, H4.base⟩ | (exfalso; simp at *)
      · (try simp only [aA] at h12)
        refine bF (bF (ig O O (bP O (bF (ig O O (fC O (aB (dK results9 O ?_))))))))
        first | exact ⟨rfl, H4.base⟩ | (exfalso; simp at *)
theorem VK.ach {s : bC} {A : List Int} {b : Int} (h : zJ s A 0 b) (hb : 0 < b) : (mO s.c.E s.c.at_).length = 1 ∧ (mO s.c.E s.c.at_).getD 0 [] = A.take b.toNat := by
  rw [VK.kills h hb]; exact ⟨rfl, rfl⟩
theorem PY {w : World} (hT : Ae w) (g : gJ w .i32 lv line) (hx : 1 ≤ n ∧ n ≤ line.length ∧ line.length ≤ 50) :
  iI prog 9 #[lv, .int .i64 n] w fun v w' => v = .bool true ∧ Below w.heap.size w w' := by
 obtain ⟨F, H⟩ : ∃ F, V w w F := ⟨_, V.start w⟩
 have hv : jE w F .i32 lv line := jE.JQ g F
 have hA : line.length ≤ 1024 := by omega
 have hb := abJ hA
 obtain ⟨s0, hs0⟩ : ∃ s0, s0 = wU line := ⟨_, rfl⟩
 rw [← hs0] at hb
 have hz := hb.zero hA VM.new
 obtain ⟨s1, hs1⟩ : ∃ s1, s1 = s0.LU VM.new [48] := ⟨_, rfl⟩
 rw [← hs1] at hz
 have ha := VK.arg hz.1.k hz.2.1 (n := n) (by omega)
 obtain ⟨s2, hs2⟩ : ∃ s2, s2 = s1.XW n := ⟨_, rfl⟩
 rw [← hs2] at ha
 have hm2 : max s2.aZ.count 1 = n := by rw [ha.2.2.1]; omega
 have hd := VK.del (keys := [120]) (n := n) ha.2.1 hA rfl (by omega) (by omega)
 obtain ⟨s3, hs3⟩ : ∃ s3, s3 = (s2.aZ.GX [120] n).ZN (s2.aZ.GV [120] n) := ⟨_, rfl⟩
 rw [← hs3, show (0 : Int) + min n (line.length - 0) = n from by omega] at hd
 refine oN func9 ntmps9 ?_
 refine jR O (bT O (dS O func21 (Bh H (fun W HW => hv _ (HW))) ?_))
 rintro _ w1 ⟨e1, y1, rfl, H1⟩
 have HX := H1
 rw [← hs0] at HX
 have Hd2 := HX.f2.right
 refine bP O (uf O O (uf O O (uf O O (iJ O (iJ O (fP O (bT O (dS O func21 (Bh Hd2 (fun W HW => hv _ (HW.right))) ?_))))))))
 rintro _ w3 ⟨e3, y3, rfl, H3⟩
 have HX := H3
 rw [← hs0] at HX
 have Hd4 := HX.f2.right
 refine bP O (uf O O (uf O O (uf O O (iJ O (iJ O (fP O (iV (dS O func22 (zD Hd4) ?_))))))))
 rintro _ w5 ⟨m5, rfl, H5⟩
 refine dS O func22 (zD H5) ?_
 rintro _ w6 ⟨m6, rfl, H6⟩
 refine iJ O (vY O (bT O (Z (lC O) (SS O (fun h1 => ?_)))))
 (try simp only [aA] at h1)
 refine bg (bP O (bg (Z (lC O) (ig O O (SS O (fun h2 => ?_))))))
 (try simp only [aA] at h2)
 refine bg (bP O (bg (Z (iR iK O O) (ig O O (SS O (fun h3 => ?_))))))
 (try simp only [aA] at h3)
 refine bg (bP O (bg (Z (iR iK O O) (ig O O (SS O (fun h4 => ?_))))))
 (try simp only [aA] at h4)
 refine bg (bP O (bg (Z (gB O O) (ig O O (jJ O (fun h => by exfalso; (try simp only [aA] at h); omega) (fun h5 => ?_))))))
 (try simp only [aA] at h5)
 refine bg (bP O (bg (bP O (bg (Z (jy (hv _ (H6.right.right.right.right)) aj O) (bg (Z (dY O O) (ig O O (jJ O (fun h => by exfalso; (try simp only [aA] at h); omega) (fun h6 => ?_))))))))))
 (try simp only [aA] at h6)
 refine bg (bP O (bg (Z (jy (hv _ (H6.right.right.right.right)) aj O) (bg (Z (dY O O) (ig O O (jJ O (fun h => by exfalso; (try simp only [aA] at h); omega) (fun h7 => ?_))))))))
 (try simp only [aA] at h7)
 refine bg (dS O func13 (Eu H6 hT) ?_)
 rintro _ w7 ⟨rfl, H7⟩
 refine bg (Z (lC O) (ig O O (iL (PZ O (fun h8 => ?_)))))
 (try simp only [aA] at h8)
 refine gQ (bT O (bP O (jV (qo (k := .i32) (l := [48]) H7 aj bV oJ O O O (by decide)) ?_)))
 rintro l8 w8 H8
 refine dS O func24 (JI (s := s0) (M := VM.new) (keys := [48]) H8.f5.f4 hT hb.inn (fun W HW => (HW).aQ) (by decide) Wq) ?_
 rintro _ w9 ⟨rfl, H9⟩
 have HX := H9
 rw [hz.2.2.2, ← hs1] at HX
 refine rZ O (bP O (jV (qo (k := .i32) (l := [48]) HX aj bV oJ O O O (by decide)) ?_))
 rintro l10 w10 pW
 refine dS O func24 (JI (s := s0) (M := VM.new) (keys := [48]) pW.f6.f6 hT hb.inn (fun W HW => (HW).aQ) (by decide) Wq) ?_
 rintro _ FX ⟨rfl, sW⟩
 have HX := sW
 rw [hz.2.2.2, ← hs1] at HX
 refine rZ O (dS O func29 (BI HX.f5) ?_)
 rintro _ w12 ⟨rfl, wL⟩
 refine rZ O (jO O O (dS O func32 (Uy wL) ?_))
 rintro _ Qs ⟨rfl, xZ⟩
 refine dS O func31 (BO xZ) ?_
 rintro _ P6 ⟨rfl, Az⟩
 have HX := Az
 rw [show (s1.aZ.Fv n).jZ (s1.aZ.Fq n) = s2 from hs2.symm] at HX
 refine qR (bT O (bP O (jV (qo (k := .i32) (l := [120]) HX aj bV oJ O O O (by decide)) ?_)))
 rintro l15 Qu zI
 refine dS O func24 (SQ (s := s2) (keys := [120]) zI.f2.f6 ha.2.1.inn (fun W HW => (HW).aQ) (by decide) (by decide) Wp) ?_
 rintro _ w16 ⟨M16, rfl, uY⟩
 have HX := uY
 rw [hm2, ← hs3] at HX
 refine Z (iM O O) (jL O (fun h => by exfalso; (try simp only [aA] at h); exact h (by rw [hm2]; exact hd.1)) (fun h9 => ?_))
 (try simp only [aA] at h9)
 refine gQ (aO (bT O (bP O (iL (aY ?_)))))
 refine gV [(0, _), (1, _), (5, _), (8, _), (12, _), (95, _)] (fun (k : Nat) => [(96, .int .i64 (k : Int))]) (fun (k : Nat) W => k ≤ n.toNat ∧ ∃ s M, VK line (k : Int) s ∧ V w W (pR m6 M • fF e3 s • fF e1 s3 • F)) (fun (k : Nat) => n.toNat - k) (0) Vh mG ⟨by omega, s1, VM.new, hz.1, HX.right.f2.right.f4.right.f4.right.f3.f3⟩ ?_
 rintro k Yr ⟨hk, s, M, hs, HL⟩
 dsimp only [List.cons_append, List.nil_append]
 refine iV (Z (gB O O) (qR (bH O (fun h10 => ?_) (fun h10 => ?_))))
 ·(try simp only [aA] at h10)
  refine gQ (aO (aY (aO ?_)))
  have hkn : (k : Int) < n := by omega
  have hd2 := VK.del (keys := [120]) (n := 1) hs.k hA rfl (by omega) (by omega)
  rw [show (k : Int) + min (1 : Int) ((line.length : Int) - k) = ((k + 1 : Nat) : Int) from by omega] at hd2
  have hm1 : max s.aZ.count 1 = 1 := by rw [SL hs.k.inn hs.given]; rfl
  refine aC (jO O O (jV (qo (k := .i32) (l := [120]) HL aj bV oJ O O O (by decide)) ?_))
  rintro l18 Ym Eb
  refine dS O func24 (SQ (s := s) (keys := [120]) Eb.f3.f3 hs.k.inn (fun W HW => (HW).aQ) (by decide) (by decide) Wp) ?_
  rintro _ w19 ⟨M19, rfl, Dl⟩
  have HX := Dl
  rw [hm1] at HX
  refine Z (iM O O) (jL O (fun h => by exfalso; (try simp only [aA] at h); exact h (by rw [hm1]; exact hd2.1)) (fun h11 => ?_))
  (try simp only [aA] at h11)
  refine dn (aK (aW (aC (Z (fO O O (by omega)) (bP O (bY ?_))))))
  refine dU (k + 1) ?_ ?_ ?_ ?_
  ·exact mG
  ·exact Vh
  ·(try dsimp only)
   first | done | exact ⟨by omega, _, _, hd2.2, HX.f3.right.f3.f3.f3⟩
  ·(try dsimp only); omega
 ·(try simp only [aA] at h10)
  refine dO (aN (aN (bn (aW (aO ?_)))))
  obtain rfl : k = n.toNat := by omega
  have hkn : (n.toNat : Int) = n := by omega
  rw [hkn] at hs
  have hq1 := VK.ach hd.2.k (by omega)
  have hq2 := VK.ach hs.k (by omega)
  have hl1 := hq1.1
  have hl2 := hq2.1
  have U9 := HL.drew
  have Ho := V.kp (U9.f3.f3.f3)
  refine y9 [20, 30] Ho O (iU 0 O Ho O (iU 3 O Ho O (iU 4 O Ho O (jB 5 O Ho (fun _ => rH (hv _ (U9.right.right.right)) aj bV O O O (by omega)) ?_))))
  refine nD 1 O (xW O func28 (xE U9.f3)) ?_
  rintro _ w20 ⟨u20, rfl, Di⟩
  have zU := V.kp (Di.f4.f4.f4.f4)
  refine gU zU (by kernel_rfl) ?_
  refine jB 2 O zU (fun _ => zZ 0 jF O O (dA aj O) O O) (nD 6 O (xW O func27 (Ec _ _ _ _ _ ((Di).aQ) (gJ.from (hv _ (Di.right.right.right.right)) (by omega)))) ?_)
  rintro _ w21 ⟨rfl, agQ⟩
  have adF := Di.xg agQ
  have E5 := V.kp (adF.f4.f4.f4.f4)
  refine gU E5 (by kernel_rfl) ?_
  refine AA 7 O O (by kernel_rfl) (by kernel_rfl) E5 (kY O) (fun h12 => ?_) (fun h => by exfalso; (try simp only [aA] at h); exact h (VK.line hd.2.k))
  (try simp only [aA] at h12)
  refine dV 8 O O O (by kernel_rfl) (by kernel_rfl) E5 (fun _ => sO O) (kY O) ?_
  refine dV 11 O O O (by kernel_rfl) (by kernel_rfl) E5 (fun _ => sO O) (kY O) ?_
  refine dV 12 O O O (by kernel_rfl) (by kernel_rfl) E5 (fun _ => sO O) (kY O) ?_
  refine dV 13 O O O (by kernel_rfl) (by kernel_rfl) E5 (fun _ => rH (hv _ (adF.right.right.right.right)) aj bV O O O (by omega)) (kY O) ?_
  refine wJ 9 O O O (by kernel_rfl) (qQ (rE O func28 O O) (xE adF.f4)) (kY O) ?_
  rintro _ w22 ⟨u22, rfl, Gg⟩
  have CJ := V.kp (Gg.f5.f5.f5.f5.f5)
  refine gU CJ (by kernel_rfl) ?_
  refine dV 10 O O O (by kernel_rfl) (by kernel_rfl) CJ (fun _ => zZ 0 jF O O (dA aj O) O O) (kY O) ?_
  refine wJ 14 O O O (by kernel_rfl) (qQ (rE O func27 O O) (Ec _ _ _ _ _ ((Gg).aQ) (gJ.from (hv _ (Gg.right.right.right.right.right)) (by omega)))) (kY O) ?_
  rintro _ w23 ⟨rfl, agR⟩
  have adG := Gg.xg agR
  have yj := V.kp (adG.f5.f5.f5.f5.f5)
  refine gU yj (by kernel_rfl) ?_
  refine jB 15 O yj (fun _ => yZ O O) ?_
  refine AA 16 O O (by kernel_rfl) (by kernel_rfl) yj (kY O) (fun h13 => ?_) (fun h => by exfalso; (try simp only [aA] at h); exact h (VK.line hs.k))
  (try simp only [aA] at h13)
  refine dV 17 O O O (by kernel_rfl) (by kernel_rfl) yj (fun _ => sO O) (kY O) ?_
  refine dV 21 O O O (by kernel_rfl) (by kernel_rfl) yj (fun _ => sO O) (kY O) ?_
  refine dV 22 O O O (by kernel_rfl) (by kernel_rfl) yj (fun _ => sO O) (kY O) ?_
  refine dV 23 O O O (by kernel_rfl) (by kernel_rfl) yj (fun _ => rH (hv _ (adG.right.right.right.right.right)) aj bV O O O (by omega)) (kY O) ?_
  refine wJ 18 O O O (by kernel_rfl) (qQ (rE O func33 O O) (Hl adG.f4)) (kY O) ?_
  rintro u24 w24 ⟨aie, JY⟩
  have DK := V.kp (JY.f7.f7.f7.f7.f7.f7.f7)
  refine gU DK (by kernel_rfl) ?_
  obtain ⟨aif, aih, aii, agS⟩ := Rd.rG ((JY).aQ) (by omega)
  cases agS
  refine dV 19 O O O (by kernel_rfl) (by kernel_rfl) DK (fun _ => dP iC dh O O (by omega)) (kY O) ?_
  refine xk 20 O O O (by kernel_rfl) (by kernel_rfl) DK (by decide) (fun W hW => fG (dA aj O) O (by first | exact Rd.mZ (((Kp.h hW)).aQ) (by omega) | exact Rd.yA (((Kp.h hW)).aQ) (by omega) | exact Rd.xX (((Kp.h hW)).aQ) (by omega))) (kY O) ?_
  refine Yf (fun afl aas => ?_)
  refine wJ 24 O O O (by kernel_rfl) (qQ (rE O func27 O O) (Ec _ _ _ _ _ ((by rw [aas]; exact (JY.f2).VZ (by omega))) (gJ.upto (hv _ (JY.right.right.right.right.right.right.right)) (by omega)))) (kY O) ?_
  rintro _ w26 ⟨rfl, agT⟩
  have adH := JY.xg agT
  have GK := V.kp (adH.f7.f7.f7.f7.f7.f7.f7)
  refine gU GK (by kernel_rfl) ?_
  refine jB 25 O GK (fun _ => yZ O O) ?_
  refine AA 26 O O (by kernel_rfl) (by kernel_rfl) GK (kY O) (fun h14 => ?_) (fun h => by exfalso; (try simp only [aA] at h); exact h hq1.2)
  (try simp only [aA] at h14)
  refine dV 27 O O O (by kernel_rfl) (by kernel_rfl) GK (fun _ => sO O) (kY O) ?_
  refine dV 31 O O O (by kernel_rfl) (by kernel_rfl) GK (fun _ => sO O) (kY O) ?_
  refine dV 32 O O O (by kernel_rfl) (by kernel_rfl) GK (fun _ => sO O) (kY O) ?_
  refine dV 33 O O O (by kernel_rfl) (by kernel_rfl) GK (fun _ => rH (hv _ (adH.right.right.right.right.right.right.right)) aj bV O O O (by omega)) (kY O) ?_
  refine wJ 28 O O O (by kernel_rfl) (qQ (rE O func33 O O) (Hl adH.f5)) (kY O) ?_
  rintro u27 w27 ⟨aij, IW⟩
  have RH := V.kp (IW.f9.f9.f9.f9.f9.f9.f9.f9.f9)
  refine gU RH (by kernel_rfl) ?_
  obtain ⟨aik, ail, aim, agU⟩ := Rd.rG ((IW).aQ) (by omega)
  cases agU
  refine dV 29 O O O (by kernel_rfl) (by kernel_rfl) RH (fun _ => dP iC dh O O (by omega)) (kY O) ?_
  refine xk 30 O O O (by kernel_rfl) (by kernel_rfl) RH (by decide) (fun W hW => fG (dA aj O) O (by first | exact Rd.mZ (((Kp.h hW)).aQ) (by omega) | exact Rd.yA (((Kp.h hW)).aQ) (by omega) | exact Rd.xX (((Kp.h hW)).aQ) (by omega))) (kY O) ?_
  refine Yf (fun afm aat => ?_)
  refine wJ 34 O O O (by kernel_rfl) (qQ (rE O func27 O O) (Ec _ _ _ _ _ ((by rw [aat]; exact (IW.f2).VZ (by omega))) (gJ.upto (hv _ (IW.right.right.right.right.right.right.right.right.right)) (by omega)))) (kY O) ?_
  rintro _ w29 ⟨rfl, agV⟩
  have afk := IW.xg agV
  have RI := V.kp (afk.f9.f9.f9.f9.f9.f9.f9.f9.f9)
  refine gU RI (by kernel_rfl) ?_
  refine jB 35 O RI (fun _ => yZ O O) (jB 36 O RI (fun _ => dR O) (ru (aW (nO (dK results9 O ?_)))))
  exact ⟨by rw [beq_iff_eq.2 hq2.2], afk.base⟩
theorem X0 {w : World} (hT : Ae w) (g : gJ w .i32 lv line) : iI prog 9 #[lv, .int .i64 n] w fun v w' => v = .bool true ∧ Below w.heap.size w w' := by
  by_cases hx : 1 ≤ n ∧ n ≤ line.length ∧ line.length ≤ 50
  · exact PY hT g hx
  · exact Nu hT g hx
end
end Go.Proofs.YtpdeedplgmbopaaGreatDoor
end
section
set_option maxRecDepth 100000
namespace Go.Proofs.YtpdeedplgmbopaaGreatDoor
open Go.ChangeShapes Go.WideShapes Go.ChangeAt Go.RowKit
set_option maxRecDepth 100000 in
theorem Jt (os : Os) (started : os.Started) (H : Type) (enc : TypeId × Value → H) :
    ReturnsInHanded {} Tryz.checked os 9 .any (fun w args => (Rows.viCountsSpec.pre enc Tryz.prog Tryz.f9 Rows.viCountsRow.domain false w args ∧ laidMetH Tryz.prog Vm w) ∧ sizedMet enc Tryz.prog Tryz.f9 (OpenSpec.ofChange Rows.viCountsSpec) false w args) (Rows.viCountsSpec.post enc Tryz.prog Tryz.f9 false true false false) := by
  refine L6 (C := Tryz.checked) (tb := 4) _ own laid started (by kernel_rfl) Tryz.func9 (congrArg Array.toList Tryz.params9) rfl Tryz.underlying4 rfl (by kernel_rfl) (fun ds hd => ?_)
    (ChangeSpec.witness_shaped (enc := enc) (C := Tryz.checked) (os := os) (X := fun w _ => laidMetH Tryz.prog Vm w) false (World.doorLaid Tryz.prog 400 os) #[.slice none 0 0, .int .i64 0] 8 rfl (World.shaped_of_RefB (by kernel_rfl) (by kernel_rfl)) (by kernel_rfl) (by kernel_rfl) (by kernel_rfl) (Yo os _)) ?_
  · obtain ⟨a0, a1, rfl⟩ := aaH hd
    rfl
  intro W args hL hin
  have hT := aaK hL
  obtain ⟨v1, v2, rfl, ⟨⟨_, o1⟩, i1⟩, ⟨⟨_, o2⟩, i2⟩⟩ := hin.two
  obtain ⟨n, rfl⟩ := okWide_int Tryz.underlying3 o2
  obtain ⟨a1, n1, c1, rfl⟩ := okWide_slice Tryz.underlying22 o1
  obtain ⟨v, l, e1, g1, bl, -⟩ := i1.ints Tryz.underlying22 Tryz.underlying21 (by kernel_rfl)
  obtain rfl := List.singleton_inj.1 e1
  exact X0 hT g1
theorem Ju : Rows.ViCountsSaid :=
  OpenClaim.holds_of_wide 9 Tryz.f9 rfl rfl rfl rfl rfl rfl rfl ⟨rfl, rfl, rfl, rfl, rfl⟩ rfl rfl rfl rfl rfl (by kernel_rfl) Tryz.func9 (by kernel_rfl)
    (of_decide_eq_true (by kernel_rfl)) (by unfold Func.isWrapper; first | (rw [if_pos (by decide +kernel)]; kernel_rfl) | (rw [if_neg (by decide +kernel)]; exact ⟨rfl, rfl⟩))
    (fun os started H enc _ => Jt os started H enc)
theorem viCounts_card : Rows.ViCountsCardSaid :=
  Claim7.holds_tied_plain_at .later [] [.widerDeep, .widerDeep] true (true, "99a5bb9fd978799d876f5c744ef21e54f7b6a4f05c2918ab827c141780b2be91") false
    Ju (fun _ h => by cases h) (by kernel_rfl) (fun _ h => by cases h) viCounts_row_tie rfl ⟨rfl, rfl⟩ (by kernel_rfl) rfl
    (fun f fn hf hfn => by
      obtain rfl : f = 9 := Option.some.inj ((show Tryz.prog.funcNamed "lanyard/lanyardlaw19.ViCounts" = some 9 by kernel_rfl).symm.trans hf) |>.symm
      obtain rfl : fn = Tryz.f9 := (Option.some.inj (Tryz.func9.symm.trans hfn)).symm
      exact ⟨by kernel_rfl, fun j t ht => by
        rw [Tryz.params9] at ht
        have hm : t ∈ [22, 3] := by simpa using Array.mem_of_getElem? ht
        have hall : ([22, 3].all fun u => !Tryz.prog.wantsStandIn u) = true := by kernel_rfl
        exact (show Tryz.prog.wantsStandIn t = false by simpa using List.all_eq_true.1 hall t hm)⟩)
    (by kernel_rfl)
end Go.Proofs.YtpdeedplgmbopaaGreatDoor
end
