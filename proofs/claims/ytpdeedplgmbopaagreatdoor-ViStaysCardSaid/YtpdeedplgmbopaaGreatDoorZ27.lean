import Derived.Test.YtpdeedplgmbopaaGreatDoorZ4
import Derived.Test.YtpdeedplgmbopaaGreatDoorZ24
import Derived.Test.YtpdeedplgmbopaaGreatDoorZ26
import Derived.Test.YtpdeedplgmbopaaGreatDoorZ18
import Derived.Test.YtpdeedplgmbopaaGreatDoorCards
import Derived.Test.YtpdeedplgmbopaaGreatDoorZ5
import Derived.SevenTiedAt
set_option linter.unusedSimpArgs false
set_option linter.unusedVariables false
/- ViStays in its first form, as the card states it, for whatever the program's variables hold as its text lays them. No condition beside the form's own.
Texts of mine, joined, their names in short: LawVStays HasVStays. -/
section
namespace Go.Proofs.YtpdeedplgmbopaaGreatDoor
open Go.RowKit
open _root_.Go.Proofs.Tryz
structure LH where
  name : ByteArray
  kv : Value
  keys : List Int
  tv : Value
  arg : Int
  way : Int
instance : Inhabited LH := ⟨⟨.empty, .slice none 0 0, [], .slice none 0 0, 0, 0⟩⟩
def LH.enc (b : LH) : List Value := [.string b.name, b.kv, b.tv, .int .i64 b.arg, .int .i64 b.way]
theorem LH.AB (b : LH) : b.enc.length = 5 := rfl
def LH.Reads (W : World) (b : LH) : Prop := gB W .i32 b.kv b.keys ∧ b.keys.length ≤ 35184372087808 ∧ b.tv.oneCell' = true
theorem aeQ {t : bQ} (h : t.inn = true) (err : Int) : (t.lQ err).inn = false := by
  by_cases he : err = 0
  · rw [he]; exact Fg t h
  · unfold bQ.lQ; rw [if_pos h, if_neg he]; rfl
section
variable {w0 w : World} {F : HP} {lv u : Value} {line : List Int} {cs : List LH}
theorem aeR {w : World} (hT : Bq w) (g : gB w .i32 lv line) (g2 : Rd w 5 u cs.length (cs.flatMap LH.enc)) (g3 : ∀ k, k < cs.length → (cs.getD k default).Reads w) (b2 : cs.length ≤ 4398046511104) :
    jf prog 5 #[lv, u] w fun v w' => v = .bool true ∧ Below w.heap.size w w' := by
  obtain ⟨F, H⟩ : ∃ F, V w w F := ⟨_, V.start w⟩
  have hv : jO w F .i32 lv line := jO.J7 g F
  have hu : Ua w F 5 u cs.length (cs.flatMap LH.enc) := Ua.J7 g2 F
  have hsi : (BJ line).inn = false := aeQ (by unfold bQ.zH; split; exact yQ _; exact yQ _) 0
  refine qo func5 ntmps5 ?_
  refine kH O (bI O (dX O func21 (TU H (fun W HW => hv _ (HW))) ?_))
  rintro _ w1 ⟨e1, y1, rfl, H1⟩
  have Hd2 := H1.f2.right
  refine bW O (oZ O O (oZ O O (oZ O O (gW O (gW O (fO O (jg (dX O func22 (Qk Hd2) ?_))))))))
  rintro _ w3 ⟨m3, rfl, H3⟩
  refine tX O (bI O (aV (jR O) (OB O (fun h1 => ?_))))
  (try simp only [Z] at h1)
  refine bF (bW O (bF (aV (kU jG O O) (iH O O (OB O (fun h2 => ?_))))))
  (try simp only [Z] at h2)
  refine bF (dX O func13 (ab9 H3 hT) ?_)
  rintro _ w4 ⟨rfl, H4⟩
  refine bF (aV (jR O) (iH O O (iR (JF O (fun h3 => ?_)))))
  (try simp only [Z] at h3)
  refine gy (aI (bI O (aV (ku (hu _ (H4.right.right)) underlying36 O) (bW O (iR (bf ?_))))))
  refine iy [(5, _), (8, _), (31, _), (32, _)] (fun (k : Nat) => [(33, .int .i64 (k : Int))]) (fun (k : Nat) W => k ≤ cs.length ∧ ∃ s M, s.inn = false ∧ V w W (jW m3 M • dZ e1 s • F)) (fun (k : Nat) => cs.length - k) (0) FC lH ⟨by omega, BJ line, VM.new, hsi, H4.f2.f2⟩ ?_
  rintro k w5 ⟨hk, s, M, hsn, HL⟩
  dsimp only [List.cons_append, List.nil_append]
  refine jg (aV (gG O O) (rW (bg O (fun h4 => ?_) (fun h4 => ?_))))
  · (try simp only [Z] at h4)
    refine gy (aI (bf (aI ?_)))
    have hkl : k < cs.length := by omega
    obtain ⟨q1, q2, q3⟩ := g3 k hkl
    have f2 := jO.J7 q1 F
    have q4 := q1.one
    refine aF ?_
    obtain ⟨bu, ou, cu, eu⟩ := Rd.qN (hu _ (HL.right.right)) (by omega)
    cases eu
    refine aV (dI underlying36 sizeOf44 O O (by omega)) (aV (pI (ys := [_, _, _, _, _]) (hu _ (HL.right.right)) (by omega) underlying44 O sizeOf44 O (rY LH.AB (by omega) default) O) (kV (iO (l := [_, _, _, _, _]) HL zeroValue44 O) ?_))
    rintro _ w6 ⟨b6, rfl, H6⟩
    refine aQ (dM 0 (l' := [_, _, _, _, _]) (us := [_, _, _, _, _]) H6 sizeOf44 O O O (aJ (bG (by first | rfl | exact Rd.one (f2 _ (H6.right.right.right))) (aJ (aJ (aJ dn))))) O O) ?_
    rintro _ w7 H7
    refine rW (jg (bM 4 underlying44 O aj O (eH aA O (H7).get.2 O (aV (fF O O) (iW O (fun h5 => ?_) (fun h5 => ?_))))))
    · (try simp only [Z] at h5)
      refine dR (aP (bH (aU (aF (aV (fH O O (by omega)) (bW O (bT ?_)))))))
      refine dN (k + 1) ?_ ?_ ?_ ?_
      · exact lH
      · exact FC
      · (try dsimp only)
        first | done | exact ⟨by omega, _, _, by assumption, H7.right.f2.f2⟩
      · (try dsimp only); omega
    · (try simp only [Z] at h5)
      refine gy (bI O (dX O func23 (CG H7.f3) ?_))
      rintro _ w8 ⟨u8, ks8, us8, sv8, rfl, H8⟩
      obtain ⟨bus, rfl⟩ : ∃ q, q = us8 := ⟨_, rfl⟩
      refine kV (iO (l := [_, _, _, _, _, _, _, _, _, _, _, _, _, _, _, _, _]) H8 kW O) ?_
      rintro _ w9 ⟨b9, rfl, H9⟩
      refine aQ (dM 0 (l' := [_, _, _, _, _, _, _, _, _, _, _, _, _, _, _, _, _]) (us := [_, _, _, _, _, _, _, _, _, _, _, _, _, _, _, _, _]) H9 jC O O O (bG (by first | rfl | exact Rd.one ((H9.f2).aO)) (aJ (aJ (aJ (aJ (aJ (aJ (aJ (aJ (aJ (aJ (bG (by first | rfl | exact Rd.one ((H9.f3).aO)) (aJ (bG (by first | rfl | exact Rd.one ((H9.f5).aO)) (aJ (aJ (aJ dn))))))))))))))))) O O) ?_
      rintro _ w10 pG
      refine uS O (bW O (bM 0 underlying44 O kM O (eH iD O (pG.f7).get.2 O (bM 1 underlying44 O bD O (eH ah O (pG.f7).get.2 O (dX O func24 (aj0 (keys := (cs.getD k default).keys) pG.f6.f8 hsn (fun W HW => f2 _ (HW.right.right.right.right.right.right)) hT (by omega)) ?_))))))
      rintro _ FK ⟨x11, t11, M11, alG, alH, alI, rfl, ru⟩
      obtain ⟨a, rfl⟩ : ∃ q, q = t11 := ⟨_, rfl⟩
      obtain ⟨x, rfl⟩ : ∃ q, q = x11 := ⟨_, rfl⟩
      have hai := alG
      have hb := alH
      have hg := alI
      refine fO O (bI O (dX O func23 (CG ru.f2) ?_))
      rintro _ w12 ⟨u12, amV, alJ, amW, rfl, wQ⟩
      obtain ⟨amX, rfl⟩ : ∃ q, q = alJ := ⟨_, rfl⟩
      refine kV (iO (l := [_, _, _, _, _, _, _, _, _, _, _, _, _, _, _, _, _]) wQ kW O) ?_
      rintro _ OL ⟨b13, rfl, wB⟩
      refine aQ (dM 0 (l' := [_, _, _, _, _, _, _, _, _, _, _, _, _, _, _, _, _]) (us := [_, _, _, _, _, _, _, _, _, _, _, _, _, _, _, _, _]) wB jC O O O (bG (by first | rfl | exact Rd.one ((wB.f2).aO)) (aJ (aJ (aJ (aJ (aJ (aJ (aJ (aJ (aJ (aJ (bG (by first | rfl | exact Rd.one ((wB.f3).aO)) (aJ (bG (by first | rfl | exact Rd.one ((wB.f5).aO)) (aJ (aJ (aJ dn))))))))))))))))) O O) ?_
      rintro _ OG rU
      refine rW (bI O (aV (fB O O) (jY O (fun h6 => ?_) (fun h6 => ?_))))
      · (try simp only [Z] at h6)
        refine bF (bM 3 aG O aj O (bF (eH aA O (rU).get.2 O (bF (aV (fB O O) (jQ O O (jY O (fun h7 => ?_) (fun h7 => ?_))))))))
        · (try simp only [Z] at h7)
          refine bF (bM 0 aG O sizeOf46 O (bF (bM 0 fK O bD O (bF (eH ah O (rU).get.2 O (bF (aV (gZ ((rU.f2).aO) ah O) (bF (aV (gK O O) (jQ O O (jY O (fun h8 => ?_) (fun h8 => ?_))))))))))))
          · (try simp only [Z] at h8)
            refine bF (bM 0 aG O sizeOf46 O (bF (bM 1 fK O aj O (bF (eH aA O (rU).get.2 O (bF (bM 0 aG O sizeOf46 O (bF (bM 0 fK O bD O (bF (eH ah O (rU).get.2 O (bF (aV (gZ ((rU.f2).aO) ah O) (bF (aV (mJ O O) (jQ O O (iW O (fun h => by exfalso; (try simp only [Z] at h); have h8 := hg (by assumption) (by assumption) (by omega); omega) (fun h9 => ?_))))))))))))))))))
            (try simp only [Z] at h9)
            refine gy (aI (bI O (aV (fB O O) (iW O (fun h10 => ?_) (fun h10 => ?_)))))
            · (try simp only [Z] at h10)
              refine dR (aP (bH (aU (aF (aV (fH O O (by omega)) (bW O (bT ?_)))))))
              refine dN (k + 1) ?_ ?_ ?_ ?_
              · exact lH
              · exact FC
              · (try dsimp only)
                first | done | exact ⟨by omega, _, _, by assumption, rU.right.right.right.right.right.f3.right.f3.right.f3.right.f3.right.f3.right.f3.right.f2⟩
              · (try dsimp only); omega
            · (try simp only [Z] at h10)
              refine gy (aI (aI ?_))
              have hr := hb (by assumption)
              refine aF (bM 16 aG O fV O (eH gq O (rU).get.2 O (bM 16 aG O fV O (eH gq O (rU.f8).get.2 O (aV (fF O O) (jY O (fun h11 => ?_) (fun h11 => ?_)))))))
              · (try simp only [Z] at h11)
                refine bF (bM 16 aG O fV O (bF (eH gq O (rU).get.2 O (bF (bM 16 aG O fV O (bF (eH gq O (rU.f8).get.2 O (bF (aV (rV O O) (bF (aV (fF O O) (jQ O O (iW O (fun h => by exfalso; (try simp only [Z] at h); rcases hr.lI with b | b; exact absurd b (by assumption); exact h b) (fun h12 => ?_))))))))))))))
                (try simp only [Z] at h12)
                refine gy (aI ?_)
                have aeS := rU.drew
                have uf := V.kp (aeS.right.f12.f12.f12.f12.f12.f12.f12.f12.f12.f12.f12.f12)
                refine nG [1, 3, 5, 7, 9, 11, 13] uf O (dJ 0 O uf 16 aG O fV O (fM 1 O uf (fun W hW => fQ gq O ((Kp.h hW).f7).get.2 O) (dJ 2 O uf 5 aG O aT O (fM 3 O uf (fun W hW => fQ bJ O ((Kp.h hW).f7).get.2 O) (dJ 4 O uf 6 aG O aT O (fM 5 O uf (fun W hW => fQ bJ O ((Kp.h hW).f7).get.2 O) (dJ 6 O uf 7 aG O aj O (fM 7 O uf (fun W hW => fQ aA O ((Kp.h hW).f7).get.2 O) (dJ 8 O uf 8 aG O aj O (fM 9 O uf (fun W hW => fQ aA O ((Kp.h hW).f7).get.2 O) (dJ 10 O uf 9 aG O aj O (fM 11 O uf (fun W hW => fQ aA O ((Kp.h hW).f7).get.2 O) (dJ 12 O uf 10 aG O aj O (fM 13 O uf (fun W hW => fQ aA O ((Kp.h hW).f7).get.2 O) (dJ 14 O uf 16 aG O fV O ?_)))))))))))))))
                refine dF 15 O (by kernel_rfl) (nO 16 aeS fV) ?_
                rintro _ OM zV
                have zA := V.kp (zV.right.f12.f12.f12.f12.f12.f12.f12.f12.f12.f12.f12.f12)
                refine dK zA (fun W hW => (Kp.h hW).f12.f12.f12.f12.f12.f12.f12.f12.f12.f12.f12.f12) ?_
                refine dJ 16 O zA 5 aG O aT O ?_
                refine dF 17 O (by kernel_rfl) (nO 5 zV aT) ?_
                rintro _ w16 uT
                have yY := V.kp (uT.right.f12.f12.f12.f12.f12.f12.f12.f12.f12.f12.f12.f12)
                refine dK yY (fun W hW => (Kp.h hW).f12.f12.f12.f12.f12.f12.f12.f12.f12.f12.f12.f12) ?_
                refine dJ 18 O yY 6 aG O aT O ?_
                refine dF 19 O (by kernel_rfl) (nO 6 uT aT) ?_
                rintro _ Yp BX
                have Ed := V.kp (BX.right.f12.f12.f12.f12.f12.f12.f12.f12.f12.f12.f12.f12)
                refine dK Ed (fun W hW => (Kp.h hW).f12.f12.f12.f12.f12.f12.f12.f12.f12.f12.f12.f12) ?_
                refine dJ 20 O Ed 7 aG O aj O ?_
                refine dF 21 O (by kernel_rfl) (nO 7 BX aj) ?_
                rintro _ ZO EW
                have Gp := V.kp (EW.right.f12.f12.f12.f12.f12.f12.f12.f12.f12.f12.f12.f12)
                refine dK Gp (fun W hW => (Kp.h hW).f12.f12.f12.f12.f12.f12.f12.f12.f12.f12.f12.f12) ?_
                refine dJ 22 O Gp 8 aG O aj O ?_
                refine dF 23 O (by kernel_rfl) (nO 8 EW aj) ?_
                rintro _ w19 EP
                have Nc := V.kp (EP.right.f12.f12.f12.f12.f12.f12.f12.f12.f12.f12.f12.f12)
                refine dK Nc (fun W hW => (Kp.h hW).f12.f12.f12.f12.f12.f12.f12.f12.f12.f12.f12.f12) ?_
                refine dJ 24 O Nc 9 aG O aj O ?_
                refine dF 25 O (by kernel_rfl) (nO 9 EP aj) ?_
                rintro _ ZP BL
                have zI := V.kp (BL.f13.f13.f13.f13.f13.f13.f13.f13.f13.f13.f13.f13.f13)
                refine dK zI (fun W hW => (Kp.h hW).right.f12.f12.f12.f12.f12.f12.f12.f12.f12.f12.f12.f12) ?_
                refine dJ 26 O zI 10 aG O aj O ?_
                refine dF 27 O (by kernel_rfl) (nO 10 BL aj) ?_
                rintro _ w21 wP
                have PU := V.kp (wP.f13.f13.f13.f13.f13.f13.f13.f13.f13.f13.f13.f13.f13)
                refine gU PU (by kernel_rfl) ?_
                refine lJ (aU (aI ?_))
                have HX := wP.f13.right.f6.f7.f7.f7.f7.f7.f12.f12.f12.f12.f11.f12
                rw [hr.L, hr.E, hr.uP, hr.saved, show a.c.pt = s.c.pt from (congrArg zQ.pt hr.st).symm, show a.c.mark = s.c.mark from (congrArg zQ.mrk hr.st).symm, show a.c.mode = s.c.mode from (congrArg zQ.mode hr.st).symm,
                  show a.c.over = s.c.over from (congrArg zQ.over hr.st).symm, show a.c.place = s.c.place from (congrArg zQ.place hr.st).symm, show a.rE = s.rE from (congrArg zQ.Lr hr.st).symm, show a.c.res = s.c.res from (congrArg zQ.res hr.st).symm] at HX
                have hlen : s.c.E.length = (nC s.c.E s.c.at_).length := by have h1 := HX.f4.rJ; have h2 := HX.f5.zL; omega
                refine aF (aV (dH aG O jC O O (HX).get.2) (aV (dH aG O jC O O (HX.f2).get.2) (dX O func25 (qj (x := QE s) (l := s.c.L) (ls := nC s.c.E s.c.at_) (S := s.saved) HX (fun W HW => HW.f3.aO) (fun W HW => HW.f7.aO) (fun W HW => hlen ▸ HW.f4.aO) (fun W HW => hlen ▸ HW.f8.aO) (fun k hk W HW => HW.f5.tY hk) (fun k hk W HW => HW.f9.tY hk) (fun W HW => HW.f6.aO) (fun W HW => HW.f10.aO)) ?_)))
                rintro _ w22 ⟨rfl, Jh⟩
                refine aV (jR O) (iR (JF O (fun h13 => ?_)))
                (try simp only [Z] at h13)
                refine bU (aH (aU (aF (aV (fH O O (by omega)) (bW O (bT ?_))))))
                refine dN (k + 1) ?_ ?_ ?_ ?_
                · exact lH
                · exact FC
                · (try dsimp only)
                  first | done | exact ⟨by omega, _, _, by assumption, Jh.right.right.right.right.right.right.right.right.right.right.f2.f2⟩
                · (try dsimp only); omega
              · (try simp only [Z] at h11)
                refine bK (bK (bK (bK (bK (bK (iH O O (iR (oL (gy (aI ?_))))))))))
                have aeT := rU.drew
                have ug := V.kp (aeT.right.f12.f12.f12.f12.f12.f12.f12.f12.f12.f12.f12.f12)
                refine nG [1, 3, 5, 7, 9, 11, 13] ug O (dJ 0 O ug 16 aG O fV O (fM 1 O ug (fun W hW => fQ gq O ((Kp.h hW).f7).get.2 O) (dJ 2 O ug 5 aG O aT O (fM 3 O ug (fun W hW => fQ bJ O ((Kp.h hW).f7).get.2 O) (dJ 4 O ug 6 aG O aT O (fM 5 O ug (fun W hW => fQ bJ O ((Kp.h hW).f7).get.2 O) (dJ 6 O ug 7 aG O aj O (fM 7 O ug (fun W hW => fQ aA O ((Kp.h hW).f7).get.2 O) (dJ 8 O ug 8 aG O aj O (fM 9 O ug (fun W hW => fQ aA O ((Kp.h hW).f7).get.2 O) (dJ 10 O ug 9 aG O aj O (fM 11 O ug (fun W hW => fQ aA O ((Kp.h hW).f7).get.2 O) (dJ 12 O ug 10 aG O aj O (fM 13 O ug (fun W hW => fQ aA O ((Kp.h hW).f7).get.2 O) (dJ 14 O ug 16 aG O fV O ?_)))))))))))))))
                refine dF 15 O (by kernel_rfl) (nO 16 aeT fV) ?_
                rintro _ w23 AQ
                have Fa := V.kp (AQ.right.f12.f12.f12.f12.f12.f12.f12.f12.f12.f12.f12.f12)
                refine dK Fa (fun W hW => (Kp.h hW).f12.f12.f12.f12.f12.f12.f12.f12.f12.f12.f12.f12) ?_
                refine dJ 16 O Fa 5 aG O aT O ?_
                refine dF 17 O (by kernel_rfl) (nO 5 AQ aT) ?_
                rintro _ w24 Kq
                have Jr := V.kp (Kq.right.f12.f12.f12.f12.f12.f12.f12.f12.f12.f12.f12.f12)
                refine dK Jr (fun W hW => (Kp.h hW).f12.f12.f12.f12.f12.f12.f12.f12.f12.f12.f12.f12) ?_
                refine dJ 18 O Jr 6 aG O aT O ?_
                refine dF 19 O (by kernel_rfl) (nO 6 Kq aT) ?_
                rintro _ w25 LU
                have Hy := V.kp (LU.right.f12.f12.f12.f12.f12.f12.f12.f12.f12.f12.f12.f12)
                refine dK Hy (fun W hW => (Kp.h hW).f12.f12.f12.f12.f12.f12.f12.f12.f12.f12.f12.f12) ?_
                refine dJ 20 O Hy 7 aG O aj O ?_
                refine dF 21 O (by kernel_rfl) (nO 7 LU aj) ?_
                rintro _ w26 QS
                have PV := V.kp (QS.right.f12.f12.f12.f12.f12.f12.f12.f12.f12.f12.f12.f12)
                refine dK PV (fun W hW => (Kp.h hW).f12.f12.f12.f12.f12.f12.f12.f12.f12.f12.f12.f12) ?_
                refine dJ 22 O PV 8 aG O aj O ?_
                refine dF 23 O (by kernel_rfl) (nO 8 QS aj) ?_
                rintro _ w27 LV
                have PW := V.kp (LV.right.f12.f12.f12.f12.f12.f12.f12.f12.f12.f12.f12.f12)
                refine dK PW (fun W hW => (Kp.h hW).f12.f12.f12.f12.f12.f12.f12.f12.f12.f12.f12.f12) ?_
                refine dJ 24 O PW 9 aG O aj O ?_
                refine dF 25 O (by kernel_rfl) (nO 9 LV aj) ?_
                rintro _ w28 H28
                have WZ := V.kp (H28.f13.f13.f13.f13.f13.f13.f13.f13.f13.f13.f13.f13.f13)
                refine dK WZ (fun W hW => (Kp.h hW).right.f12.f12.f12.f12.f12.f12.f12.f12.f12.f12.f12.f12) ?_
                refine dJ 26 O WZ 10 aG O aj O ?_
                refine dF 27 O (by kernel_rfl) (nO 10 H28 aj) ?_
                rintro _ w29 Yq
                have adi := V.kp (Yq.f13.f13.f13.f13.f13.f13.f13.f13.f13.f13.f13.f13.f13)
                refine gU adi (by kernel_rfl) ?_
                refine lJ (aU (aI ?_))
                have HX := Yq.f13.right.f6.f7.f7.f7.f7.f7.f12.f12.f12.f12.f11.f12
                rw [hr.L, hr.E, hr.uP, hr.saved, show a.c.pt = s.c.pt from (congrArg zQ.pt hr.st).symm, show a.c.mark = s.c.mark from (congrArg zQ.mrk hr.st).symm, show a.c.mode = s.c.mode from (congrArg zQ.mode hr.st).symm,
                  show a.c.over = s.c.over from (congrArg zQ.over hr.st).symm, show a.c.place = s.c.place from (congrArg zQ.place hr.st).symm, show a.rE = s.rE from (congrArg zQ.Lr hr.st).symm, show a.c.res = s.c.res from (congrArg zQ.res hr.st).symm] at HX
                have hlen : s.c.E.length = (nC s.c.E s.c.at_).length := by have h1 := HX.f4.rJ; have h2 := HX.f5.zL; omega
                refine aF (aV (dH aG O jC O O (HX).get.2) (aV (dH aG O jC O O (HX.f2).get.2) (dX O func25 (qj (x := QE s) (l := s.c.L) (ls := nC s.c.E s.c.at_) (S := s.saved) HX (fun W HW => HW.f3.aO) (fun W HW => HW.f7.aO) (fun W HW => hlen ▸ HW.f4.aO) (fun W HW => hlen ▸ HW.f8.aO) (fun k hk W HW => HW.f5.tY hk) (fun k hk W HW => HW.f9.tY hk) (fun W HW => HW.f6.aO) (fun W HW => HW.f10.aO)) ?_)))
                rintro _ w30 ⟨rfl, Vq⟩
                refine aV (jR O) (iR (JF O (fun h14 => ?_)))
                (try simp only [Z] at h14)
                refine bU (aH (aU (aF (aV (fH O O (by omega)) (bW O (bT ?_))))))
                refine dN (k + 1) ?_ ?_ ?_ ?_
                · exact lH
                · exact FC
                · (try dsimp only)
                  first | done | exact ⟨by omega, _, _, by assumption, Vq.right.right.right.right.right.right.right.right.right.right.f2.f2⟩
                · (try dsimp only); omega
          · (try simp only [Z] at h8)
            refine bK (bK (bK (bK (bK (bK (bK (bK (iH O O (iR (oL (gy (aI (bI O (aV (fB O O) (iW O (fun h15 => ?_) (fun h15 => ?_))))))))))))))))
            · (try simp only [Z] at h15)
              refine dR (aP (bH (aU (aF (aV (fH O O (by omega)) (bW O (bT ?_)))))))
              refine dN (k + 1) ?_ ?_ ?_ ?_
              · exact lH
              · exact FC
              · (try dsimp only)
                first | done | exact ⟨by omega, _, _, by assumption, rU.right.right.right.right.right.f3.right.f3.right.f3.right.f3.right.f3.right.f3.right.f2⟩
              · (try dsimp only); omega
            · (try simp only [Z] at h15)
              refine gy (aI (aI ?_))
              have hr := hb (by assumption)
              refine aF (bM 16 aG O fV O (eH gq O (rU).get.2 O (bM 16 aG O fV O (eH gq O (rU.f8).get.2 O (aV (fF O O) (jY O (fun h16 => ?_) (fun h16 => ?_)))))))
              · (try simp only [Z] at h16)
                refine bF (bM 16 aG O fV O (bF (eH gq O (rU).get.2 O (bF (bM 16 aG O fV O (bF (eH gq O (rU.f8).get.2 O (bF (aV (rV O O) (bF (aV (fF O O) (jQ O O (iW O (fun h => by exfalso; (try simp only [Z] at h); rcases hr.lI with b | b; exact absurd b (by assumption); exact h b) (fun h17 => ?_))))))))))))))
                (try simp only [Z] at h17)
                refine gy (aI ?_)
                have aeU := rU.drew
                have uh := V.kp (aeU.right.f12.f12.f12.f12.f12.f12.f12.f12.f12.f12.f12.f12)
                refine nG [1, 3, 5, 7, 9, 11, 13] uh O (dJ 0 O uh 16 aG O fV O (fM 1 O uh (fun W hW => fQ gq O ((Kp.h hW).f7).get.2 O) (dJ 2 O uh 5 aG O aT O (fM 3 O uh (fun W hW => fQ bJ O ((Kp.h hW).f7).get.2 O) (dJ 4 O uh 6 aG O aT O (fM 5 O uh (fun W hW => fQ bJ O ((Kp.h hW).f7).get.2 O) (dJ 6 O uh 7 aG O aj O (fM 7 O uh (fun W hW => fQ aA O ((Kp.h hW).f7).get.2 O) (dJ 8 O uh 8 aG O aj O (fM 9 O uh (fun W hW => fQ aA O ((Kp.h hW).f7).get.2 O) (dJ 10 O uh 9 aG O aj O (fM 11 O uh (fun W hW => fQ aA O ((Kp.h hW).f7).get.2 O) (dJ 12 O uh 10 aG O aj O (fM 13 O uh (fun W hW => fQ aA O ((Kp.h hW).f7).get.2 O) (dJ 14 O uh 16 aG O fV O ?_)))))))))))))))
                refine dF 15 O (by kernel_rfl) (nO 16 aeU fV) ?_
                rintro _ w31 Uk
                have SY := V.kp (Uk.right.f12.f12.f12.f12.f12.f12.f12.f12.f12.f12.f12.f12)
                refine dK SY (fun W hW => (Kp.h hW).f12.f12.f12.f12.f12.f12.f12.f12.f12.f12.f12.f12) ?_
                refine dJ 16 O SY 5 aG O aT O ?_
                refine dF 17 O (by kernel_rfl) (nO 5 Uk aT) ?_
                rintro _ w32 OO
                have Py := V.kp (OO.right.f12.f12.f12.f12.f12.f12.f12.f12.f12.f12.f12.f12)
                refine dK Py (fun W hW => (Kp.h hW).f12.f12.f12.f12.f12.f12.f12.f12.f12.f12.f12.f12) ?_
                refine dJ 18 O Py 6 aG O aT O ?_
                refine dF 19 O (by kernel_rfl) (nO 6 OO aT) ?_
                rintro _ w33 Ul
                have Pz := V.kp (Ul.right.f12.f12.f12.f12.f12.f12.f12.f12.f12.f12.f12.f12)
                refine dK Pz (fun W hW => (Kp.h hW).f12.f12.f12.f12.f12.f12.f12.f12.f12.f12.f12.f12) ?_
                refine dJ 20 O Pz 7 aG O aj O ?_
                refine dF 21 O (by kernel_rfl) (nO 7 Ul aj) ?_
                rintro _ w34 WA
                have KJ := V.kp (WA.right.f12.f12.f12.f12.f12.f12.f12.f12.f12.f12.f12.f12)
                refine dK KJ (fun W hW => (Kp.h hW).f12.f12.f12.f12.f12.f12.f12.f12.f12.f12.f12.f12) ?_
                refine dJ 22 O KJ 8 aG O aj O ?_
                refine dF 23 O (by kernel_rfl) (nO 8 WA aj) ?_
                rintro _ w35 H35
                have Hz := V.kp (H35.right.f12.f12.f12.f12.f12.f12.f12.f12.f12.f12.f12.f12)
                refine dK Hz (fun W hW => (Kp.h hW).f12.f12.f12.f12.f12.f12.f12.f12.f12.f12.f12.f12) ?_
                refine dJ 24 O Hz 9 aG O aj O ?_
                refine dF 25 O (by kernel_rfl) (nO 9 H35 aj) ?_
                rintro _ w36 H36
                have PX := V.kp (H36.f13.f13.f13.f13.f13.f13.f13.f13.f13.f13.f13.f13.f13)
                refine dK PX (fun W hW => (Kp.h hW).right.f12.f12.f12.f12.f12.f12.f12.f12.f12.f12.f12.f12) ?_
                refine dJ 26 O PX 10 aG O aj O ?_
                refine dF 27 O (by kernel_rfl) (nO 10 H36 aj) ?_
                rintro _ w37 H37
                have adj := V.kp (H37.f13.f13.f13.f13.f13.f13.f13.f13.f13.f13.f13.f13.f13)
                refine gU adj (by kernel_rfl) ?_
                refine lJ (aU (aI ?_))
                have HX := H37.f13.right.f6.f7.f7.f7.f7.f7.f12.f12.f12.f12.f11.f12
                rw [hr.L, hr.E, hr.uP, hr.saved, show a.c.pt = s.c.pt from (congrArg zQ.pt hr.st).symm, show a.c.mark = s.c.mark from (congrArg zQ.mrk hr.st).symm, show a.c.mode = s.c.mode from (congrArg zQ.mode hr.st).symm,
                  show a.c.over = s.c.over from (congrArg zQ.over hr.st).symm, show a.c.place = s.c.place from (congrArg zQ.place hr.st).symm, show a.rE = s.rE from (congrArg zQ.Lr hr.st).symm, show a.c.res = s.c.res from (congrArg zQ.res hr.st).symm] at HX
                have hlen : s.c.E.length = (nC s.c.E s.c.at_).length := by have h1 := HX.f4.rJ; have h2 := HX.f5.zL; omega
                refine aF (aV (dH aG O jC O O (HX).get.2) (aV (dH aG O jC O O (HX.f2).get.2) (dX O func25 (qj (x := QE s) (l := s.c.L) (ls := nC s.c.E s.c.at_) (S := s.saved) HX (fun W HW => HW.f3.aO) (fun W HW => HW.f7.aO) (fun W HW => hlen ▸ HW.f4.aO) (fun W HW => hlen ▸ HW.f8.aO) (fun k hk W HW => HW.f5.tY hk) (fun k hk W HW => HW.f9.tY hk) (fun W HW => HW.f6.aO) (fun W HW => HW.f10.aO)) ?_)))
                rintro _ w38 ⟨rfl, WB⟩
                refine aV (jR O) (iR (JF O (fun h18 => ?_)))
                (try simp only [Z] at h18)
                refine bU (aH (aU (aF (aV (fH O O (by omega)) (bW O (bT ?_))))))
                refine dN (k + 1) ?_ ?_ ?_ ?_
                · exact lH
                · exact FC
                · (try dsimp only)
                  first | done | exact ⟨by omega, _, _, by assumption, WB.right.right.right.right.right.right.right.right.right.right.f2.f2⟩
                · (try dsimp only); omega
              · (try simp only [Z] at h16)
                refine bK (bK (bK (bK (bK (bK (iH O O (iR (oL (gy (aI ?_))))))))))
                have aeV := rU.drew
                have uj := V.kp (aeV.right.f12.f12.f12.f12.f12.f12.f12.f12.f12.f12.f12.f12)
                refine nG [1, 3, 5, 7, 9, 11, 13] uj O (dJ 0 O uj 16 aG O fV O (fM 1 O uj (fun W hW => fQ gq O ((Kp.h hW).f7).get.2 O) (dJ 2 O uj 5 aG O aT O (fM 3 O uj (fun W hW => fQ bJ O ((Kp.h hW).f7).get.2 O) (dJ 4 O uj 6 aG O aT O (fM 5 O uj (fun W hW => fQ bJ O ((Kp.h hW).f7).get.2 O) (dJ 6 O uj 7 aG O aj O (fM 7 O uj (fun W hW => fQ aA O ((Kp.h hW).f7).get.2 O) (dJ 8 O uj 8 aG O aj O (fM 9 O uj (fun W hW => fQ aA O ((Kp.h hW).f7).get.2 O) (dJ 10 O uj 9 aG O aj O (fM 11 O uj (fun W hW => fQ aA O ((Kp.h hW).f7).get.2 O) (dJ 12 O uj 10 aG O aj O (fM 13 O uj (fun W hW => fQ aA O ((Kp.h hW).f7).get.2 O) (dJ 14 O uj 16 aG O fV O ?_)))))))))))))))
                refine dF 15 O (by kernel_rfl) (nO 16 aeV fV) ?_
                rintro _ w39 H39
                have Nj := V.kp (H39.right.f12.f12.f12.f12.f12.f12.f12.f12.f12.f12.f12.f12)
                refine dK Nj (fun W hW => (Kp.h hW).f12.f12.f12.f12.f12.f12.f12.f12.f12.f12.f12.f12) ?_
                refine dJ 16 O Nj 5 aG O aT O ?_
                refine dF 17 O (by kernel_rfl) (nO 5 H39 aT) ?_
                rintro _ w40 H40
                have aaq := V.kp (H40.right.f12.f12.f12.f12.f12.f12.f12.f12.f12.f12.f12.f12)
                refine dK aaq (fun W hW => (Kp.h hW).f12.f12.f12.f12.f12.f12.f12.f12.f12.f12.f12.f12) ?_
                refine dJ 18 O aaq 6 aG O aT O ?_
                refine dF 19 O (by kernel_rfl) (nO 6 H40 aT) ?_
                rintro _ w41 H41
                have S9 := V.kp (H41.right.f12.f12.f12.f12.f12.f12.f12.f12.f12.f12.f12.f12)
                refine dK S9 (fun W hW => (Kp.h hW).f12.f12.f12.f12.f12.f12.f12.f12.f12.f12.f12.f12) ?_
                refine dJ 20 O S9 7 aG O aj O ?_
                refine dF 21 O (by kernel_rfl) (nO 7 H41 aj) ?_
                rintro _ w42 H42
                have KL := V.kp (H42.right.f12.f12.f12.f12.f12.f12.f12.f12.f12.f12.f12.f12)
                refine dK KL (fun W hW => (Kp.h hW).f12.f12.f12.f12.f12.f12.f12.f12.f12.f12.f12.f12) ?_
                refine dJ 22 O KL 8 aG O aj O ?_
                refine dF 23 O (by kernel_rfl) (nO 8 H42 aj) ?_
                rintro _ w43 H43
                have Tc := V.kp (H43.right.f12.f12.f12.f12.f12.f12.f12.f12.f12.f12.f12.f12)
                refine dK Tc (fun W hW => (Kp.h hW).f12.f12.f12.f12.f12.f12.f12.f12.f12.f12.f12.f12) ?_
                refine dJ 24 O Tc 9 aG O aj O ?_
                refine dF 25 O (by kernel_rfl) (nO 9 H43 aj) ?_
                rintro _ w44 H44
                have aar := V.kp (H44.f13.f13.f13.f13.f13.f13.f13.f13.f13.f13.f13.f13.f13)
                refine dK aar (fun W hW => (Kp.h hW).right.f12.f12.f12.f12.f12.f12.f12.f12.f12.f12.f12.f12) ?_
                refine dJ 26 O aar 10 aG O aj O ?_
                refine dF 27 O (by kernel_rfl) (nO 10 H44 aj) ?_
                rintro _ w45 UN
                have adk := V.kp (UN.f13.f13.f13.f13.f13.f13.f13.f13.f13.f13.f13.f13.f13)
                refine gU adk (by kernel_rfl) ?_
                refine lJ (aU (aI ?_))
                have HX := UN.f13.right.f6.f7.f7.f7.f7.f7.f12.f12.f12.f12.f11.f12
                rw [hr.L, hr.E, hr.uP, hr.saved, show a.c.pt = s.c.pt from (congrArg zQ.pt hr.st).symm, show a.c.mark = s.c.mark from (congrArg zQ.mrk hr.st).symm, show a.c.mode = s.c.mode from (congrArg zQ.mode hr.st).symm,
                  show a.c.over = s.c.over from (congrArg zQ.over hr.st).symm, show a.c.place = s.c.place from (congrArg zQ.place hr.st).symm, show a.rE = s.rE from (congrArg zQ.Lr hr.st).symm, show a.c.res = s.c.res from (congrArg zQ.res hr.st).symm] at HX
                have hlen : s.c.E.length = (nC s.c.E s.c.at_).length := by have h1 := HX.f4.rJ; have h2 := HX.f5.zL; omega
                refine aF (aV (dH aG O jC O O (HX).get.2) (aV (dH aG O jC O O (HX.f2).get.2) (dX O func25 (qj (x := QE s) (l := s.c.L) (ls := nC s.c.E s.c.at_) (S := s.saved) HX (fun W HW => HW.f3.aO) (fun W HW => HW.f7.aO) (fun W HW => hlen ▸ HW.f4.aO) (fun W HW => hlen ▸ HW.f8.aO) (fun k hk W HW => HW.f5.tY hk) (fun k hk W HW => HW.f9.tY hk) (fun W HW => HW.f6.aO) (fun W HW => HW.f10.aO)) ?_)))
                rintro _ w46 ⟨rfl, H46⟩
                refine aV (jR O) (iR (JF O (fun h19 => ?_)))
                (try simp only [Z] at h19)
                refine bU (aH (aU (aF (aV (fH O O (by omega)) (bW O (bT ?_))))))
                refine dN (k + 1) ?_ ?_ ?_ ?_
                · exact lH
                · exact FC
                · (try dsimp only)
                  first | done | exact ⟨by omega, _, _, by assumption, H46.right.right.right.right.right.right.right.right.right.right.f2.f2⟩
                · (try dsimp only); omega
        · (try simp only [Z] at h7)
          refine bK (bK (bK (bK (bK (iH O O (bW O (bK (bK (bK (bK (bK (bK (bK (bK (iH O O (iR (oL (gy (aI (bI O (aV (fB O O) (iW O (fun h20 => ?_) (fun h20 => ?_)))))))))))))))))))))))
          · (try simp only [Z] at h20)
            refine dR (aP (bH (aU (aF (aV (fH O O (by omega)) (bW O (bT ?_)))))))
            refine dN (k + 1) ?_ ?_ ?_ ?_
            · exact lH
            · exact FC
            · (try dsimp only)
              first | done | exact ⟨by omega, _, _, by assumption, rU.right.right.right.right.right.f3.right.f3.right.f3.right.f3.right.f3.right.f3.right.f2⟩
            · (try dsimp only); omega
          · (try simp only [Z] at h20)
            refine gy (aI (aI ?_))
            have hr := hb (by assumption)
            refine aF (bM 16 aG O fV O (eH gq O (rU).get.2 O (bM 16 aG O fV O (eH gq O (rU.f8).get.2 O (aV (fF O O) (jY O (fun h21 => ?_) (fun h21 => ?_)))))))
            · (try simp only [Z] at h21)
              refine bF (bM 16 aG O fV O (bF (eH gq O (rU).get.2 O (bF (bM 16 aG O fV O (bF (eH gq O (rU.f8).get.2 O (bF (aV (rV O O) (bF (aV (fF O O) (jQ O O (iW O (fun h => by exfalso; (try simp only [Z] at h); rcases hr.lI with b | b; exact absurd b (by assumption); exact h b) (fun h22 => ?_))))))))))))))
              (try simp only [Z] at h22)
              refine gy (aI ?_)
              have aeW := rU.drew
              have um := V.kp (aeW.right.f12.f12.f12.f12.f12.f12.f12.f12.f12.f12.f12.f12)
              refine nG [1, 3, 5, 7, 9, 11, 13] um O (dJ 0 O um 16 aG O fV O (fM 1 O um (fun W hW => fQ gq O ((Kp.h hW).f7).get.2 O) (dJ 2 O um 5 aG O aT O (fM 3 O um (fun W hW => fQ bJ O ((Kp.h hW).f7).get.2 O) (dJ 4 O um 6 aG O aT O (fM 5 O um (fun W hW => fQ bJ O ((Kp.h hW).f7).get.2 O) (dJ 6 O um 7 aG O aj O (fM 7 O um (fun W hW => fQ aA O ((Kp.h hW).f7).get.2 O) (dJ 8 O um 8 aG O aj O (fM 9 O um (fun W hW => fQ aA O ((Kp.h hW).f7).get.2 O) (dJ 10 O um 9 aG O aj O (fM 11 O um (fun W hW => fQ aA O ((Kp.h hW).f7).get.2 O) (dJ 12 O um 10 aG O aj O (fM 13 O um (fun W hW => fQ aA O ((Kp.h hW).f7).get.2 O) (dJ 14 O um 16 aG O fV O ?_)))))))))))))))
              refine dF 15 O (by kernel_rfl) (nO 16 aeW fV) ?_
              rintro _ w47 H47
              have aas := V.kp (H47.right.f12.f12.f12.f12.f12.f12.f12.f12.f12.f12.f12.f12)
              refine dK aas (fun W hW => (Kp.h hW).f12.f12.f12.f12.f12.f12.f12.f12.f12.f12.f12.f12) ?_
              refine dJ 16 O aas 5 aG O aT O ?_
              refine dF 17 O (by kernel_rfl) (nO 5 H47 aT) ?_
              rintro _ w48 H48
              have ag6 := V.kp (H48.right.f12.f12.f12.f12.f12.f12.f12.f12.f12.f12.f12.f12)
              refine dK ag6 (fun W hW => (Kp.h hW).f12.f12.f12.f12.f12.f12.f12.f12.f12.f12.f12.f12) ?_
              refine dJ 18 O ag6 6 aG O aT O ?_
              refine dF 19 O (by kernel_rfl) (nO 6 H48 aT) ?_
              rintro _ w49 H49
              have aaf := V.kp (H49.right.f12.f12.f12.f12.f12.f12.f12.f12.f12.f12.f12.f12)
              refine dK aaf (fun W hW => (Kp.h hW).f12.f12.f12.f12.f12.f12.f12.f12.f12.f12.f12.f12) ?_
              refine dJ 20 O aaf 7 aG O aj O ?_
              refine dF 21 O (by kernel_rfl) (nO 7 H49 aj) ?_
              rintro _ w50 H50
              have WE := V.kp (H50.right.f12.f12.f12.f12.f12.f12.f12.f12.f12.f12.f12.f12)
              refine dK WE (fun W hW => (Kp.h hW).f12.f12.f12.f12.f12.f12.f12.f12.f12.f12.f12.f12) ?_
              refine dJ 22 O WE 8 aG O aj O ?_
              refine dF 23 O (by kernel_rfl) (nO 8 H50 aj) ?_
              rintro _ w51 H51
              have PD := V.kp (H51.right.f12.f12.f12.f12.f12.f12.f12.f12.f12.f12.f12.f12)
              refine dK PD (fun W hW => (Kp.h hW).f12.f12.f12.f12.f12.f12.f12.f12.f12.f12.f12.f12) ?_
              refine dJ 24 O PD 9 aG O aj O ?_
              refine dF 25 O (by kernel_rfl) (nO 9 H51 aj) ?_
              rintro _ w52 H52
              have aag := V.kp (H52.f13.f13.f13.f13.f13.f13.f13.f13.f13.f13.f13.f13.f13)
              refine dK aag (fun W hW => (Kp.h hW).right.f12.f12.f12.f12.f12.f12.f12.f12.f12.f12.f12.f12) ?_
              refine dJ 26 O aag 10 aG O aj O ?_
              refine dF 27 O (by kernel_rfl) (nO 10 H52 aj) ?_
              rintro _ w53 H53
              have aap := V.kp (H53.f13.f13.f13.f13.f13.f13.f13.f13.f13.f13.f13.f13.f13)
              refine gU aap (by kernel_rfl) ?_
              refine lJ (aU (aI ?_))
              have HX := H53.f13.right.f6.f7.f7.f7.f7.f7.f12.f12.f12.f12.f11.f12
              rw [hr.L, hr.E, hr.uP, hr.saved, show a.c.pt = s.c.pt from (congrArg zQ.pt hr.st).symm, show a.c.mark = s.c.mark from (congrArg zQ.mrk hr.st).symm, show a.c.mode = s.c.mode from (congrArg zQ.mode hr.st).symm,
                show a.c.over = s.c.over from (congrArg zQ.over hr.st).symm, show a.c.place = s.c.place from (congrArg zQ.place hr.st).symm, show a.rE = s.rE from (congrArg zQ.Lr hr.st).symm, show a.c.res = s.c.res from (congrArg zQ.res hr.st).symm] at HX
              have hlen : s.c.E.length = (nC s.c.E s.c.at_).length := by have h1 := HX.f4.rJ; have h2 := HX.f5.zL; omega
              refine aF (aV (dH aG O jC O O (HX).get.2) (aV (dH aG O jC O O (HX.f2).get.2) (dX O func25 (qj (x := QE s) (l := s.c.L) (ls := nC s.c.E s.c.at_) (S := s.saved) HX (fun W HW => HW.f3.aO) (fun W HW => HW.f7.aO) (fun W HW => hlen ▸ HW.f4.aO) (fun W HW => hlen ▸ HW.f8.aO) (fun k hk W HW => HW.f5.tY hk) (fun k hk W HW => HW.f9.tY hk) (fun W HW => HW.f6.aO) (fun W HW => HW.f10.aO)) ?_)))
              rintro _ w54 ⟨rfl, H54⟩
              refine aV (jR O) (iR (JF O (fun h23 => ?_)))
              (try simp only [Z] at h23)
              refine bU (aH (aU (aF (aV (fH O O (by omega)) (bW O (bT ?_))))))
              refine dN (k + 1) ?_ ?_ ?_ ?_
              · exact lH
              · exact FC
              · (try dsimp only)
                first | done | exact ⟨by omega, _, _, by assumption, H54.right.right.right.right.right.right.right.right.right.right.f2.f2⟩
              · (try dsimp only); omega
            · (try simp only [Z] at h21)
              refine bK (bK (bK (bK (bK (bK (iH O O (iR (oL (gy (aI ?_))))))))))
              have aeX := rU.drew
              have uo := V.kp (aeX.right.f12.f12.f12.f12.f12.f12.f12.f12.f12.f12.f12.f12)
              refine nG [1, 3, 5, 7, 9, 11, 13] uo O (dJ 0 O uo 16 aG O fV O (fM 1 O uo (fun W hW => fQ gq O ((Kp.h hW).f7).get.2 O) (dJ 2 O uo 5 aG O aT O (fM 3 O uo (fun W hW => fQ bJ O ((Kp.h hW).f7).get.2 O) (dJ 4 O uo 6 aG O aT O (fM 5 O uo (fun W hW => fQ bJ O ((Kp.h hW).f7).get.2 O) (dJ 6 O uo 7 aG O aj O (fM 7 O uo (fun W hW => fQ aA O ((Kp.h hW).f7).get.2 O) (dJ 8 O uo 8 aG O aj O (fM 9 O uo (fun W hW => fQ aA O ((Kp.h hW).f7).get.2 O) (dJ 10 O uo 9 aG O aj O (fM 11 O uo (fun W hW => fQ aA O ((Kp.h hW).f7).get.2 O) (dJ 12 O uo 10 aG O aj O (fM 13 O uo (fun W hW => fQ aA O ((Kp.h hW).f7).get.2 O) (dJ 14 O uo 16 aG O fV O ?_)))))))))))))))
              refine dF 15 O (by kernel_rfl) (nO 16 aeX fV) ?_
              rintro _ w55 H55
              have ag7 := V.kp (H55.right.f12.f12.f12.f12.f12.f12.f12.f12.f12.f12.f12.f12)
              refine dK ag7 (fun W hW => (Kp.h hW).f12.f12.f12.f12.f12.f12.f12.f12.f12.f12.f12.f12) ?_
              refine dJ 16 O ag7 5 aG O aT O ?_
              refine dF 17 O (by kernel_rfl) (nO 5 H55 aT) ?_
              rintro _ w56 H56
              have ag8 := V.kp (H56.right.f12.f12.f12.f12.f12.f12.f12.f12.f12.f12.f12.f12)
              refine dK ag8 (fun W hW => (Kp.h hW).f12.f12.f12.f12.f12.f12.f12.f12.f12.f12.f12.f12) ?_
              refine dJ 18 O ag8 6 aG O aT O ?_
              refine dF 19 O (by kernel_rfl) (nO 6 H56 aT) ?_
              rintro _ w57 H57
              have ag9 := V.kp (H57.right.f12.f12.f12.f12.f12.f12.f12.f12.f12.f12.f12.f12)
              refine dK ag9 (fun W hW => (Kp.h hW).f12.f12.f12.f12.f12.f12.f12.f12.f12.f12.f12.f12) ?_
              refine dJ 20 O ag9 7 aG O aj O ?_
              refine dF 21 O (by kernel_rfl) (nO 7 H57 aj) ?_
              rintro _ w58 H58
              have aah := V.kp (H58.right.f12.f12.f12.f12.f12.f12.f12.f12.f12.f12.f12.f12)
              refine dK aah (fun W hW => (Kp.h hW).f12.f12.f12.f12.f12.f12.f12.f12.f12.f12.f12.f12) ?_
              refine dJ 22 O aah 8 aG O aj O ?_
              refine dF 23 O (by kernel_rfl) (nO 8 H58 aj) ?_
              rintro _ w59 H59
              have aai := V.kp (H59.right.f12.f12.f12.f12.f12.f12.f12.f12.f12.f12.f12.f12)
              refine dK aai (fun W hW => (Kp.h hW).f12.f12.f12.f12.f12.f12.f12.f12.f12.f12.f12.f12) ?_
              refine dJ 24 O aai 9 aG O aj O ?_
              refine dF 25 O (by kernel_rfl) (nO 9 H59 aj) ?_
              rintro _ w60 H60
              have WG := V.kp (H60.f13.f13.f13.f13.f13.f13.f13.f13.f13.f13.f13.f13.f13)
              refine dK WG (fun W hW => (Kp.h hW).right.f12.f12.f12.f12.f12.f12.f12.f12.f12.f12.f12.f12) ?_
              refine dJ 26 O WG 10 aG O aj O ?_
              refine dF 27 O (by kernel_rfl) (nO 10 H60 aj) ?_
              rintro _ w61 H61
              have Td := V.kp (H61.f13.f13.f13.f13.f13.f13.f13.f13.f13.f13.f13.f13.f13)
              refine gU Td (by kernel_rfl) ?_
              refine lJ (aU (aI ?_))
              have HX := H61.f13.right.f6.f7.f7.f7.f7.f7.f12.f12.f12.f12.f11.f12
              rw [hr.L, hr.E, hr.uP, hr.saved, show a.c.pt = s.c.pt from (congrArg zQ.pt hr.st).symm, show a.c.mark = s.c.mark from (congrArg zQ.mrk hr.st).symm, show a.c.mode = s.c.mode from (congrArg zQ.mode hr.st).symm,
                show a.c.over = s.c.over from (congrArg zQ.over hr.st).symm, show a.c.place = s.c.place from (congrArg zQ.place hr.st).symm, show a.rE = s.rE from (congrArg zQ.Lr hr.st).symm, show a.c.res = s.c.res from (congrArg zQ.res hr.st).symm] at HX
              have hlen : s.c.E.length = (nC s.c.E s.c.at_).length := by have h1 := HX.f4.rJ; have h2 := HX.f5.zL; omega
              refine aF (aV (dH aG O jC O O (HX).get.2) (aV (dH aG O jC O O (HX.f2).get.2) (dX O func25 (qj (x := QE s) (l := s.c.L) (ls := nC s.c.E s.c.at_) (S := s.saved) HX (fun W HW => HW.f3.aO) (fun W HW => HW.f7.aO) (fun W HW => hlen ▸ HW.f4.aO) (fun W HW => hlen ▸ HW.f8.aO) (fun k hk W HW => HW.f5.tY hk) (fun k hk W HW => HW.f9.tY hk) (fun W HW => HW.f6.aO) (fun W HW => HW.f10.aO)) ?_)))
              rintro _ w62 ⟨rfl, H62⟩
              refine aV (jR O) (iR (JF O (fun h24 => ?_)))
              (try simp only [Z] at h24)
              refine bU (aH (aU (aF (aV (fH O O (by omega)) (bW O (bT ?_))))))
              refine dN (k + 1) ?_ ?_ ?_ ?_
              · exact lH
              · exact FC
              · (try dsimp only)
                first | done | exact ⟨by omega, _, _, by assumption, H62.right.right.right.right.right.right.right.right.right.right.f2.f2⟩
              · (try dsimp only); omega
      · (try simp only [Z] at h6)
        refine bK (bK (bK (iH O O (bW O (bK (bK (bK (bK (bK (iH O O (bW O (bK (bK (bK (bK (bK (bK (bK (bK (iH O O (iR (oL (gy (aI (bI O (aV (fB O O) (iW O (fun h25 => ?_) (fun h25 => ?_))))))))))))))))))))))))))))
        · (try simp only [Z] at h25)
          refine dR (aP (bH (aU (aF (aV (fH O O (by omega)) (bW O (bT ?_)))))))
          refine dN (k + 1) ?_ ?_ ?_ ?_
          · exact lH
          · exact FC
          · (try dsimp only)
            first | done | exact ⟨by omega, _, _, by assumption, rU.right.right.right.right.right.f3.right.f3.right.f3.right.f3.right.f3.right.f3.right.f2⟩
          · (try dsimp only); omega
        · (try simp only [Z] at h25)
          refine gy (aI (aI ?_))
          have hr := hb (by assumption)
          refine aF (bM 16 aG O fV O (eH gq O (rU).get.2 O (bM 16 aG O fV O (eH gq O (rU.f8).get.2 O (aV (fF O O) (jY O (fun h26 => ?_) (fun h26 => ?_)))))))
          · (try simp only [Z] at h26)
            refine bF (bM 16 aG O fV O (bF (eH gq O (rU).get.2 O (bF (bM 16 aG O fV O (bF (eH gq O (rU.f8).get.2 O (bF (aV (rV O O) (bF (aV (fF O O) (jQ O O (iW O (fun h => by exfalso; (try simp only [Z] at h); rcases hr.lI with b | b; exact absurd b (by assumption); exact h b) (fun h27 => ?_))))))))))))))
            (try simp only [Z] at h27)
            refine gy (aI ?_)
            have aeY := rU.drew
            have uq := V.kp (aeY.right.f12.f12.f12.f12.f12.f12.f12.f12.f12.f12.f12.f12)
            refine nG [1, 3, 5, 7, 9, 11, 13] uq O (dJ 0 O uq 16 aG O fV O (fM 1 O uq (fun W hW => fQ gq O ((Kp.h hW).f7).get.2 O) (dJ 2 O uq 5 aG O aT O (fM 3 O uq (fun W hW => fQ bJ O ((Kp.h hW).f7).get.2 O) (dJ 4 O uq 6 aG O aT O (fM 5 O uq (fun W hW => fQ bJ O ((Kp.h hW).f7).get.2 O) (dJ 6 O uq 7 aG O aj O (fM 7 O uq (fun W hW => fQ aA O ((Kp.h hW).f7).get.2 O) (dJ 8 O uq 8 aG O aj O (fM 9 O uq (fun W hW => fQ aA O ((Kp.h hW).f7).get.2 O) (dJ 10 O uq 9 aG O aj O (fM 11 O uq (fun W hW => fQ aA O ((Kp.h hW).f7).get.2 O) (dJ 12 O uq 10 aG O aj O (fM 13 O uq (fun W hW => fQ aA O ((Kp.h hW).f7).get.2 O) (dJ 14 O uq 16 aG O fV O ?_)))))))))))))))
            refine dF 15 O (by kernel_rfl) (nO 16 aeY fV) ?_
            rintro _ w63 H63
            have aha := V.kp (H63.right.f12.f12.f12.f12.f12.f12.f12.f12.f12.f12.f12.f12)
            refine dK aha (fun W hW => (Kp.h hW).f12.f12.f12.f12.f12.f12.f12.f12.f12.f12.f12.f12) ?_
            refine dJ 16 O aha 5 aG O aT O ?_
            refine dF 17 O (by kernel_rfl) (nO 5 H63 aT) ?_
            rintro _ w64 H64
            have ahb := V.kp (H64.right.f12.f12.f12.f12.f12.f12.f12.f12.f12.f12.f12.f12)
            refine dK ahb (fun W hW => (Kp.h hW).f12.f12.f12.f12.f12.f12.f12.f12.f12.f12.f12.f12) ?_
            refine dJ 18 O ahb 6 aG O aT O ?_
            refine dF 19 O (by kernel_rfl) (nO 6 H64 aT) ?_
            rintro _ w65 H65
            have ahc := V.kp (H65.right.f12.f12.f12.f12.f12.f12.f12.f12.f12.f12.f12.f12)
            refine dK ahc (fun W hW => (Kp.h hW).f12.f12.f12.f12.f12.f12.f12.f12.f12.f12.f12.f12) ?_
            refine dJ 20 O ahc 7 aG O aj O ?_
            refine dF 21 O (by kernel_rfl) (nO 7 H65 aj) ?_
            rintro _ w66 H66
            have ahd := V.kp (H66.right.f12.f12.f12.f12.f12.f12.f12.f12.f12.f12.f12.f12)
            refine dK ahd (fun W hW => (Kp.h hW).f12.f12.f12.f12.f12.f12.f12.f12.f12.f12.f12.f12) ?_
            refine dJ 22 O ahd 8 aG O aj O ?_
            refine dF 23 O (by kernel_rfl) (nO 8 H66 aj) ?_
            rintro _ w67 H67
            have ahe := V.kp (H67.right.f12.f12.f12.f12.f12.f12.f12.f12.f12.f12.f12.f12)
            refine dK ahe (fun W hW => (Kp.h hW).f12.f12.f12.f12.f12.f12.f12.f12.f12.f12.f12.f12) ?_
            refine dJ 24 O ahe 9 aG O aj O ?_
            refine dF 25 O (by kernel_rfl) (nO 9 H67 aj) ?_
            rintro _ w68 H68
            have aaj := V.kp (H68.f13.f13.f13.f13.f13.f13.f13.f13.f13.f13.f13.f13.f13)
            refine dK aaj (fun W hW => (Kp.h hW).right.f12.f12.f12.f12.f12.f12.f12.f12.f12.f12.f12.f12) ?_
            refine dJ 26 O aaj 10 aG O aj O ?_
            refine dF 27 O (by kernel_rfl) (nO 10 H68 aj) ?_
            rintro _ w69 H69
            have aak := V.kp (H69.f13.f13.f13.f13.f13.f13.f13.f13.f13.f13.f13.f13.f13)
            refine gU aak (by kernel_rfl) ?_
            refine lJ (aU (aI ?_))
            have HX := H69.f13.right.f6.f7.f7.f7.f7.f7.f12.f12.f12.f12.f11.f12
            rw [hr.L, hr.E, hr.uP, hr.saved, show a.c.pt = s.c.pt from (congrArg zQ.pt hr.st).symm, show a.c.mark = s.c.mark from (congrArg zQ.mrk hr.st).symm, show a.c.mode = s.c.mode from (congrArg zQ.mode hr.st).symm,
              show a.c.over = s.c.over from (congrArg zQ.over hr.st).symm, show a.c.place = s.c.place from (congrArg zQ.place hr.st).symm, show a.rE = s.rE from (congrArg zQ.Lr hr.st).symm, show a.c.res = s.c.res from (congrArg zQ.res hr.st).symm] at HX
            have hlen : s.c.E.length = (nC s.c.E s.c.at_).length := by have h1 := HX.f4.rJ; have h2 := HX.f5.zL; omega
            refine aF (aV (dH aG O jC O O (HX).get.2) (aV (dH aG O jC O O (HX.f2).get.2) (dX O func25 (qj (x := QE s) (l := s.c.L) (ls := nC s.c.E s.c.at_) (S := s.saved) HX (fun W HW => HW.f3.aO) (fun W HW => HW.f7.aO) (fun W HW => hlen ▸ HW.f4.aO) (fun W HW => hlen ▸ HW.f8.aO) (fun k hk W HW => HW.f5.tY hk) (fun k hk W HW => HW.f9.tY hk) (fun W HW => HW.f6.aO) (fun W HW => HW.f10.aO)) ?_)))
            rintro _ w70 ⟨rfl, H70⟩
            refine aV (jR O) (iR (JF O (fun h28 => ?_)))
            (try simp only [Z] at h28)
            refine bU (aH (aU (aF (aV (fH O O (by omega)) (bW O (bT ?_))))))
            refine dN (k + 1) ?_ ?_ ?_ ?_
            · exact lH
            · exact FC
            · (try dsimp only)
              first | done | exact ⟨by omega, _, _, by assumption, H70.right.right.right.right.right.right.right.right.right.right.f2.f2⟩
            · (try dsimp only); omega
          · (try simp only [Z] at h26)
            refine bK (bK (bK (bK (bK (bK (iH O O (iR (oL (gy (aI ?_))))))))))
            have aeZ := rU.drew
            have uw := V.kp (aeZ.right.f12.f12.f12.f12.f12.f12.f12.f12.f12.f12.f12.f12)
            refine nG [1, 3, 5, 7, 9, 11, 13] uw O (dJ 0 O uw 16 aG O fV O (fM 1 O uw (fun W hW => fQ gq O ((Kp.h hW).f7).get.2 O) (dJ 2 O uw 5 aG O aT O (fM 3 O uw (fun W hW => fQ bJ O ((Kp.h hW).f7).get.2 O) (dJ 4 O uw 6 aG O aT O (fM 5 O uw (fun W hW => fQ bJ O ((Kp.h hW).f7).get.2 O) (dJ 6 O uw 7 aG O aj O (fM 7 O uw (fun W hW => fQ aA O ((Kp.h hW).f7).get.2 O) (dJ 8 O uw 8 aG O aj O (fM 9 O uw (fun W hW => fQ aA O ((Kp.h hW).f7).get.2 O) (dJ 10 O uw 9 aG O aj O (fM 11 O uw (fun W hW => fQ aA O ((Kp.h hW).f7).get.2 O) (dJ 12 O uw 10 aG O aj O (fM 13 O uw (fun W hW => fQ aA O ((Kp.h hW).f7).get.2 O) (dJ 14 O uw 16 aG O fV O ?_)))))))))))))))
            refine dF 15 O (by kernel_rfl) (nO 16 aeZ fV) ?_
            rintro _ w71 H71
            have aam := V.kp (H71.right.f12.f12.f12.f12.f12.f12.f12.f12.f12.f12.f12.f12)
            refine dK aam (fun W hW => (Kp.h hW).f12.f12.f12.f12.f12.f12.f12.f12.f12.f12.f12.f12) ?_
            refine dJ 16 O aam 5 aG O aT O ?_
            refine dF 17 O (by kernel_rfl) (nO 5 H71 aT) ?_
            rintro _ w72 H72
            have ahf := V.kp (H72.right.f12.f12.f12.f12.f12.f12.f12.f12.f12.f12.f12.f12)
            refine dK ahf (fun W hW => (Kp.h hW).f12.f12.f12.f12.f12.f12.f12.f12.f12.f12.f12.f12) ?_
            refine dJ 18 O ahf 6 aG O aT O ?_
            refine dF 19 O (by kernel_rfl) (nO 6 H72 aT) ?_
            rintro _ w73 H73
            have ahg := V.kp (H73.right.f12.f12.f12.f12.f12.f12.f12.f12.f12.f12.f12.f12)
            refine dK ahg (fun W hW => (Kp.h hW).f12.f12.f12.f12.f12.f12.f12.f12.f12.f12.f12.f12) ?_
            refine dJ 20 O ahg 7 aG O aj O ?_
            refine dF 21 O (by kernel_rfl) (nO 7 H73 aj) ?_
            rintro _ w74 H74
            have ahh := V.kp (H74.right.f12.f12.f12.f12.f12.f12.f12.f12.f12.f12.f12.f12)
            refine dK ahh (fun W hW => (Kp.h hW).f12.f12.f12.f12.f12.f12.f12.f12.f12.f12.f12.f12) ?_
            refine dJ 22 O ahh 8 aG O aj O ?_
            refine dF 23 O (by kernel_rfl) (nO 8 H74 aj) ?_
            rintro _ w75 H75
            have ahi := V.kp (H75.right.f12.f12.f12.f12.f12.f12.f12.f12.f12.f12.f12.f12)
            refine dK ahi (fun W hW => (Kp.h hW).f12.f12.f12.f12.f12.f12.f12.f12.f12.f12.f12.f12) ?_
            refine dJ 24 O ahi 9 aG O aj O ?_
            refine dF 25 O (by kernel_rfl) (nO 9 H75 aj) ?_
            rintro _ w76 H76
            have ahj := V.kp (H76.f13.f13.f13.f13.f13.f13.f13.f13.f13.f13.f13.f13.f13)
            refine dK ahj (fun W hW => (Kp.h hW).right.f12.f12.f12.f12.f12.f12.f12.f12.f12.f12.f12.f12) ?_
            refine dJ 26 O ahj 10 aG O aj O ?_
            refine dF 27 O (by kernel_rfl) (nO 10 H76 aj) ?_
            rintro _ w77 H77
            have akd := V.kp (H77.f13.f13.f13.f13.f13.f13.f13.f13.f13.f13.f13.f13.f13)
            refine gU akd (by kernel_rfl) ?_
            refine lJ (aU (aI ?_))
            have HX := H77.f13.right.f6.f7.f7.f7.f7.f7.f12.f12.f12.f12.f11.f12
            rw [hr.L, hr.E, hr.uP, hr.saved, show a.c.pt = s.c.pt from (congrArg zQ.pt hr.st).symm, show a.c.mark = s.c.mark from (congrArg zQ.mrk hr.st).symm, show a.c.mode = s.c.mode from (congrArg zQ.mode hr.st).symm,
              show a.c.over = s.c.over from (congrArg zQ.over hr.st).symm, show a.c.place = s.c.place from (congrArg zQ.place hr.st).symm, show a.rE = s.rE from (congrArg zQ.Lr hr.st).symm, show a.c.res = s.c.res from (congrArg zQ.res hr.st).symm] at HX
            have hlen : s.c.E.length = (nC s.c.E s.c.at_).length := by have h1 := HX.f4.rJ; have h2 := HX.f5.zL; omega
            refine aF (aV (dH aG O jC O O (HX).get.2) (aV (dH aG O jC O O (HX.f2).get.2) (dX O func25 (qj (x := QE s) (l := s.c.L) (ls := nC s.c.E s.c.at_) (S := s.saved) HX (fun W HW => HW.f3.aO) (fun W HW => HW.f7.aO) (fun W HW => hlen ▸ HW.f4.aO) (fun W HW => hlen ▸ HW.f8.aO) (fun k hk W HW => HW.f5.tY hk) (fun k hk W HW => HW.f9.tY hk) (fun W HW => HW.f6.aO) (fun W HW => HW.f10.aO)) ?_)))
            rintro _ w78 ⟨rfl, H78⟩
            refine aV (jR O) (iR (JF O (fun h29 => ?_)))
            (try simp only [Z] at h29)
            refine bU (aH (aU (aF (aV (fH O O (by omega)) (bW O (bT ?_))))))
            refine dN (k + 1) ?_ ?_ ?_ ?_
            · exact lH
            · exact FC
            · (try dsimp only)
              first | done | exact ⟨by omega, _, _, by assumption, H78.right.right.right.right.right.right.right.right.right.right.f2.f2⟩
            · (try dsimp only); omega
  · (try simp only [Z] at h4)
    refine dR (aP (aP (bH (aU (jS O (dL results5 O ?_))))))
    exact ⟨O, HL.base⟩
end
end Go.Proofs.YtpdeedplgmbopaaGreatDoor
end
section
set_option maxRecDepth 100000
namespace Go.Proofs.YtpdeedplgmbopaaGreatDoor
open Go.ChangeShapes Go.WideShapes Go.ChangeAt Go.RowKit
theorem ae0 {H : Type} {enc : TypeId × Value → H} {W : World} {B : Nat} {cs : List Value} (h : Jg B enc Tryz.prog W 44 cs) : ∃ x0 v1 x1 v2 x2 x3 x4, cs = [.string x0, v1, v2, .int .i64 x3, .int .i64 x4] ∧ x0.size ≤ B ∧ (gB W .i32 v1 x1 ∧ x1.length * 4 ≤ B ∧ ∀ n ∈ x1, (Lit.int .i32 n).wf = true) ∧ (gB W .i32 v2 x2 ∧ x2.length * 4 ≤ B ∧ ∀ n ∈ x2, (Lit.int .i32 n).wf = true) ∧ (Lit.int .i64 x3).wf = true ∧ (Lit.int .i64 x4).wf = true := by
  obtain ⟨hl, hf⟩ := h.struct Tryz.underlying44
  rw [show Tryz.prog.cellsOf 44 = 5 from by kernel_rfl] at hl
  match cs, hl with
  | [c0, c1, c2, c3, c4], _ =>
    have h0 : Jg B enc Tryz.prog W 9 (([c0, c1, c2, c3, c4].drop 0).take (Tryz.prog.cellsOf 9)) := hf 0 _ rfl
    rw [show Tryz.prog.cellsOf 9 = 1 from by kernel_rfl] at h0
    obtain ⟨x0, e0, w0⟩ := h0.string Tryz.underlying9
    have h1 : Jg B enc Tryz.prog W 22 (([c0, c1, c2, c3, c4].drop 1).take (Tryz.prog.cellsOf 22)) := hf 1 _ rfl
    rw [show Tryz.prog.cellsOf 22 = 1 from by kernel_rfl] at h1
    obtain ⟨v1, x1, e1, g1, b1, w1⟩ := h1.ints Tryz.underlying22 Tryz.underlying21 (by kernel_rfl)
    rw [show Tryz.prog.bytesOf 21 = 4 from by kernel_rfl] at b1
    have h2 : Jg B enc Tryz.prog W 22 (([c0, c1, c2, c3, c4].drop 2).take (Tryz.prog.cellsOf 22)) := hf 2 _ rfl
    rw [show Tryz.prog.cellsOf 22 = 1 from by kernel_rfl] at h2
    obtain ⟨v2, x2, e2, g2, b2, w2⟩ := h2.ints Tryz.underlying22 Tryz.underlying21 (by kernel_rfl)
    rw [show Tryz.prog.bytesOf 21 = 4 from by kernel_rfl] at b2
    have h3 : Jg B enc Tryz.prog W 3 (([c0, c1, c2, c3, c4].drop 3).take (Tryz.prog.cellsOf 3)) := hf 3 _ rfl
    rw [show Tryz.prog.cellsOf 3 = 1 from by kernel_rfl] at h3
    obtain ⟨x3, e3, w3⟩ := h3.int Tryz.underlying3
    have h4 : Jg B enc Tryz.prog W 3 (([c0, c1, c2, c3, c4].drop 4).take (Tryz.prog.cellsOf 3)) := hf 4 _ rfl
    rw [show Tryz.prog.cellsOf 3 = 1 from by kernel_rfl] at h4
    obtain ⟨x4, e4, w4⟩ := h4.int Tryz.underlying3
    simp only [List.drop, List.take, List.cons.injEq, and_true] at e0 e1 e2 e3 e4
    exact ⟨x0, v1, x1, v2, x2, x3, x4, by simp_all, w0, ⟨g1, b1, w1⟩, ⟨g2, b2, w2⟩, w3, w4⟩
theorem ae1 {H : Type} {enc : TypeId × Value → H} {W : World} {n : Nat} {xs : List Value} (hx : xs.length = n * 5) (h : ∀ k, k < n → In enc Tryz.prog W 44 ((xs.drop (k * 5)).take 5)) :
    ∃ l : List LH, l.length = n ∧ xs = l.flatMap LH.enc ∧ ∀ k, k < n → (l.getD k default).Reads W :=
  afk (enc := LH.enc) (p := fun o => o.Reads W) hx (fun k hk => by
    obtain ⟨name, kv, keys, tv, typ, a, b, e, -, ⟨g1, b1, -⟩, ⟨g2, -, -⟩, -, -⟩ := ae0 (h k hk)
    unfold reachBytes at b1
    exact ⟨⟨name, kv, keys, tv, a, b⟩, e, ⟨g1, by dsimp only; omega, Rd.one g2⟩⟩)
set_option maxRecDepth 100000 in
theorem QM (os : Os) (started : os.Started) (H : Type) (enc : TypeId × Value → H) :
    ReturnsInHanded {} Tryz.checked os 5 .any (fun w args => (Rows.viStaysSpec.pre enc Tryz.prog Tryz.f5 Rows.viStaysRow.domain false w args ∧ laidMetH Tryz.prog ZR w) ∧ sizedMet enc Tryz.prog Tryz.f5 (OpenSpec.ofChange Rows.viStaysSpec) false w args) (Rows.viStaysSpec.post enc Tryz.prog Tryz.f5 false true false false) := by
  refine QX (C := Tryz.checked) (tb := 4) _ own laid started (by kernel_rfl) Tryz.func5 (congrArg Array.toList Tryz.params5) rfl Tryz.underlying4 rfl (by kernel_rfl) (fun ds hd => ?_)
    (ChangeSpec.witness_shaped (enc := enc) (C := Tryz.checked) (os := os) (X := fun w _ => laidMetH Tryz.prog ZR w) false (World.doorLaid Tryz.prog 400 os) #[.slice none 0 0, .slice none 0 0] 8 rfl (World.shaped_of_RefB (by kernel_rfl) (by kernel_rfl)) (by kernel_rfl) (by kernel_rfl) (by kernel_rfl) (acr os _)) ?_
  · obtain ⟨a0, a1, rfl⟩ := aff hd
    rfl
  intro W args hL hin
  have hT := afi hL
  obtain ⟨v1, v2, rfl, ⟨⟨_, o1⟩, i1⟩, ⟨⟨_, o2⟩, i2⟩⟩ := hin.two
  obtain ⟨a1, n1, c1, rfl⟩ := okWide_slice Tryz.underlying22 o1
  obtain ⟨a2, n2, c2, rfl⟩ := okWide_slice Tryz.underlying36 o2
  obtain ⟨v, l, e1, g1, bl, -⟩ := i1.ints Tryz.underlying22 Tryz.underlying21 (by kernel_rfl)
  obtain rfl := List.singleton_inj.1 e1
  obtain ⟨u, n', xs', e2, h1, h2, h3⟩ := i2.slice Tryz.underlying36 (by rw [show Tryz.prog.cellsOf 44 = 5 from by kernel_rfl]; decide)
  rw [show Tryz.prog.cellsOf 44 = 5 from by kernel_rfl] at h1 h3
  rw [show Tryz.prog.bytesOf 44 = 80 from by kernel_rfl] at h2
  obtain rfl := List.singleton_inj.1 e2
  obtain ⟨cs, k1, k2, k3⟩ := ae1 h1.len h3
  subst k1 k2
  unfold reachBytes at h2
  exact aeR hT g1 h1 k3 (by omega)
theorem QN : Rows.ViStaysSaid :=
  OpenClaim.holds_of_wide 5 Tryz.f5 rfl rfl rfl rfl rfl rfl rfl ⟨rfl, rfl, rfl, rfl, rfl⟩ rfl rfl rfl rfl rfl (by kernel_rfl) Tryz.func5 (by kernel_rfl)
    (of_decide_eq_true (by kernel_rfl)) (by unfold Func.isWrapper; first | (rw [if_pos (by decide +kernel)]; kernel_rfl) | (rw [if_neg (by decide +kernel)]; exact ⟨rfl, rfl⟩))
    (fun os started H enc _ => QM os started H enc)
theorem viStays_card : Rows.ViStaysCardSaid :=
  Claim7.holds_tied_plain_at .later [] [.widerDeep, .widerDeep] true (true, "99a5bb9fd978799d876f5c744ef21e54f7b6a4f05c2918ab827c141780b2be91") false
    QN (fun _ h => by cases h) (by kernel_rfl) (fun _ h => by cases h) viStays_row_tie rfl ⟨rfl, rfl⟩ (by kernel_rfl) rfl
    (fun f fn hf hfn => by
      obtain rfl : f = 5 := Option.some.inj ((show Tryz.prog.funcNamed "lanyard/lanyardlaw19.ViStays" = some 5 by kernel_rfl).symm.trans hf) |>.symm
      obtain rfl : fn = Tryz.f5 := (Option.some.inj (Tryz.func5.symm.trans hfn)).symm
      exact ⟨by kernel_rfl, fun j t ht => by
        rw [Tryz.params5] at ht
        have hm : t ∈ [22, 36] := by simpa using Array.mem_of_getElem? ht
        have hall : ([22, 36].all fun u => !Tryz.prog.wantsStandIn u) = true := by kernel_rfl
        exact (show Tryz.prog.wantsStandIn t = false by simpa using List.all_eq_true.1 hall t hm)⟩)
    (by kernel_rfl)
end Go.Proofs.YtpdeedplgmbopaaGreatDoor
end
