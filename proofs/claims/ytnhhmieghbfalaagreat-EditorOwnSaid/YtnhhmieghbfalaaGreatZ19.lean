import Derived.Test.YtnhhmieghbfalaaGreatZ4
import Derived.Test.YtnhhmieghbfalaaGreatZ18
import Derived.Test.YtnhhmieghbfalaaGreatZ14
set_option linter.unusedSimpArgs false
set_option linter.unusedVariables false
/- Texts of mine, joined, their names in short: REdE REdN REdK REdU REdV REdG REdS. -/
section
namespace Go.Proofs.YtnhhmieghbfalaaGreat
open Go.RowKit
open _root_.Go.Proofs.Tryz
theorem gB.bad {s : bP} {es : List fB} {A A' : List LE} {yf yt : Int} (h : gB s es A yf yt) (hin : s.inn = true) (hA : _root_.Go.Proofs.YtnhhmieghbfalaaGreat.CS A' = s.was.un) (hP : wC s.hl A') : gB s.zf [] A' yf yt :=
  ⟨UE h.ok hin, ⟨(h.rx.2.1 hin).1, fun hi => absurd hi (by show ¬ false = true; decide), fun hi => absurd hi (by show ¬ false = true; decide)⟩, rfl, hA, hP, fun hi => absurd hi (by show ¬ false = true; decide)⟩
theorem xP (s : bP) : s.kK = { s with c := { s.c with un := (s.dJ (s.typed && s.c.run)).c.un, run := s.typed && (!s.put.isEmpty || s.c.run), last := s.cls, fr := if s.cls = 2 then s.c.fr else 0, to := if s.cls = 2 then s.c.to else 0 }, given := if s.argues = true then s.given else false, minus := if s.argues = true then s.minus else false, arg := if s.argues = true then s.arg else -1, inn := false, put := [] } := by
  unfold bP.kK bP.jF bP.dJ
  by_cases ha : s.argues = true
  · by_cases hp : s.put = []
    · by_cases hc : s.cls = 2
      · simp [ha, hp, hc, bP.tV]
      · simp [ha, hp, hc, bP.tV]
    · by_cases hc : s.cls = 2
      · simp [ha, hp, hc, bP.tV, bP.lG, bP.iw, bP.here]
      · simp [ha, hp, hc, bP.tV, bP.lG, bP.iw, bP.here]
  · by_cases hp : s.put = []
    · by_cases hc : s.cls = 2
      · simp [ha, hp, hc, bP.tV]
      · simp [ha, hp, hc, bP.tV]
    · by_cases hc : s.cls = 2
      · simp [ha, hp, hc, bP.tV, bP.lG, bP.iw, bP.here]
      · simp [ha, hp, hc, bP.tV, bP.lG, bP.iw, bP.here]
theorem gB.good {s : bP} {es : List fB} {A A' : List LE} {yf yt : Int} (h : gB s es A yf yt) (hA : _root_.Go.Proofs.YtnhhmieghbfalaaGreat.CS A' = (s.dJ (s.typed && s.c.run)).c.un) (hP : wC s.hl A') : gB s.kK [] A' yf yt := by
  have hok : o8 s.kK := by
    have h1 := OO (wW h.ok) (s := s.jF) (by unfold bP.jF; split <;> exact h.rx.1) (s.typed && s.c.run)
    unfold bP.kK
    dsimp only
    split <;> exact h1
  have hx : Gx (s.dJ (s.typed && s.c.run)).c := (OQ h.ok h.rx _).1
  rw [xP] at hok ⊢
  exact ⟨hok, ⟨⟨hx.1, h.rx.1.2⟩, fun hi => absurd hi (by show ¬ false = true; decide), fun hi => absurd hi (by show ¬ false = true; decide)⟩, rfl, hA, hP, fun hi => absurd hi (by show ¬ false = true; decide)⟩
section
variable {w0 w : World} {F : HP} {p y h : Nat} {s : bP} {x : Int}
theorem Tf (hin : s.inn = true) (hx : x ≠ 0) (H : V w0 w (iT y s • F)) : iQ prog 18 #[.pointer (some ⟨y, 0, none⟩), .int .i64 x] w fun v w' => v = .int .i64 x ∧ V w0 w' (iT y s.zf • F) := by
 refine qQ func18 ntmps18 ?_
 refine kW O (aO (aO ?_))
 obtain ⟨MB, zk, zn, zo, zq, BR, BU, Ny, BX, BZ, Bl, Bo, Bq, zu, zx, zy, zA, zB, zC, zD, zF, zG, zH, zI, zJ, jG, qW, lI⟩ := (H).Bj
 have HI := lI
 rw [hin] at HI
 obtain ⟨qb, qk, qw, qn, qp, qg, qA, hu, hqA, hqP, hu1, HW⟩ := (HI.f12).afA
 simp only [Il, List.cons.injEq, and_true] at hu
 obtain ⟨rfl, rfl, rfl, rfl, rfl, rfl, rfl, rfl, rfl, rfl, rfl, rfl⟩ := hu
 refine aB (lM O O (Z 32 aI O aN O (dL bf O (HW.f8).get.2 O (aZ (kY O) (iF (FH O (fun h1 => ?_)))))))
 (try simp only [aK] at h1)
 refine gX (bY O (dA O (Z 32 aI O aN O (aC (mY 32 HW.f8 aN) ?_))))
 rintro _ w2 H2
 refine qJ (bY O (aZ (fF O O) (kE O (fun h2 => ?_) (fun h => by exfalso; (try simp only [aK] at h); exact hx h))))
 (try simp only [aK] at h2)
 refine bY O (lM O O (Z 13 aI O dB O (aZ (qX 13 (xs := [_, _, _, _, _, _, _, _, _, _, _, _]) bH O dB O O (H2).get.2 O) (dA O (Z 1 aI O dB O (aC (dD 1 (l' := [_, _, _, _, _, _, _, _, _, _, _, _, _, _, _, _, _, _, _, _, _, _, _, _, _, _, _, _, _, _, _, _, _, _, _, _, _, _, _, _, _, _]) (us := [_, _, _, _, _, _, _, _, _, _, _, _]) H2 dB O O O (aH (aH (aW (by first | rfl | exact Rd.one ((H2.f4).nO)) (aW (by first | rfl | exact Rd.one ((H2.f5).aG)) (aH (aH (aW (by first | rfl | exact Rd.one ((H2.f6).pJ)) (aW (by first | rfl | exact Rd.one ((H2.f7).nO)) (aH (aH (aH (aH bG)))))))))))) O O) ?_))))))
 rintro _ w3 H3
 refine pG O (dA O (Z 39 aI O bn O (aC (mY 39 H3 bn) ?_)))
 rintro _ w4 H4
 refine pG O (dA O (Z 31 aI O jU O (dL jV O (H4).get.2 O (aZ (XE O O) (dA O (Z 31 aI O jU O (aC (mY 31 H4 jU) ?_)))))))
 rintro _ w5 H5
 refine pG O (jw O O (dA O (Z 25 aI O aN O (aC (mY 25 H5 aN) ?_))))
 rintro _ w6 H6
 refine dA O (Z 26 aI O aN O (aC (mY 26 H6 aN) ?_))
 rintro _ w7 H7
 refine dA O (Z 27 aI O ah O (aC (mY 27 H7 ah) ?_))
 rintro _ w8 H8
 refine pG O (jw O O (dA O (Z 28 aI O ah O (aC (mY 28 H8 ah) ?_))))
 rintro _ w9 H9
 refine dA O (Z 29 aI O ah O (aC (mY 29 H9 ah) ?_))
 rintro _ w10 rD
 refine dA O (Z 30 aI O ah O (aC (mY 30 rD ah) ?_))
 rintro _ Hr rX
 refine pG O (dA O (Z 39 aI O bn O (aC (mY 39 rX bn) ?_)))
 rintro _ w12 vN
 refine pG O (jP O (aV (gy results18 O ?_)))
 exact ⟨O, V.VT (s := s.zf) (jG.bad hin hqA hqP) O vN.f9.right.f9.right.f9.right.f9.right.f9.right.f9.right.f9.right.f10.right.f10.right.f9.f9.f9.f9.f9.f9.f9.f9.f9 hu1⟩
theorem Ti (s : bP) : s.typed = (decide (s.cls = 3) && s.whole) := by unfold bP.typed; congr 1
theorem empty_eq (l : List iO) : (!l.isEmpty) = decide ((l.length : Int) > 0) := by cases l with
  | nil => rfl
  | cons x r => simp
theorem Ql (hin : s.inn = true) (H : V w0 w (iT y s • F)) : iQ prog 18 #[.pointer (some ⟨y, 0, none⟩), .int .i64 0] w fun v w' => v = .int .i64 0 ∧ V w0 w' (iT y s.kK • F) := by
  obtain ⟨on, hon⟩ : ∃ on, on = (s.typed && s.c.run) := ⟨_, rfl⟩
  obtain ⟨rn, hrn⟩ : ∃ rn, rn = (s.typed && (!s.put.isEmpty || s.c.run)) := ⟨_, rfl⟩
  have Qa := hon
  have GK := hrn
  rw [Ti] at Qa GK
  rw [empty_eq] at GK
  refine qQ func18 ntmps18 ?_
  obtain ⟨MB, zk, zn, zo, zq, BR, BU, Ny, BX, BZ, Bl, Bo, Bq, zu, zx, zy, zA, zB, zC, zD, zF, zG, zH, zI, zJ, jG, qW, lI⟩ := (H).Bj
  have HP9 := lI
  rw [← qW] at HP9
  have ZE := jG.CS
  have hplA := jG.placed
  have UW := jG.says
  have acE := jG.ok
  have hxA := jG.rx.1
  have acF : s.hl.length ≤ 4096 := by obtain ⟨hv9, hk9, _⟩ := (HP9.f9).Gw; exact hk9.1
  have hu1 := Xj (HP9.f12)
  refine kW O (aO (bY O (dA O (Z 32 aI O aN O (dL bf O (HP9).get.2 O (aZ (kY O) (kE O (fun h => by exfalso; (try simp only [aK] at h); simp [hin] at h) (fun h1 => ?_))))))))
  (try simp only [aK] at h1)
  refine gX (bY O (dA O (Z 32 aI O aN O (aC (mY 32 HP9 aN) ?_))))
  rintro _ w2 H2
  refine qJ (bY O (aZ (fF O O) (iF (FH O (fun h2 => ?_)))))
  (try simp only [aK] at h2)
  refine gX (bY O (dA O (Z 33 aI O ah O (dL ay O (H2).get.2 O (aZ (je O O) (jZ O (bY O (dA O (Z 39 aI O bn O (dL aQ O (H2).get.2 O (aZ (fA ((H2.f10).aG) aQ O) (aZ (gG O O) (jZ O ?_)))))))))))))
  refine vP [(0, _), (5, _), (6, _)] (fun (_ : Unit) => []) (fun (_ : Unit) W => ∃ pv2 gv2 A2 nw2, CS A2 = (s.dJ on).c.un ∧ wC s.hl A2 ∧ V w0 W (eF y (.cells (.pointer (some ⟨MB, 0, none⟩) :: .pointer (some ⟨zk, 0, none⟩) :: .pointer (some ⟨zn, 0, none⟩) :: zo :: zq :: .int .i64 s.c.place :: .string (iK s.hl s.c.tx s.c.place) :: pv2 :: gv2 :: .int .i64 s.c.mode :: .bool s.c.over :: .int .i64 s.c.res :: .bool s.c.run :: zu :: zx :: zy :: zA :: zB :: zC :: zD :: zF :: zG :: zH :: zI :: zJ :: .bool s.given :: .bool s.minus :: .int .i64 s.arg :: .int .i64 s.xI :: .int .i64 s.Uo :: .int .i64 s.Ur :: .int .i64 s.nZ :: .bool false :: .int .i64 s.cls :: .int .i64 Bl :: .int .i64 Bo :: .bool s.argues :: .bool s.kJ :: .bool s.kZ :: nw2 :: .bool s.whole :: .bool Bq :: []).toArray 85 (0, 0)) • qK .i64 pv2 (A2.map (·.1)) • tY 1 gv2 A2.length (A2.map (·.2.1)) • rW A2 • Row 130 3 nw2 0 [] • nP [] • kN zk s.c.L s.c.pt s.c.mark • lF zn s.c.E s.c.at_ • tY 1 zo (s.hl.length + 1) (strs (nN s.hl)) • Row 9 1 zq (s.hl.length + 1) (strs (pV s.hl s.c.tx)) • jf MB s.hl s.base s.most • Ep s.inn s.hl s.was [zu, zx, zy, zA, zB, zC, zD, zF, zG, zH, zI, zJ] • F)) AA ?_ ?_
  · rintro _ w3 ⟨pv2, gv2, A2, nw2, hl2, hp2, HJ⟩
    dsimp only [List.cons_append, List.nil_append]
    refine vP [(0, _)] (fun (_ : Unit) => []) (fun (_ : Unit) W => V w0 W (eF y (.cells (.pointer (some ⟨MB, 0, none⟩) :: .pointer (some ⟨zk, 0, none⟩) :: .pointer (some ⟨zn, 0, none⟩) :: zo :: zq :: .int .i64 s.c.place :: .string (iK s.hl s.c.tx s.c.place) :: pv2 :: gv2 :: .int .i64 s.c.mode :: .bool s.c.over :: .int .i64 s.c.res :: .bool rn :: zu :: zx :: zy :: zA :: zB :: zC :: zD :: zF :: zG :: zH :: zI :: zJ :: .bool s.given :: .bool s.minus :: .int .i64 s.arg :: .int .i64 s.xI :: .int .i64 s.Uo :: .int .i64 s.Ur :: .int .i64 s.nZ :: .bool false :: .int .i64 s.cls :: .int .i64 Bl :: .int .i64 Bo :: .bool s.argues :: .bool s.kJ :: .bool s.kZ :: nw2 :: .bool s.whole :: .bool Bq :: []).toArray 85 (0, 0)) • qK .i64 pv2 (A2.map (·.1)) • tY 1 gv2 A2.length (A2.map (·.2.1)) • rW A2 • Row 130 3 nw2 0 [] • nP [] • kN zk s.c.L s.c.pt s.c.mark • lF zn s.c.E s.c.at_ • tY 1 zo (s.hl.length + 1) (strs (nN s.hl)) • Row 9 1 zq (s.hl.length + 1) (strs (pV s.hl s.c.tx)) • jf MB s.hl s.base s.most • Ep s.inn s.hl s.was [zu, zx, zy, zA, zB, zC, zD, zF, zG, zH, zI, zJ] • F)) pY ?_ ?_
    · rintro _ w4 HJ2
      dsimp only [List.cons_append, List.nil_append]
      refine bY O (jw O O (lM O O (Z 33 aI O ah O (dL ay O (HJ2).get.2 O (dA O (Z 28 aI O ah O (aC (mY 28 HJ2 ah) ?_)))))))
      rintro _ w5 H5
      refine dA O (Z 29 aI O ah O (aC (mY 29 H5 ah) ?_))
      rintro _ w6 H6
      refine dA O (Z 30 aI O ah O (aC (mY 30 H6 ah) ?_))
      rintro _ w7 H7
      refine qJ (bY O (dA O (Z 33 aI O ah O (dL ay O (H7).get.2 O (aZ (je O O) (kE O (fun h3 => ?_) (fun h3 => ?_)))))))
      · (try simp only [aK] at h3)
        have hcT : s.cls = 2 := h3
        obtain ⟨rfl, rfl⟩ := jG.Ju hin (jG.rx.2.2 hin hcT)
        have abu := H7.drew
        have wZ := V.kp (abu.f12.f12.f12.f12.f12.f12.f12.f12.f12.f12.f12.f12)
        refine wL [5, 9] wZ O (gK 0 O wZ O (gK 1 O wZ O (gK 2 O wZ O (jL 3 O wZ O (fH 4 O wZ 34 aI O ah O (iY 5 O wZ (fun W hW => jQ ay O ((Kp.h hW)).get.2 O) (gK 6 O wZ O (jL 7 O wZ O (fH 8 O wZ 35 aI O ah O (iY 9 O wZ (fun W hW => jQ ay O ((Kp.h hW)).get.2 O) (jL 10 O wZ O (fH 11 O wZ 29 aI O ah O ?_))))))))))))
        refine gJ 12 O (by kernel_rfl) (mY 29 abu ah) ?_
        rintro _ w8 H8
        have Jp := V.kp (H8.f12.f12.f12.f12.f12.f12.f12.f12.f12.f12.f12.f12)
        refine fG Jp (by kernel_rfl) ?_
        refine jL 13 O Jp O (fH 14 O Jp 30 aI O ah O ?_)
        refine gJ 15 O (by kernel_rfl) (mY 30 H8 ah) ?_
        rintro _ w9 H9
        have Em := V.kp (H9.f12.f12.f12.f12.f12.f12.f12.f12.f12.f12.f12.f12)
        refine fG Em (by kernel_rfl) ?_
        refine qN (bC (aO (bY O (dA O (Z 36 aI O aN O (dL bf O (H9).get.2 O (aZ (kY O) (kE O (fun h4 => ?_) (fun h4 => ?_)))))))))
        · (try simp only [aK] at h4)
          have haF : ¬ s.argues = true := by simp_all
          refine aB (jw O O (lM O O (Z 25 aI O aN O (aC (mY 25 H9 aN) ?_))))
          rintro _ w10 rD
          refine dA O (Z 26 aI O aN O (aC (mY 26 rD aN) ?_))
          rintro _ Hr rX
          refine dA O (Z 27 aI O ah O (aC (mY 27 rX ah) ?_))
          rintro _ w12 vN
          refine iF (nM O (gy results18 O ?_))
          refine ⟨O, ?_⟩
          rw [hon] at hl2
          have hG := jG.good hl2 hp2
          rw [xP] at hG ⊢
          have HX := vN.f12.right.f6.f6.f11.f7.f7.f7.f11.f11.f11.f11.f11
          have WJ := HX.Gy (hl := s.hl) (c := s.was) hu1
          have HX3 := WJ.f12.f12.f12.f12.f12.f12.f12.f12.f12.f12.f12
          first | simp only [if_pos hcT] at hG ⊢ | simp only [if_neg hcF] at hG ⊢
          first | simp only [if_pos haT] at hG ⊢ | simp only [if_neg haF] at hG ⊢
          rw [← hrn] at hG ⊢
          exact V.lu hG HX3
        · (try simp only [aK] at h4)
          have haT : s.argues = true := by simp_all
          refine gX (nM O (gy results18 O ?_))
          refine ⟨O, ?_⟩
          rw [hon] at hl2
          have hG := jG.good hl2 hp2
          rw [xP] at hG ⊢
          have HX := H9.f12.right.f6.f6.f11.f7.f7.f7.f11.f11.f11.f11.f11
          have WJ := HX.Gy (hl := s.hl) (c := s.was) hu1
          have HX3 := WJ.f12.f12.f12.f12.f12.f12.f12.f12.f12.f12.f12
          first | simp only [if_pos hcT] at hG ⊢ | simp only [if_neg hcF] at hG ⊢
          first | simp only [if_pos haT] at hG ⊢ | simp only [if_neg haF] at hG ⊢
          rw [← hrn] at hG ⊢
          exact V.lu hG HX3
      · (try simp only [aK] at h3)
        have hcF : ¬ s.cls = 2 := h3
        refine gX (aO (bY O (dA O (Z 36 aI O aN O (dL bf O (H7).get.2 O (aZ (kY O) (kE O (fun h5 => ?_) (fun h5 => ?_))))))))
        · (try simp only [aK] at h5)
          have haF : ¬ s.argues = true := by simp_all
          refine aB (jw O O (lM O O (Z 25 aI O aN O (aC (mY 25 H7 aN) ?_))))
          rintro _ TB AB
          refine dA O (Z 26 aI O aN O (aC (mY 26 AB aN) ?_))
          rintro _ Qu AL
          refine dA O (Z 27 aI O ah O (aC (mY 27 AL ah) ?_))
          rintro _ TD Bz
          refine iF (nM O (gy results18 O ?_))
          refine ⟨O, ?_⟩
          rw [hon] at hl2
          have hG := jG.good hl2 hp2
          rw [xP] at hG ⊢
          have HX := Bz.f12.right.f6.f6.f11.f7.f7.f7.f11.f11.f11.f11.f11
          have WJ := HX.Gy (hl := s.hl) (c := s.was) hu1
          have HX3 := WJ.f12.f12.f12.f12.f12.f12.f12.f12.f12.f12.f12
          first | simp only [if_pos hcT] at hG ⊢ | simp only [if_neg hcF] at hG ⊢
          first | simp only [if_pos haT] at hG ⊢ | simp only [if_neg haF] at hG ⊢
          rw [← hrn] at hG ⊢
          exact V.lu hG HX3
        · (try simp only [aK] at h5)
          have haT : s.argues = true := by simp_all
          refine gX (nM O (gy results18 O ?_))
          refine ⟨O, ?_⟩
          rw [hon] at hl2
          have hG := jG.good hl2 hp2
          rw [xP] at hG ⊢
          have HX := H7.f12.right.f6.f6.f11.f7.f7.f7.f11.f11.f11.f11.f11
          have WJ := HX.Gy (hl := s.hl) (c := s.was) hu1
          have HX3 := WJ.f12.f12.f12.f12.f12.f12.f12.f12.f12.f12.f12
          first | simp only [if_pos hcT] at hG ⊢ | simp only [if_neg hcF] at hG ⊢
          first | simp only [if_pos haT] at hG ⊢ | simp only [if_neg haF] at hG ⊢
          rw [← hrn] at hG ⊢
          exact V.lu hG HX3
    · skip
      refine aB (jw O O (qG O (fun h6 => ?_) (fun h6 => ?_)))
      · (try simp only [aK] at h6)
        refine bK (dn O (bK (dA O (bK (Z 40 aI O aN O (bK (dL bf O (HJ).get.2 O (nX O O (qG O (fun h7 => ?_) (fun h7 => ?_))))))))))
        · (try simp only [aK] at h7)
          refine bK (dn O (bK (qG O (fun h8 => ?_) (fun h8 => ?_))))
          · (try simp only [aK] at h8)
            refine cZ (cZ (cZ (cZ (cZ (bK (nX O O (nX O O (dA O (Z 1 aI O dB O (Z 11 bH O aN O (aC (mY 12 HJ aN) ?_)))))))))))
            rintro _ w16 wE
            refine cO ?_
            refine gZ (()) ?_ ?_ ?_
            · exact (Sub.nil _)
            · exact pY
            · (try dsimp only)
              first | done | exact (by first | (rw [show rn = true from by rw [GK]; simp_all; done]; exact wE.f12.f12.f12.f12.f12.f12.f12.f12.f12.f12.f12.f12) | (rw [show rn = false from by rw [GK]; simp_all; done]; exact wE.f12.f12.f12.f12.f12.f12.f12.f12.f12.f12.f12.f12) | (rw [show rn = s.c.run from by rw [GK]; simp_all; done]; exact wE.f12.f12.f12.f12.f12.f12.f12.f12.f12.f12.f12.f12))
          · (try simp only [aK] at h8)
            refine bK (dn O (bK (dA O (bK (Z 1 aI O dB O (bK (Z 11 bH O aN O (bK (dL bf O (HJ).get.2 O (bK (lH O O (nX O O (dA O (Z 1 aI O dB O (Z 11 bH O aN O (aC (mY 12 HJ aN) ?_))))))))))))))))
            rintro _ ZQ Dh
            refine cO ?_
            refine gZ (()) ?_ ?_ ?_
            · exact (Sub.nil _)
            · exact pY
            · (try dsimp only)
              first | done | exact (by first | (rw [show rn = true from by rw [GK]; simp_all; done]; exact Dh.f12.f12.f12.f12.f12.f12.f12.f12.f12.f12.f12.f12) | (rw [show rn = false from by rw [GK]; simp_all; done]; exact Dh.f12.f12.f12.f12.f12.f12.f12.f12.f12.f12.f12.f12) | (rw [show rn = s.c.run from by rw [GK]; simp_all; done]; exact Dh.f12.f12.f12.f12.f12.f12.f12.f12.f12.f12.f12.f12))
        · (try simp only [aK] at h7)
          refine cZ (cZ (su (su (su (su (su (cZ (lH O O (dA O (Z 1 aI O dB O (Z 11 bH O aN O (aC (mY 12 HJ aN) ?_))))))))))))
          rintro _ Xv Ef
          refine cO ?_
          refine gZ (()) ?_ ?_ ?_
          · exact (Sub.nil _)
          · exact pY
          · (try dsimp only)
            first | done | exact (by first | (rw [show rn = true from by rw [GK]; simp_all; done]; exact Ef.f12.f12.f12.f12.f12.f12.f12.f12.f12.f12.f12.f12) | (rw [show rn = false from by rw [GK]; simp_all; done]; exact Ef.f12.f12.f12.f12.f12.f12.f12.f12.f12.f12.f12.f12) | (rw [show rn = s.c.run from by rw [GK]; simp_all; done]; exact Ef.f12.f12.f12.f12.f12.f12.f12.f12.f12.f12.f12.f12))
      · (try simp only [aK] at h6)
        refine cZ (cZ (cZ (cZ (lH O O (dn O (cZ (cZ (su (su (su (su (su (cZ (lH O O (dA O (Z 1 aI O dB O (Z 11 bH O aN O (aC (mY 12 HJ aN) ?_))))))))))))))))))
        rintro _ Xw zN
        refine cO ?_
        refine gZ (()) ?_ ?_ ?_
        · exact (Sub.nil _)
        · exact pY
        · (try dsimp only)
          first | done | exact (by first | (rw [show rn = true from by rw [GK]; simp_all; done]; exact zN.f12.f12.f12.f12.f12.f12.f12.f12.f12.f12.f12.f12) | (rw [show rn = false from by rw [GK]; simp_all; done]; exact zN.f12.f12.f12.f12.f12.f12.f12.f12.f12.f12.f12.f12) | (rw [show rn = s.c.run from by rw [GK]; simp_all; done]; exact zN.f12.f12.f12.f12.f12.f12.f12.f12.f12.f12.f12.f12))
  · skip
    refine aB (jw O O (qG O (fun h9 => ?_) (fun h9 => ?_)))
    · (try simp only [aK] at h9)
      refine bK (dn O (bK (dA O (bK (Z 40 aI O aN O (bK (dL bf O (H2).get.2 O (nX O O (qG O (fun h10 => ?_) (fun h10 => ?_))))))))))
      · (try simp only [aK] at h10)
        refine bK (dn O (bK (dA O (bK (Z 1 aI O dB O (bK (Z 11 bH O aN O (bK (dL bf O (H2).get.2 O (nX O O (fO O func44 (Cb ZE hplA UW acE hxA acF H2.f11.f11.f10.f10.f10.f6) ?_)))))))))))
        rintro _ XM ⟨ahG, ahH, A20, ahI, acG, ad8, Ci⟩
        have DT := acG
        have ZF := ad8
        first
          | rw [show s.c.run = on from by rw [Qa]; simp_all] at DT
          | rw [show false = on from by rw [Qa]; simp_all] at DT
        refine cO ?_
        refine gZ (()) ?_ ?_ ?_
        · exact (Sub.nil _)
        · exact AA
        · (try dsimp only)
          first | done | exact ⟨_, _, _, _, DT, ZF, Ci.f12.f12.f12.f12.f12.f12.f12.f12.f12.f12.f12.f12⟩
      · (try simp only [aK] at h10)
        refine cZ (cZ (cZ (cZ (cZ (lH O O (fO O func44 (Cb ZE hplA UW acE hxA acF H2.f11.f11.f10.f10.f10.f6) ?_))))))
        rintro _ Xx ⟨ahJ, ahK, A21, ahL, acH, ad9, tK⟩
        have DT := acH
        have ZF := ad9
        first
          | rw [show s.c.run = on from by rw [Qa]; simp_all] at DT
          | rw [show false = on from by rw [Qa]; simp_all] at DT
        refine cO ?_
        refine gZ (()) ?_ ?_ ?_
        · exact (Sub.nil _)
        · exact AA
        · (try dsimp only)
          first | done | exact ⟨_, _, _, _, DT, ZF, tK.f12.f12.f12.f12.f12.f12.f12.f12.f12.f12.f12.f12⟩
    · (try simp only [aK] at h9)
      refine cZ (cZ (cZ (cZ (lH O O (dn O (cZ (cZ (cZ (cZ (cZ (lH O O (fO O func44 (Cb ZE hplA UW acE hxA acF H2.f11.f11.f10.f10.f10.f6) ?_))))))))))))
      rintro _ w22 ⟨ahM, ahN, A22, ahO, acI, aea, FN⟩
      have DT := acI
      have ZF := aea
      first
        | rw [show s.c.run = on from by rw [Qa]; simp_all] at DT
        | rw [show false = on from by rw [Qa]; simp_all] at DT
      refine cO ?_
      refine gZ (()) ?_ ?_ ?_
      · exact (Sub.nil _)
      · exact AA
      · (try dsimp only)
        first | done | exact ⟨_, _, _, _, DT, ZF, FN.f12.f12.f12.f12.f12.f12.f12.f12.f12.f12.f12.f12⟩
theorem Tj (H : V w0 w (iT y s • F)) : iQ prog 18 #[.pointer (some ⟨y, 0, none⟩), .int .i64 x] w fun v w' => v = .int .i64 (s.Dp x) ∧ V w0 w' (iT y (s.lS x) • F) := by
 by_cases hin : s.inn = true
 ·by_cases hx : x = 0
  ·subst hx
   rw [show s.lS 0 = s.kK from by unfold bP.lS; rw [if_pos hin, if_pos rfl], show s.Dp 0 = 0 from by unfold bP.Dp; rw [if_pos hin]]
   exact Ql hin H
  ·rw [(D8 hin hx).1, (D8 hin hx).2]
   exact Tf hin hx H
 ·have hin' : s.inn = false := by simpa using hin
  rw [show s.lS x = s from by unfold bP.lS; rw [if_neg hin], show s.Dp x = 1 from by unfold bP.Dp; rw [if_neg hin]]
  refine qQ func18 ntmps18 ?_
  refine kW O (aO (aO ?_))
  obtain ⟨MB, zk, zn, zo, zq, BR, BU, Ny, BX, BZ, Bl, Bo, Bq, zu, zx, zy, zA, zB, zC, zD, zF, zG, zH, zI, zJ, jG, qW, lI⟩ := (H).Bj
  refine aB (lM O O (Z 32 aI O aN O (dL bf O (lI).get.2 O (aZ (kY O) (kE O (fun h1 => ?_) (fun h => by exfalso; (try simp only [aK] at h); simp [hin'] at h))))))
  (try simp only [aK] at h1)
  refine nM O (aV (gy results18 O ?_))
  have Q9 := lI.f12.f12.f12.f12.f12.f12.f12.f12.f12.f12.f12.f12
  have Oi := V.lu (s := s) jG Q9
  exact ⟨O, Oi⟩
end
theorem ZG (hl : List o7) : iK hl (fun _ => none) (hl.length : Int) = .empty := by
  unfold iK yB Rh
  rw [if_neg (by omega)]; rfl
section
variable {w0 w : World} {F : HP} {y h : Nat} {s : bP} {hl : List o7} {base most : Int} {l : List Int} {v : Value}
set_option maxHeartbeats 1000000 in
theorem Qm {x0 x1 x2 x3 x4 x5 x6 x7 x8 x9 x10 x11 x12 tZ x14 x15 x16 x17 x18 x19 x20 x21 uD x23 x24 x25 uI x27 x28 x29 x30 x31 vM x34 Ec Ed Ee x38 x39 x40 x41 : Value} {b : Bool} (hb : b = false) (H : V w0 w (eF y (.cells (x0 :: x1 :: x2 :: x3 :: x4 :: x5 :: x6 :: x7 :: x8 :: x9 :: x10 :: x11 :: x12 :: tZ :: x14 :: x15 :: x16 :: x17 :: x18 :: x19 :: x20 :: x21 :: uD :: x23 :: x24 :: x25 :: uI :: x27 :: x28 :: x29 :: x30 :: x31 :: .bool b :: vM :: x34 :: Ec :: Ed :: Ee :: x38 :: x39 :: x40 :: x41 :: []).toArray 85 (0, 0)) • jf h hl base most • F)) (hr : jY w0 F .i32 v l) (hshort : l.length ≤ 1024) : iQ prog 71 #[.pointer (some ⟨y, 0, none⟩), .pointer (some ⟨h, 0, none⟩), v] w fun v' w' => v' = .int .i64 0 ∧ ∃ ph pb wv nv,
    V w0 w' (eF y (.cells (.pointer (some ⟨ph, 0, none⟩) :: .pointer (some ⟨pb, 0, none⟩) :: x2 :: wv :: nv :: .int .i64 hl.length :: .string .empty :: .slice none 0 0 :: .slice none 0 0 :: x9 :: .bool false :: .int .i64 0 :: .bool false :: tZ :: x14 :: x15 :: x16 :: x17 :: x18 :: x19 :: x20 :: x21 :: uD :: x23 :: x24 :: .bool false :: .bool false :: .int .i64 (-1) :: .int .i64 0 :: .int .i64 0 :: .int .i64 0 :: x31 :: .bool b :: vM :: x34 :: Ec :: Ed :: Ee :: x38 :: x39 :: x40 :: x41 :: []).toArray 85 (0, 0)) •
      kN pb l l.length (-1) • tY 1 wv (hl.length + 1) (strs (nN hl)) • Row 9 1 nv (hl.length + 1) (strs (pV hl (fun _ => none))) • jf ph hl base most • jf h hl base most • F) := by
  refine ET func71 ntmps71 ?_
  refine kW O (aO (bY O (aZ (nG xk O O) (iF (FH O (fun h1 => ?_))))))
  (try simp only [aK] at h1)
  refine gX (aO (bY O (dA O (Z 32 aI O aN O (dL bf O (H).get.2 O (kE O (fun h => by exfalso; (try simp only [aK] at h); simp [hb] at h) (fun h2 => ?_)))))))
  (try simp only [aK] at h2)
  refine gX (bY O (fO O func112 (SV H (fun W HW => hr _ (HW.right.right)) hshort) ?_))
  rintro _ w1 ⟨p1, rfl, H1⟩
  refine dn O (xZ O O (xZ O O (oD O (uK O (bY O (aZ (fF O O) (iF (FH O (fun h3 => ?_)))))))))
  (try simp only [aK] at h3)
  refine gX (bY O (dn O (fO O func113 (Jw H1.f3) ?_)))
  rintro _ w2 ⟨q2, rfl, H2⟩
  refine dA O (Z 0 aI O sizeOf54 O (aC (mY 0 H2.f4 sizeOf54) ?_))
  rintro _ w3 H3
  refine pG O (lM O O (Z 1 aI O dB O (Z 0 bH O mO O (aC (mY 1 H3 mO) ?_))))
  rintro _ w4 H4
  refine pG O (lM O O (Z 0 aI O sizeOf54 O (dL xk O (H4).get.2 O (fO O func114 (Nv H4.f2) ?_))))
  rintro _ w5 ⟨q5, ov5, nv5, rfl, H5⟩
  refine dA O (aZ (dF dH O mP O O (H5).get.2) (dA O (Z 1 aI O dB O (Z 2 bH O mP O (aC (dD 3 (l' := [_, _, _, _, _, _, _, _, _, _, _, _, _, _, _, _, _, _, _, _, _, _, _, _, _, _, _, _, _, _, _, _, _, _, _, _, _, _, _, _, _, _]) (us := [_, _, _]) H5.f5 mP O O O (aW (by first | rfl | exact Rd.one ((H5.f2).aG)) (aW (by first | rfl | exact Rd.one ((H5.f3).aG)) (aH bG))) O O) ?_)))))
  rintro _ w6 H6
  refine pG O (dA O (Z 1 aI O dB O (Z 5 bH O qV O (aC (mY 6 H6 qV) ?_))))
  rintro _ w7 H7
  refine pG O (aZ (fC (zl := [.slice none 0 0, .slice none 0 0]) (pl := [(0, 1), (1, 1)]) [_, _] lW zeroValue81 O (fun w => by kernel_rfl) O (.zero (zs := [.slice none 0 0]) O (.zero (zs := [.slice none 0 0]) O .nil)) O) (dA O (Z 1 aI O dB O (Z 6 bH O sizeOf81 O (aC (dD 7 (l' := [_, _, _, _, _, _, _, _, _, _, _, _, _, _, _, _, _, _, _, _, _, _, _, _, _, _, _, _, _, _, _, _, _, _, _, _, _, _, _, _, _, _]) (us := [_, _]) H7 sizeOf81 O O O (aH (aH bG)) O O) ?_)))))
  rintro _ w8 H8
  refine pG O (jw O O (dA O (Z 1 aI O dB O (Z 9 bH O aN O (aC (mY 10 H8 aN) ?_)))))
  rintro _ w9 H9
  refine dA O (Z 1 aI O dB O (Z 10 bH O ah O (aC (mY 11 H9 ah) ?_)))
  rintro _ w10 rD
  refine dA O (Z 1 aI O dB O (Z 11 bH O aN O (aC (mY 12 rD aN) ?_)))
  rintro _ Hr rX
  refine pG O (jw O O (dA O (Z 25 aI O aN O (aC (mY 25 rX aN) ?_))))
  rintro _ w12 vN
  refine dA O (Z 26 aI O aN O (aC (mY 26 vN aN) ?_))
  rintro _ TB AB
  refine dA O (Z 27 aI O ah O (aC (mY 27 AB ah) ?_))
  rintro _ Qu AL
  refine pG O (jw O O (dA O (Z 28 aI O ah O (aC (mY 28 AL ah) ?_))))
  rintro _ TD Bz
  refine dA O (Z 29 aI O ah O (aC (mY 29 Bz ah) ?_))
  rintro _ w16 wE
  refine dA O (Z 30 aI O ah O (aC (mY 30 wE ah) ?_))
  rintro _ ZQ Dh
  refine iF (nM O (gy results71 O ?_))
  have HQ := (Dh.f2.right.f5.f5.f5.f6.f5.f6).Ij
  rw [Bh, ← Me] at HQ
  exact ⟨O, _, _, _, _, by rw [← Me]; exact HQ.f2.f3.f2⟩
theorem acJ (hl : List o7) (base most : Int) : gB (bP.new hl base most) [] [] 0 0 :=
  ⟨Yz hl base most, ⟨⟨fun k => ⟨by show fQ [] [] ≤ 16384; decide, by show ∀ g ∈ [], _; simp⟩, by show (0 : Nat) ≤ 60; decide, .inr rfl, by show ∀ e ∈ [], _; simp⟩, fun hi => absurd hi (by show ¬ false = true; decide), fun hi => absurd hi (by show ¬ false = true; decide)⟩, rfl, rfl, ⟨List.nodup_nil, by simp⟩, fun hi => absurd hi (by show ¬ false = true; decide)⟩
theorem Tn (H : V w0 w (jf h hl base most • F)) : iQ prog 27 #[.pointer (some ⟨h, 0, none⟩)] w fun v' w' => ∃ y, v' = .tuple #[.pointer (some ⟨y, 0, none⟩), .int .i64 0] ∧ V w0 w' (iT y (bP.new hl base most) • jf h hl base most • F) := by
  refine jH func27 ntmps27 ?_
  refine lQ (oD O (uK O (bY O (aZ (nG xk O O) (iF (FH O (fun h1 => ?_)))))))
  (try simp only [aK] at h1)
  refine gX (lQ (aZ (fC (zl := [.pointer none, .pointer none, .pointer none, .slice none 0 0, .slice none 0 0, .int .i64 0, .string .empty, .slice none 0 0, .slice none 0 0, .int .i64 0, .bool false, .int .i64 0, .bool false, .pointer none, .pointer none, .slice none 0 0, .slice none 0 0, .int .i64 0, .string .empty, .slice none 0 0, .slice none 0 0, .int .i64 0, .bool false, .int .i64 0, .bool false, .bool false, .bool false, .int .i64 0, .int .i64 0, .int .i64 0, .int .i64 0, .int .i64 0, .bool false, .int .i64 0, .int .i64 0, .int .i64 0, .bool false, .bool false, .bool false, .slice none 0 0, .bool false, .bool false]) (pl := [(0, 1), (1, 12), (13, 12), (25, 1), (26, 1), (27, 1), (28, 1), (29, 1), (30, 1), (31, 1), (32, 1), (33, 1), (34, 1), (35, 1), (36, 1), (37, 1), (38, 1), (39, 1), (40, 1), (41, 1)]) [_, _, _, _, _, _, _, _, _, _, _, _, _, _, _, _, _, _, _, _, _, _, _, _, _, _, _, _, _, _, _, _, _, _, _, _, _, _, _, _, _, _] aI zeroValue85 O (fun w => by kernel_rfl) O (.zero (zs := [.pointer none]) O (.zero (zs := [.pointer none, .pointer none, .slice none 0 0, .slice none 0 0, .int .i64 0, .string .empty, .slice none 0 0, .slice none 0 0, .int .i64 0, .bool false, .int .i64 0, .bool false]) O (.zero (zs := [.pointer none, .pointer none, .slice none 0 0, .slice none 0 0, .int .i64 0, .string .empty, .slice none 0 0, .slice none 0 0, .int .i64 0, .bool false, .int .i64 0, .bool false]) O (.zero (zs := [.bool false]) O (.zero (zs := [.bool false]) O (.zero (zs := [.int .i64 0]) O (.zero (zs := [.int .i64 0]) O (.zero (zs := [.int .i64 0]) O (.zero (zs := [.int .i64 0]) O (.zero (zs := [.int .i64 0]) O (.zero (zs := [.bool false]) O (.zero (zs := [.int .i64 0]) O (.zero (zs := [.int .i64 0]) O (.zero (zs := [.int .i64 0]) O (.zero (zs := [.bool false]) O (.zero (zs := [.bool false]) O (.zero (zs := [.bool false]) O (.zero (zs := [.slice none 0 0]) O (.zero (zs := [.bool false]) O (.zero (zs := [.bool false]) O .nil)))))))))))))))))))) O) (jW (kC (l := [_, _, _, _, _, _, _, _, _, _, _, _, _, _, _, _, _, _, _, _, _, _, _, _, _, _, _, _, _, _, _, _, _, _, _, _, _, _, _, _, _, _]) H O O) ?_)))
  rintro _ w1 ⟨b1, rfl, H1⟩
  refine jZ O (bY O (aZ (fC (zl := [.slice none 0 0, .int .i64 0]) (pl := [(0, 1), (1, 1)]) [_, _] bQ zeroValue120 O (fun w => by kernel_rfl) O (.zero (zs := [.slice none 0 0]) O (.zero (zs := [.int .i64 0]) O .nil)) O) (jW (kC (l := [_, _]) H1 O O) ?_)))
  rintro _ w2 ⟨b2, rfl, H2⟩
  refine dA O (Z 1 aI O dB O (Z 1 bH O sizeOf74 O (aC (mY 2 H2.f2 sizeOf74) ?_)))
  rintro _ w3 H3
  refine pG O (dn O (fO O func71 (Qm (l := []) O H3.f2.f3.f3 (fun W _ => oL.nil W _ none 0 (by decide)) (by decide)) ?_))
  rintro _ w4 ⟨rfl, ph, pb, wv, nv, H4⟩
  refine pG O (oD O (jP O (TV results27 O O ?_)))
  have HR := ((H4.f6.f6.f6.f6.f6.f6.f7).KD (k := .i32)).gV (e := 23) (sz := 1) none
  have HR2 := (V.jq (E := []) (place := 0) (HR.aaY (ls := [])).swap)
  have HR3 := ((HR2.Zp.Zn (sz := 1) none).Zq (k := .i64) none)
  have hT := ZG hl
  refine ⟨_, O, V.VT (s := bP.new hl base most) (h := ph) (pb := pb) (pk := b2) (wv := wv) (nv := nv) (pv := .slice none 0 0) (gv := .slice none 0 0) (ch := false) (u0 := .pointer none) (u1 := .pointer none) (u2 := .slice none 0 0) (u3 := .slice none 0 0) (u4 := .int .i64 0) (u5 := .string .empty) (u6 := .slice none 0 0) (u7 := .slice none 0 0) (u8 := .int .i64 0) (u9 := .bool false) (ua := .int .i64 0) (ub := .bool false) (acJ hl base most) O ?_ ?_⟩
  · show V w0 _ (eF _ (.cells (_ :: _ :: _ :: _ :: _ :: _ :: .string (iK hl (fun _ => none) (hl.length : Int)) :: _).toArray _ (0, 0)) • _)
    rw [hT]
    exact HR3.f10.f10.f5.f5.f5.f10.f10.f8.f10.f10
  · rfl
end
theorem gB.kJ {s : bP} {es : List fB} {A : List LE} {yf yt : Int} (h : gB s es A yf yt) (E : List (List Int)) (a : Nat) (hE : E.length ≤ 60 ∧ (a < E.length ∨ a = 0) ∧ ∀ e ∈ E, e.length ≤ 1024) : gB { s.zV E a with kJ := true, cls := 1 } es A yf yt :=
  ⟨h.ok, ⟨⟨h.rx.1.1, hE⟩, h.rx.2.1, fun _ h2 => absurd h2 (by show ¬ (1 : Int) = 2; decide)⟩, h.says, h.CS, h.placed, h.Ju⟩
theorem sU {s : bP} {i j : Int} : s.nT i j ↔ (i < 0 ∨ s.c.L.length < i ∨ j < i ∨ s.c.L.length < j) := Iff.rfl
theorem gB.kZ {s : bP} {es : List fB} {A : List LE} {yf yt : Int} (h : gB s es A yf yt) (a b : Int) : gB { s with kZ := true, cls := 2, c := { s.c with fr := a, to := b } } es A a b :=
  ⟨h.ok, ⟨h.rx.1, fun hi => ⟨(h.rx.2.1 hi).1, (h.rx.2.1 hi).2.1, fun h2 => absurd h2 (by show ¬ true = false; decide)⟩, fun _ _ => rfl⟩, h.says, h.CS, h.placed, fun _ _ => ⟨rfl, rfl⟩⟩
section
variable {w0 w : World} {F : HP} {y : Nat} {s : bP} {i j x : Int} {back : Bool} {v : Value} {l : List Int}
theorem Tq (H : V w0 w (iT y s • F)) : iQ prog 39 #[.pointer (some ⟨y, 0, none⟩), .int .i64 i, .int .i64 j, .bool back] w fun v' w' => v' = .int .i64 (s.mX i j back) ∧ V w0 w' (iT y (s.qB i j back) • F) := by
 refine Hg func39 ntmps39 ?_
 obtain ⟨MB, zk, zn, zo, zq, BR, BU, Ny, BX, BZ, Bl, Bo, Bq, zu, zx, zy, zA, zB, zC, zD, zF, zG, zH, zI, zJ, jG, qW, lI⟩ := (H).Bj
 obtain ⟨hE, hp, hm⟩ := jG.rx.1.2
 have hlast : s.inn = true → s.xI = s.c.last := fun hin => by show (if s.inn = true then _ else _) = _; rw [if_pos hin]; exact (jG.rx.2.1 hin).2.1.symm
 refine kW O (aO (bY O (dA O (Z 32 aI O aN O (dL bf O (lI).get.2 O (aZ (kY O) (kE O (fun h1 => ?_) (fun h1 => ?_))))))))
 ·(try simp only [aK] at h1)
  have hin : s.inn = false := by simpa using h1
  refine nM O (aV (gy results39 O ?_))
  have Q9 := lI.f12.f12.f12.f12.f12.f12.f12.f12.f12.f12.f12.f12
  have Oi := V.lu (s := s) jG Q9
  exact ⟨by simp [bP.mX, bP.qB, hin], by rw [show s.qB i j back = s from by simp [bP.mX, bP.qB, hin]]; exact Oi⟩
 ·(try simp only [aK] at h1)
  have hin : s.inn = true := by simpa using h1
  refine gX (aO (aO ?_))
  obtain ⟨Qg, Qh, tJ, uG, uH, Qi, Qj, kP⟩ := (lI.f2).ref
  have hLw := tJ
  refine aB (dn O (aZ (iE O O) (qG O (fun h2 => ?_) (fun h2 => ?_))))
  ·(try simp only [aK] at h2)
   refine cZ (cZ (cZ (cZ (cZ (cZ (cZ (cZ (cZ (cZ (cZ (nX O O (dn O (cZ (cZ (cZ (nX O O (dn O (cZ (cZ (cZ (cZ (cZ (cZ (cZ (cZ (cZ (cZ (cZ (nX O O (dn O (cZ (cZ (nX O O (iF (Ko (lQ (oD O ?_)))))))))))))))))))))))))))))))))))))
   refine XJ (aV (gy results39 O ?_))
   have hb : s.nT i j := by rw [sU]; omega
   have hc : s.mX i j back = 70 := by unfold bP.mX; rw [if_pos hin, if_pos hb]
   have PG := kP.f2.f2
   have PI := V.oC tJ uG uH PG
   have KR := PI.f12.f12.f12.f12.f12.f12.f12.f12.f12.f12.f11.f12
   have Jr := V.lu (s := s) jG KR
   exact ⟨by rw [hc], by rw [tu (by rw [hc]; decide)]; exact Jr⟩
  ·(try simp only [aK] at h2)
   refine bK (dn O (bK (dn O (bK (dA O (bK (Z 1 aI O dB O (bK (Z 0 bH O mO O (bK (dL kF O (kP.f3).get.2 O (bK (dA O (bK (Z 0 bD O bg O (bK (dL aA O (kP).get.2 O (bK (aZ (pW ((kP.f2).aG) aA O) (bK (aZ (gG O O) (lH O O (qG O (fun h3 => ?_) (fun h3 => ?_))))))))))))))))))))))))
   ·(try simp only [aK] at h3)
    refine cZ (cZ (cZ (nX O O (dn O (cZ (cZ (cZ (cZ (cZ (cZ (cZ (cZ (cZ (cZ (cZ (nX O O (dn O (cZ (cZ (nX O O (iF (Ko (nM O (aV (gy results39 O ?_)))))))))))))))))))))))))
    have hb : s.nT i j := by rw [sU]; omega
    have hc : s.mX i j back = 70 := by unfold bP.mX; rw [if_pos hin, if_pos hb]
    have YA := kP.f2.f2
    have YB := V.oC tJ uG uH YA
    have abZ := YB.f12.f12.f12.f12.f12.f12.f12.f12.f12.f12.f11.f12
    have ab0 := V.lu (s := s) jG abZ
    exact ⟨by rw [hc], by rw [tu (by rw [hc]; decide)]; exact ab0⟩
   ·(try simp only [aK] at h3)
    refine bK (dn O (bK (dn O (bK (aZ (iE O O) (lH O O (qG O (fun h4 => ?_) (fun h4 => ?_))))))))
    ·(try simp only [aK] at h4)
     refine cZ (cZ (cZ (cZ (cZ (cZ (cZ (cZ (cZ (cZ (cZ (nX O O (dn O (cZ (cZ (nX O O (iF (Ko (nM O (aV (gy results39 O ?_))))))))))))))))))))
     have hb : s.nT i j := by rw [sU]; omega
     have hc : s.mX i j back = 70 := by unfold bP.mX; rw [if_pos hin, if_pos hb]
     have acz := kP.f2.f2
     have acA := V.oC tJ uG uH acz
     have afN := acA.f12.f12.f12.f12.f12.f12.f12.f12.f12.f12.f11.f12
     have afO := V.lu (s := s) jG afN
     exact ⟨by rw [hc], by rw [tu (by rw [hc]; decide)]; exact afO⟩
    ·(try simp only [aK] at h4)
     refine bK (dn O (bK (dn O (bK (dA O (bK (Z 1 aI O dB O (bK (Z 0 bH O mO O (bK (dL kF O (kP.f3).get.2 O (bK (dA O (bK (Z 0 bD O bg O (bK (dL aA O (kP).get.2 O (bK (aZ (pW ((kP.f2).aG) aA O) (bK (aZ (gG O O) (lH O O (qG O (fun h5 => ?_) (fun h5 => ?_))))))))))))))))))))))))
     ·(try simp only [aK] at h5)
      refine cZ (cZ (nX O O (iF (Ko (nM O (aV (gy results39 O ?_)))))))
      have hb : s.nT i j := by rw [sU]; omega
      have hc : s.mX i j back = 70 := by unfold bP.mX; rw [if_pos hin, if_pos hb]
      have Zy := kP.f2.f2
      have Zz := V.oC tJ uG uH Zy
      have abT := Zz.f12.f12.f12.f12.f12.f12.f12.f12.f12.f12.f11.f12
      have abU := V.lu (s := s) jG abT
      exact ⟨by rw [hc], by rw [tu (by rw [hc]; decide)]; exact abU⟩
     ·(try simp only [aK] at h5)
      refine bK (dn O (bK (aZ (iE O O) (lH O O (kE O (fun h6 => ?_) (fun h6 => ?_))))))
      ·(try simp only [aK] at h6)
       refine nM O (aV (gy results39 O ?_))
       have hb : s.nT i j := by rw [sU]; omega
       have hc : s.mX i j back = 70 := by unfold bP.mX; rw [if_pos hin, if_pos hb]
       have afP := kP.f2.f2
       have afQ := V.oC tJ uG uH afP
       have afR := afQ.f12.f12.f12.f12.f12.f12.f12.f12.f12.f12.f11.f12
       have afS := V.lu (s := s) jG afR
       exact ⟨by rw [hc], by rw [tu (by rw [hc]; decide)]; exact afS⟩
      ·(try simp only [aK] at h6)
       refine gX (aO ?_)
       have hb : ¬ s.nT i j := by rw [sU]; omega
       have hc : s.mX i j back = (s.qU i j back).1 := by unfold bP.mX; rw [if_pos hin, if_neg hb]
       rw [sU] at hb
       have afT := kP.f2.f2
       have acK := V.oC tJ uG uH afT
       refine aB (jZ O ?_)
       refine vP [(0, _), (1, _), (2, _)] (fun (_ : Unit) => [(9, .int .i64 (s.way back))]) (fun (_ : Unit) W => W = w) AA ?_ ?_
       ·rintro _ w39 rfl
        dsimp only [List.cons_append, List.nil_append]
        refine aO (aO ?_)
        obtain ⟨Qg, Qh, tJ, uG, uH, Qi, Qj, kP⟩ := (acK).ref
        have UY := kP.drew
        have pO := V.kp (UY.f13.f13.f13.f13.f13.f13.f13.f13.f13.f13.f13.f13.f13)
        refine wL [4, 10, 13] pO O (gK 0 O pO O (jL 1 O pO O (fH 2 O pO 1 aI O dB O (fH 3 O pO 1 bH O sizeOf74 O (iY 4 O pO (fun W hW => jQ underlying74 O ((Kp.h hW).f3).get.2 O) (gK 5 O pO O (gK 6 O pO O (jL 7 O pO O (fH 8 O pO 1 aI O dB O (fH 9 O pO 0 bH O mO O (iY 10 O pO (fun W hW => jQ kF O ((Kp.h hW).f3).get.2 O) (jL 11 O pO O (fH 12 O pO 0 bD O bg O (iY 13 O pO (fun W hW => jQ aA O ((Kp.h hW)).get.2 O) (gK 14 O pO O (gK 15 O pO O (jR 16 O pO (fun _ => sH ((UY.f2).aG) aA iy O O O (by omega)) ?_)))))))))))))))))
        refine lU 17 O (xB O func87 (Mc UY.f4 (fun W HW => oL.cut ((HW.f2).aG) (by omega) (by omega)) hE hm hp)) ?_
        rintro _ w41 ⟨rfl, Vt⟩
        have Ox := V.kp (Vt.f13.f13.f13.f13.f13.f13.f13.f13.f13.f13.f13.f13.f13)
        refine fG Ox (by kernel_rfl) ?_
        have afU := Vt.f3.f3
        have aeb := V.oC tJ uG uH afU
        refine jR 18 O Ox (fun _ => iV O) (qN (bC (bY O (aZ (fF O O) (kE O (fun h7 => ?_) (fun h7 => ?_))))))
        ·(try simp only [aK] at h7)
         refine bY O (jP O (aV (gy results39 O ?_)))
         have HX := aeb.f12.f12.f12.f12.f12.f12.f12.f12.f12.f11.f11.f12
         rw [show jO s.c.E s.c.at_ (s.way back) ((s.c.L.drop i.toNat).take (j.toNat - i.toNat)) = s.qU i j back from rfl, OB (by assumption)] at HX
         exact ⟨by rw [hc] <;> rfl, by rw [tu (by rw [hc]; assumption)]; exact V.lu jG HX⟩
        ·(try simp only [aK] at h7)
         refine gX (bY O (dA O (Z 37 aI O aN O (aC (mY 37 aeb.f3 aN) ?_))))
         rintro _ w45 JR
         refine pG O (dA O (Z 33 aI O ah O (aC (mY 33 JR ah) ?_)))
         rintro _ w46 Qw
         refine iF (nM O (gy results39 O ?_))
         have hc0 : s.mX i j back = 0 := by rw [hc]; assumption
         have hs : s.qB i j back = { s.zV (s.qU i j back).2.1 (s.qU i j back).2.2 with kJ := true, cls := 1 } := by unfold bP.qB; rw [if_pos hc0]
         exact ⟨by rw [hc0], by rw [hs]; exact V.lu (s := { s.zV (s.qU i j back).2.1 (s.qU i j back).2.2 with kJ := true, cls := 1 }) (jG.kJ _ _ (UO jG.rx.1.2)) Qw.f12.f12.f12.f12.f12.f12.f12.f12.f12.f12.f12.f12⟩
       ·skip
        refine bY O (dA O (Z 28 aI O ah O (dL ay O (acK.f2).get.2 O (aZ (je O O) (qG O (fun h8 => ?_) (fun h8 => ?_))))))
        ·(try simp only [aK] at h8)
         refine cZ (cZ (cZ (cZ (nX O O (iF (Ko (kW O (bY O (kE O (fun h9 => ?_) (fun h9 => ?_))))))))))
         ·(try simp only [aK] at h9)
          refine aB (oD O (cO ?_))
          refine gZ (()) ?_ ?_ ?_
          ·exact (Sub.qF O (by unfold bP.way; rw [← hlast hin]; simp_all) (Sub.nil _))
          ·exact AA
          ·(try dsimp only)
           first | done | exact rfl
         ·(try simp only [aK] at h9)
          refine fV ?_
          refine gZ (()) ?_ ?_ ?_
          ·exact (Sub.qF O (by unfold bP.way; rw [← hlast hin]; simp_all) (Sub.nil _))
          ·exact AA
          ·(try dsimp only)
           first | done | exact rfl
        ·(try simp only [aK] at h8)
         refine bK (dn O (bK (dA O (bK (Z 37 aI O aN O (bK (dL bf O (acK.f2).get.2 O (lH O O (kE O (fun h10 => ?_) (fun h10 => ?_))))))))))
         ·(try simp only [aK] at h10)
          refine kW O (bY O (kE O (fun h11 => ?_) (fun h11 => ?_)))
          ·(try simp only [aK] at h11)
           refine aB (oD O (cO ?_))
           refine gZ (()) ?_ ?_ ?_
           ·exact (Sub.qF O (by unfold bP.way; rw [← hlast hin]; simp_all) (Sub.nil _))
           ·exact AA
           ·(try dsimp only)
            first | done | exact rfl
          ·(try simp only [aK] at h11)
           refine fV ?_
           refine gZ (()) ?_ ?_ ?_
           ·exact (Sub.qF O (by unfold bP.way; rw [← hlast hin]; simp_all) (Sub.nil _))
           ·exact AA
           ·(try dsimp only)
            first | done | exact rfl
         ·(try simp only [aK] at h10)
          refine fV ?_
          refine gZ (()) ?_ ?_ ?_
          ·exact (Sub.qF O (by unfold bP.way; rw [← hlast hin]; simp_all) (Sub.nil _))
          ·exact AA
          ·(try dsimp only)
           first | done | exact rfl
theorem Qn (H : V w0 w (iT y s • F)) : iQ prog 13 #[.pointer (some ⟨y, 0, none⟩), .int .i64 i, .int .i64 j, .bool back] w fun v' w' => v' = .int .i64 (s.Ol i j back) ∧ V w0 w' (iT y (s.sO i j back) • F) := by
  refine Hg func13 ntmps13 ?_
  refine kW O (aO (bY O (jw O O (dn O (fO O func39 (Tq H) ?_)))))
  rintro _ w1 ⟨rfl, H1⟩
  refine jZ O (bY O (aZ (fF O O) (kE O (fun h1 => ?_) (fun h1 => ?_))))
  · (try simp only [aK] at h1)
    have hc := h1
    refine bY O (jP O (aV (gy results13 O ?_)))
    exact ⟨by unfold bP.Ol; rw [if_neg hc], by unfold bP.sO; rw [if_neg hc]; have HX := H1; rw [tu hc] at HX; exact HX⟩
  · (try simp only [aK] at h1)
    have hc := h1
    refine gX (bY O (jw O O (fO O func35 (xX H1 (fun W _ => oL.nil W _ none 0 (by decide)) (by (try simp only [List.length_nil]); omega)) ?_)))
    rintro _ w2 ⟨rfl, H2⟩
    refine jP O (gy results13 O ?_)
    exact ⟨by unfold bP.Ol; rw [if_pos hc], by unfold bP.sO; rw [if_pos hc]; exact H2⟩
theorem gB.ring {es : List fB} {A : List LE} {yf yt : Int} (h : gB s es A yf yt) (E : List (List Int)) (a : Nat) (hE : E.length ≤ 60 ∧ (a < E.length ∨ a = 0) ∧ ∀ e ∈ E, e.length ≤ 1024) : gB (s.zV E a) es A yf yt :=
  ⟨h.ok, ⟨⟨h.rx.1.1, hE⟩, h.rx.2.1, h.rx.2.2⟩, h.says, h.CS, h.placed, h.Ju⟩
end
end Go.Proofs.YtnhhmieghbfalaaGreat
end
section
namespace Go.Proofs.YtnhhmieghbfalaaGreat
open Go.RowKit
section
variable {w0 w : World} {F : HP} {y : Nat} {s : bP} {gl : Value} {xQ : List fB}
theorem gB.zX {es : List fB} {A : List LE} {yf yt : Int} (h : gB s es A yf yt) : gB s.zX es A yf yt := ⟨h.ok, h.rx, h.says, h.CS, h.placed, h.Ju⟩
theorem gB.apps {es : List fB} {A : List LE} {yf yt : Int} (h : gB s es A yf yt) (l : List iO) : gB (s.KX l) es A yf yt := h.nI _ _ _
end
def RV (t : bP) (k : Nat) : bP := ((t.lG (t.here.take k)).KX (((t.here.drop k).flatten).reverse.map BK)).zX
section
variable {w0 w : World} {F : HP} {y : Nat} {s : bP}
end
theorem Qo {l : List ByteArray} {k : Nat} (hk : k < l.length) : (strs l).getD k undef = .string (l.getD k .empty) := by
  unfold strs
  simp [List.getD_eq_getElem?_getD, hk]
section
variable {w0 w : World} {F : HP} {y : Nat} {s : bP} {k x : Int} {nv : Value} {l : List ByteArray} {b : ByteArray}
theorem gB.goto {t : bP} {es : List fB} {A : List LE} {yf yt : Int} {l : List Int} (h : gB t es A yf yt) (hp : t.put = []) (hk : ¬ (k < 0 ∨ (t.hl.length : Int) < k)) (hh : t.Gt.size ≤ 16384) :
    gB { t with whole := false, c := { t.c with tx := uq t.c.tx t.c.place (some t.Gt), place := k, L := l, pt := l.length, mark := -1, run := false } } es A yf yt :=
  ⟨aaA h.ok hp hk hh (h.rx.1.1 k).1, h.rx, h.says, h.CS, h.placed, h.Ju⟩
end
end Go.Proofs.YtnhhmieghbfalaaGreat
end
section
namespace Go.Proofs.YtnhhmieghbfalaaGreat
open Go.RowKit
open _root_.Go.Proofs.Tryz
theorem ZH {n place k : Nat} (hp : place < n) (hk : k < n) : (((place : Int) + k).tmod n).toNat = if place + k < n then place + k else place + k - n := by
  rw [Int.tmod_eq_emod_of_nonneg (by omega)]
  split
  · rw [Int.emod_eq_of_lt (by omega) (by omega)]; omega
  · have : ((place : Int) + k) % n = place + k - n := by
      rw [show ((place : Int) + k) = (place + k - n) + n from by omega, Int.add_emod_right, Int.emod_eq_of_lt (by omega) (by omega)]
      omega
    rw [this]; omega
theorem UZ {E : List (List Int)} {a k : Nat} (ha : a < E.length) (hk : k < E.length) : (fK E a).getD k [] = E.getD (if a + k < E.length then a + k else a + k - E.length) [] := by
  unfold fK
  simp only [List.getD_eq_getElem?_getD]
  by_cases h : a + k < E.length
  · rw [if_pos h, List.getElem?_append_left (by simp; omega), List.getElem?_drop]
  · rw [if_neg h, List.getElem?_append_right (by simp; omega)]
    simp only [List.length_drop]
    rw [List.getElem?_take, if_pos (by omega)]
    congr 2; omega
theorem V.Xl {w0 w : World} {F : HP} {k : IntKind} {vs : List Value} {ls : List (List Int)} {j : Nat} (H : V w0 w (pR k vs ls • F)) (hj : j < ls.length) : V w0 w (qK k (vs.getD j undef) (ls.getD j []) • pR k vs ls • F) := H.uf.CV (oM (fun I h => h.2 j hj) _)
section
variable {w0 w : World} {F : HP} {p y : Nat} {E : List (List Int)} {place : Nat} {s : bP}
theorem MJ (H : V w0 w (lF p E place • F)) (hE : E.length ≤ 60 ∧ (place < E.length ∨ place = 0) ∧ ∀ e ∈ E, e.length ≤ 1024) : iQ prog 108 #[.pointer (some ⟨p, 0, none⟩)] w fun v w' => ∃ us, V w0 w' (Row 23 1 v E.length us • pR .i32 us (fK E place) • F) := by
 obtain ⟨u, HR⟩ := H.Zt
 obtain ⟨us, HR⟩ := HR.swap.ll
 obtain ⟨au, cu, rfl, -⟩ := (HR.aG).form
 have hE1 : E.length ≤ 60 := hE.1
 have hul := HR.f2.QU
 refine jH func108 ntmps108 ?_
 refine kW O (kW O (aO (kW O (bI ?_))))
 refine iC [(0, _)] (fun (⟨k, z⟩ : Nat × Value) => [(3, z), (4, .int .i64 (k : Int))]) (fun (⟨k, z⟩ : Nat × Value) W => k ≤ E.length ∧ ∃ zs, V w0 W (Row 23 1 z k zs • pR .i32 zs ((fK E place).take k) • Row 23 1 (.slice au E.length cu) E.length us • pR .i32 us E • eF p (.cells #[.slice au E.length cu, .int .i64 place] 120 (0, 0)) • F)) (fun (⟨k, z⟩ : Nat × Value) => E.length - k) ((0, .slice none 0 0)) pY uj ⟨by omega, [], (HR.f3.f3.f3).KD.gV none⟩ ?_
 rintro ⟨k, z⟩ w1 ⟨hk, zs, HL⟩
 dsimp only [List.cons_append, List.nil_append]
 refine aO (bY O (lM O O (Z 0 bQ O dG O (dL aT O (HL.f5).get.2 O (aZ (fA ((HL.f3).aG) aT O) (aZ (iE O O) (kE O (fun h1 => ?_) (fun h1 => ?_))))))))
 ·(try simp only [aK] at h1)
  refine gX (aO (bI ?_))
  have hkl : k < E.length := by omega
  have hpl : place < E.length := by have := hE.2.1; omega
  have aaj := ZH hpl hkl
  have hrl : (((place : Int) + k).tmod E.length).toNat < E.length := by rw [aaj]; split <;> omega
  have ahP := Int.tmod_nonneg (a := (place : Int) + k) (E.length : Int) (by omega)
  have htb := JH ((place : Int) + k) (show (0 : Int) < E.length by omega)
  have FD := HL.drew
  have nC := V.kp (FD.f5.f5.f5.f5.f5)
  refine wL [4, 8, 14, 18] nC O (gK 0 O nC O (gK 1 O nC O (jL 2 O nC O (fH 3 O nC 0 bQ O dG O (iY 4 O nC (fun W hW => jQ aT O ((Kp.h hW).f5).get.2 O) (gK 5 O nC O (jL 6 O nC O (fH 7 O nC 1 bQ O ah O (iY 8 O nC (fun W hW => jQ ay O ((Kp.h hW).f5).get.2 O) (gK 9 O nC O (jR 10 O nC (fun _ => fZ O O (by omega)) (gK 11 O nC O (jL 12 O nC O (fH 13 O nC 0 bQ O dG O (iY 14 O nC (fun W hW => jQ aT O ((Kp.h hW).f5).get.2 O) (jR 15 O nC (fun _ => fA ((FD.f3).aG) aT O) (jR 16 O nC (fun _ => O5 O O (by omega)) ?_)))))))))))))))))
  obtain ⟨bu, ou, cu, eu⟩ := Rd.qP ((FD.f3).aG) (by omega)
  cases eu
  refine jR 17 O nC (fun _ => eG aT bg O O (by omega)) ?_
  refine iY 18 O nC (fun W hW => jk (eH aA O) O (by first | exact Rd.wG (((Kp.h hW).f3).aG) (by omega) | exact Rd.Hf (((Kp.h hW).f3).aG) (by omega) | exact Rd.GX (((Kp.h hW).f3).aG) (by omega))) ?_
  refine TN (fun agy U0 => ?_)
  have Q9 := FD.f4
  have Oi := (by have HE := Q9.Xl hrl; rw [← U0] at HE; exact HE)
  refine lU 19 O (jc (vs := [_]) Oi aT bg jS O O O (by decide) (aW (by first | rfl | exact Rd.one ((by rw [U0]; exact (Oi.f2).zQ (by omega)))) bG)) ?_
  rintro l5 w5 H5
  have En := V.kp (H5.f7.f7.f7.f7.f7.f7.f7)
  refine fG En (by kernel_rfl) ?_
  refine lU 20 O (dQ H5.f4 aT Bc O O O ((H5).aG) (aW (by first | rfl | exact Rd.one ((by rw [U0]; exact (H5.f3).zQ (by omega)))) bG) (by omega) (by omega)) ?_
  rintro l6 w6 H6
  have PK := H6.f2.right
  have xU := V.kp (PK.f6.f6.f6.f6.f6.f6)
  refine fG xU (by kernel_rfl) ?_
  have YD := PK.f2.f4
  have TF := YD.Oe
  have HS := TF.f5.f4.f5.f4.f5
  refine jR 21 O xU (fun _ => iV O) (qN (aX (bC (aB (dn O (aZ (fZ O O (by omega)) (oD O (cO ?_))))))))
  refine eX ((k + 1, l6)) ?_ ?_ ?_ ?_
  ·exact uj
  ·exact pY
  ·(try dsimp only)
   first | done | exact ⟨by omega, _, by rw [DL (d := []) (by rw [yV]; exact hkl), UZ hpl hkl, ← aaj]; exact HS⟩
  ·(try dsimp only); omega
 ·(try simp only [aK] at h1)
  refine gY (aY (aY (dw (bC (bY O (jP O (gy results108 O ?_)))))))
  obtain rfl : k = E.length := by omega
  have HZ := HL.f3.right.f3.right.f3.right.f2.f2
  rw [List.take_of_length_le (by rw [yV]; exact Nat.le_refl _)] at HZ
  exact ⟨_, HZ⟩
end
end Go.Proofs.YtnhhmieghbfalaaGreat
end
