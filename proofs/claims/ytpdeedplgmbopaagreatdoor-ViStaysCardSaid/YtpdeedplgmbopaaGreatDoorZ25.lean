import Derived.Test.YtpdeedplgmbopaaGreatDoorZ4
import Derived.Test.YtpdeedplgmbopaaGreatDoorZ24
import Derived.Test.YtpdeedplgmbopaaGreatDoorZ18
import Derived.Test.YtpdeedplgmbopaaGreatDoorZ23
import Derived.Test.YtpdeedplgmbopaaGreatDoorZ11
set_option linter.unusedSimpArgs false
set_option linter.unusedVariables false
/- Texts of mine, joined, their names in short: REdA REd0 EBoth0 REdB REdR REdT REdF REdE. -/
section
namespace Go.Proofs.YtpdeedplgmbopaaGreatDoor
open Go.RowKit
open _root_.Go.Proofs.Tryz
section
variable {w0 w : World} {F : HP} {y : Nat} {s : bQ} {x : Int} {b : Bool}
theorem Vl (H : V w0 w (wG y s • F)) : jf prog 63 #[.pointer (some ⟨y, 0, none⟩), .int .i64 x] w fun v w' => v = .int .i64 (s.yw x) ∧ V w0 w' (wG y (s.zH x) • F) := by
 refine qo func63 ntmps63 ?_
 refine kH O (aI (aI ?_))
 obtain ⟨h_y, Ry, Rz, RD, RF, ab2, ab3, A_y, ab4, ab5, XR, XT, XU, RH, RI, RJ, RN, RP, RU, RV, RY, RZ, Si, Sj, Sl, xu, J4, BI⟩ := (H).XP
 refine aF (mX O O (bM 32 aX O aT O (eH bJ O (BI).get.2 O (aV (jR O) (jY O (fun h1 => ?_) (fun h1 => ?_))))))
 ·(try simp only [Z] at h1)
  refine bK (bK (jQ O O (bW O (bK (bK (jQ O O (iR (ET (jS O (aC (dL results63 O ?_)))))))))))
  have hd : s.yw x = 1 := by
   unfold bQ.yw
   by_cases hin : s.inn = true
   ·rw [if_pos hin, if_pos (by first | omega | (exfalso; simp_all))]
   ·rw [if_neg hin]
  have YD := BI.f12.f12.f12.f12.f12.f12.f12.f12.f12.f12.f12.f12
  have ZW := V.zS (s := s) xu YD
  exact ⟨by rw [hd], by unfold bQ.zH; rw [if_neg (by rw [hd]; decide)]; exact ZW⟩
 ·(try simp only [Z] at h1)
  refine bF (bW O (bF (aV (gG O O) (iH O O (jY O (fun h2 => ?_) (fun h2 => ?_))))))
  ·(try simp only [Z] at h2)
   refine bK (bK (jQ O O (iR (ET (jS O (aC (dL results63 O ?_)))))))
   have hd : s.yw x = 1 := by
    unfold bQ.yw
    by_cases hin : s.inn = true
    ·rw [if_pos hin, if_pos (by first | omega | (exfalso; simp_all))]
    ·rw [if_neg hin]
   have UA := BI.f12.f12.f12.f12.f12.f12.f12.f12.f12.f12.f12.f12
   have QU := V.zS (s := s) xu UA
   exact ⟨by rw [hd], by unfold bQ.zH; rw [if_neg (by rw [hd]; decide)]; exact QU⟩
  ·(try simp only [Z] at h2)
   refine bF (bW O (bF (aV (gK O O) (iH O O (iW O (fun h3 => ?_) (fun h3 => ?_))))))
   ·(try simp only [Z] at h3)
    refine jS O (aC (dL results63 O ?_))
    have hd : s.yw x = 1 := by
     unfold bQ.yw
     by_cases hin : s.inn = true
     ·rw [if_pos hin, if_pos (by first | omega | (exfalso; simp_all))]
     ·rw [if_neg hin]
    have Ho9 := BI.f12.f12.f12.f12.f12.f12.f12.f12.f12.f12.f12.f12
    have ah4 := V.zS (s := s) xu Ho9
    exact ⟨by rw [hd], by unfold bQ.zH; rw [if_neg (by rw [hd]; decide)]; exact ah4⟩
   ·(try simp only [Z] at h3)
    refine gy (aI ?_)
    have hin : s.inn = true := by first | assumption | (simp_all; done)
    have hd : s.yw x = 0 := by unfold bQ.yw; rw [if_pos hin, if_neg (by omega)]
    refine aF (jU O O (dV O (bM 1 aX O iU O (bM 8 fG O aj O (aQ (qJ 9 BI aj) ?_)))))
    rintro _ FK ru
    refine iR (jS O (dL results63 O ?_))
    rw [hd]
    refine ⟨O, ?_⟩
    unfold bQ.zH
    rw [if_pos hd]
    exact V.zS (s := { s with c := { s.c with mode := x } }) ⟨xu.ok, xu.rx, xu.says, xu.MH, xu.placed, xu.Xd⟩ ru.f12.f12.f12.f12.f12.f12.f12.f12.f12.f12.f12.f12
end
end Go.Proofs.YtpdeedplgmbopaaGreatDoor
end
section
namespace Go.Proofs.YtpdeedplgmbopaaGreatDoor
open Go.RowKit
section
variable {w0 w : World} {F : HP} {e h : Nat} {hl : List wY} {base most : Int}
end
section
variable {w0 w : World} {F : HP} {l : List wY} {v : Value}
end
end Go.Proofs.YtpdeedplgmbopaaGreatDoor
end
section
namespace Go.Proofs.YtpdeedplgmbopaaGreatDoor
open Go.RowKit
open _root_.Go.Proofs.Tryz
section
variable {w0 w : World} {F : HP} {p y h : Nat} {L : List Int} {pt mk n : Int} {E : List (List Int)} {place : Nat} {s : bQ} {l : List Int} {v wv nv : Value} {m : Nat} {xs ys : List Value}
theorem Vm (H : V w0 w (uO p L pt mk • F)) : jf prog 152 #[.pointer (some ⟨p, 0, none⟩)] w fun v w' => ∃ q, v = .pointer (some ⟨q, 0, none⟩) ∧ V w0 w' (uO q L pt mk • uO p L pt mk • F) := by
 refine jE func152 ntmps152 ?_
 refine kH O (aI ?_)
 obtain ⟨amG, amH, aj6, aj7, aj8, amI, amJ, alx⟩ := (H).ref
 refine aF (tX O ?_)
 have Y1 := alx.drew
 have rF := V.kp (Y1.f2.f2)
 refine nG [4, 9, 13] rF O (fD 0 O rF O (fD 1 O rF O (iG 2 O rF O (dJ 3 O rF 0 underlying222 O bD O (fM 4 O rF (fun W hW => fQ ah O ((Kp.h hW)).get.2 O) (fD 6 O rF O (iG 7 O rF O (dJ 8 O rF 1 underlying222 O aj O (fM 9 O rF (fun W hW => fQ aA O ((Kp.h hW)).get.2 O) (fD 10 O rF O (iG 11 O rF O (dJ 12 O rF 2 underlying222 O aj O (fM 13 O rF (fun W hW => fQ aA O ((Kp.h hW)).get.2 O) (ny 5 O (nH (l := []) (Y1.kF none) ((Y1.f2).aO) ah XD O O (by first | omega | (simp only [List.length_append, List.length_nil, List.length_cons]; omega) | (simp; omega)) (by first | omega | (simp only [List.length_append, List.length_nil, List.length_cons]; omega) | (simp; omega))) ?_))))))))))))))
 rintro l2 w2 H2
 try simp only [List.nil_append] at H2
 have zB := V.kp (H2.f3.f3.f3)
 refine dK zB (fun W hW => (Kp.h hW).right.f2.f2) ?_
 refine dS 14 O zB (fun _ => iJ (zl := [.slice none 0 0, .int .i64 0, .int .i64 0]) (pl := [(0, 1), (1, 1), (2, 1)]) [_, _, _] underlying222 zeroValue222 O (fun w => by kernel_rfl) O (.one (Rd.one ((H2).aO)) (.on (.on .nil))) O) ?_
 refine ny 15 O (kK (l := [_, _, _]) H2 O O) ?_
 rintro _ w3 ⟨b3, rfl, H3⟩
 have uQ := V.kp (H3.f4.f4.f4.f4)
 refine gU uQ (by kernel_rfl) ?_
 refine dS 16 O uQ (fun _ => aW O) (lJ (aU (iL (dL results152 O ?_))))
 have Ho5 := H3.f4.f4
 have Hc6 := V.ZB aj6 aj7 aj8 Ho5
 exact ⟨_, O, V.ZB aj6 aj7 aj8 Hc6.f3.f3⟩
theorem QI (H : V w0 w (rO p E place • F)) (hE : E.length ≤ 60 ∧ (place < E.length ∨ place = 0) ∧ ∀ e ∈ E, e.length ≤ 1024) : jf prog 153 #[.pointer (some ⟨p, 0, none⟩)] w fun v w' => ∃ q, v = .pointer (some ⟨q, 0, none⟩) ∧ V w0 w' (rO q E place • rO p E place • F) := by
 obtain ⟨u, HR⟩ := H.aj1
 obtain ⟨us, HR⟩ := HR.swap.ll
 obtain ⟨au, cu, rfl, -⟩ := (HR.aO).form
 have hE1 : E.length ≤ 60 := hE.1
 have hE2 : ∀ k, (E.getD k []).length ≤ 1024 := WR hE.2.2
 refine jE func153 ntmps153 ?_
 refine kH O (kH O (aI (kH O (bf ?_))))
 refine iy [(0, _)] (fun (⟨k, z⟩ : Nat × Value) => [(3, z), (4, .int .i64 (k : Int))]) (fun (⟨k, z⟩ : Nat × Value) W => k ≤ E.length ∧ ∃ zs, V w0 W (Row 22 1 z k zs • GX .i32 zs (E.take k) • Row 22 1 (.slice au E.length cu) E.length us • GX .i32 us E • gJ p (.cells #[.slice au E.length cu, .int .i64 place] 176 (0, 0)) • F)) (fun (⟨k, z⟩ : Nat × Value) => E.length - k) ((0, .slice none 0 0)) lH sG ⟨by omega, [], (HR.f3.f3.f3).VE.kF none⟩ ?_
 rintro ⟨k, z⟩ w1 ⟨hk, zs, HL⟩
 dsimp only [List.cons_append, List.nil_append]
 obtain ⟨az, cz, rfl, -⟩ := (HL.aO).form
 refine aI (bI O (mX O O (bM 0 underlying176 O sizeOf47 O (eH gQ O (HL.f5).get.2 O (aV (ku ((HL.f3).aO) gQ O) (aV (gG O O) (iW O (fun h1 => ?_) (fun h1 => ?_))))))))
 ·(try simp only [Z] at h1)
  refine gy (aI (bf ?_))
  have hkl : k < E.length := by omega
  have hek := hE2 k
  refine aF (jU O O (dV O (bM 0 underlying176 O sizeOf47 O (eH gQ O (HL.f5).get.2 O (bW O ?_)))))
  obtain ⟨bu, ou, cu, eu⟩ := Rd.qN ((HL.f3).aO) (by omega)
  cases eu
  refine aV (dI gQ bD O O (by omega)) ?_
  refine aV (dW (bV ah O) O (by first | exact Rd.lN ((HL.f3).aO) (by omega) | exact Rd.uP ((HL.f3).aO) (by omega) | exact Rd.wO ((HL.f3).aO) (by omega))) ?_
  refine ahn (fun al4 aiA => ?_)
  refine dX O func181 (abZ HL (fun W HW => (by rw [aiA]; exact (HW.f4).afj (by omega))) (by omega)) ?_
  rintro u3 w3 H3
  have Hf4 := H3.oC
  refine kV (nV (vs := [_]) Hf4 gQ bD zeroValue22 O O O (by decide) (bG (by first | rfl | exact Rd.one ((Hf4).lK)) dn)) ?_
  rintro l5 w5 H5
  refine kV (jy H5.f3 gQ agM O O O ((H5).aO) (bG (by first | rfl | exact Rd.one ((H5.f2).lK)) dn) (by omega) (by omega)) ?_
  rintro l6 w6 H6
  have Hd7 := H6.f2.right
  refine gW O (bT (aH (aU (aF (bW O (aV (fH O O (by omega)) (gW O (bT ?_))))))))
  have HS := (Hd7.f6.f6.f6.f4.f5.f6).aa1.f2
  refine dN ((k + 1, l6)) ?_ ?_ ?_ ?_
  ·exact sG
  ·exact lH
  ·(try dsimp only)
   first | done | exact ⟨by omega, _, by rw [QG (d := []) hkl]; exact HS⟩
  ·(try dsimp only); omega
 ·(try simp only [Z] at h1)
  refine dR (aP (aP (bH (aU (bI O (mX O O (bM 1 underlying176 O aj O (eH aA O (HL.f5).get.2 O ?_))))))))
  refine aV (iJ (zl := [.slice none 0 0, .int .i64 0]) (pl := [(0, 1), (1, 1)]) [_, _] underlying176 zeroValue176 O (fun w => by kernel_rfl) O (.one (Rd.one ((HL).aO)) (.on .nil)) O) ?_
  refine kV (kK (l := [_, _]) HL O O) ?_
  rintro _ w8 ⟨b8, rfl, H8⟩
  refine fP O (dL results153 O ?_)
  have HL2 := V.acv (H8.f6.f6.f6.f4.f6.f6)
  rw [List.take_of_length_le (by omega)] at HL2
  have HL3 := V.QF HL2.f2
  exact ⟨_, O, (V.QF (V.acv HL3.f3.f3).f3).f2⟩
theorem QJ {x : Int} (H : V w0 w (gJ p (.cells #[wv, nv, .int .i64 x] 166 (0, 0)) • Row 9 1 nv m ys • Bl 1 wv m xs • F)) (hy : ∀ u ∈ ys, u.oneCell' = true) (hm : m ≤ 4097) : jf prog 154 #[.pointer (some ⟨p, 0, none⟩)] w fun v w' => ∃ q nv', v = .pointer (some ⟨q, 0, none⟩) ∧
  V w0 w' (gJ q (.cells #[wv, nv', .int .i64 x] 166 (0, 0)) • Row 9 1 nv' m ys • gJ p (.cells #[wv, nv, .int .i64 x] 166 (0, 0)) • Row 9 1 nv m ys • Bl 1 wv m xs • F) := by
 refine jE func154 ntmps154 ?_
 refine kH O (aI ?_)
 have L8 := H.drew
 have kS := V.kp (L8.f3.f3.f3)
 refine nG [3, 7, 12] kS O (fD 0 O kS O (iG 1 O kS O (dJ 2 O kS 0 jM O sizeOf33 O (fM 3 O kS (fun W hW => fQ kQ O ((Kp.h hW)).get.2 O) (fD 4 O kS O (iG 5 O kS O (dJ 6 O kS 1 jM O sizeOf33 O (fM 7 O kS (fun W hW => fQ kQ O ((Kp.h hW)).get.2 O) (fD 9 O kS O (iG 10 O kS O (dJ 11 O kS 2 jM O aj O (fM 12 O kS (fun W hW => fQ aA O ((Kp.h hW)).get.2 O) (ny 8 O (jy (L8.kF none) kQ afT O O O ((L8.f2).aO) (by assumption) (by omega) (by omega)) ?_)))))))))))))
 rintro l1 w1 H1
 have aga := V.kp (H1.f4.f4.f4.f4)
 refine dK aga (fun W hW => (Kp.h hW).right.f3.f3.f3) ?_
 refine dS 13 O aga (fun _ => iJ (zl := [.slice none 0 0, .slice none 0 0, .int .i64 0]) (pl := [(0, 1), (1, 1), (2, 1)]) [_, _, _] jM zeroValue166 O (fun w => by kernel_rfl) O (.one (Rd.one ((H1.f4).wz)) (.one (Rd.one ((H1).aO)) (.on .nil))) O) ?_
 refine ny 14 O (kK (l := [_, _, _]) H1 O O) ?_
 rintro _ w2 ⟨b2, rfl, H2⟩
 have zB := V.kp (H2.f5.f5.f5.f5.f5)
 refine gU zB (by kernel_rfl) ?_
 refine dS 15 O zB (fun _ => aW O) (lJ (aU (iL (dL results154 O ?_))))
 have HQ := H2.f5.f5.f5.f5.f5
 simp only [Nat.zero_add, List.nil_append] at HQ
 exact ⟨_, _, O, HQ⟩
theorem XV {pb pk : Nat} {pv gv : Value} {x md rs : Int} {t : ByteArray} {ov rn : Bool} (H : V w0 w (uO pb L pt mk • rO pk E place • Row 9 1 nv m ys • Bl 1 wv m xs • F)) (hE : E.length ≤ 60 ∧ (place < E.length ∨ place = 0) ∧ ∀ e ∈ E, e.length ≤ 1024) (hy : ∀ u ∈ ys, u.oneCell' = true) (hm : m ≤ 4097) (o1 : pv.oneCell' = true) (o2 : gv.oneCell' = true) :
  jf prog 115 #[.agg #[.pointer (some ⟨pb, 0, none⟩), .pointer (some ⟨pk, 0, none⟩), wv, nv, .int .i64 x, .string t, pv, gv, .int .i64 md, .bool ov, .int .i64 rs, .bool rn]] w fun v w' => ∃ qb qk nv',
   v = .agg #[.pointer (some ⟨qb, 0, none⟩), .pointer (some ⟨qk, 0, none⟩), wv, nv', .int .i64 x, .string t, pv, gv, .int .i64 md, .bool ov, .int .i64 rs, .bool rn] ∧
   V w0 w' (uO qb L pt mk • rO qk E place • Row 9 1 nv' m ys • uO pb L pt mk • rO pk E place • Row 9 1 nv m ys • Bl 1 wv m xs • F) := by
 refine jE func115 ntmps115 ?_
 refine jg (kV (kK (l := [_, _, _, _, _, _, _, _, _, _, _, _]) H O O) ?_)
 rintro _ w1 ⟨b1, rfl, H1⟩
 refine kV (iO (l := [_, _, _, _, _, _, _, _, _, _, _, _]) H1 zeroValue172 O) ?_
 rintro _ w2 ⟨b2, rfl, H2⟩
 refine zk7 (bM 0 fG O sizeOf163 O (eH underlying163 O (H2.f2).get.2 O (dX O func152 (Vm H2.f3) ?_)))
 rintro _ w3 ⟨q3, rfl, H3⟩
 refine bM 0 fG O sizeOf163 O (aQ (ig 0 (l' := [_, _, _, _, _, _, _, _, _, _, _, _]) H3.f4 sizeOf163 O O (by first | rfl | assumption) O O) ?_)
 rintro _ w4 H4
 refine zk7 (bM 1 fG O sizeOf164 O (eH underlying164 O (H4).get.2 O (dX O func153 (QI H4.f5 (by assumption)) ?_)))
 rintro _ w5 ⟨q5, rfl, H5⟩
 refine bM 1 fG O sizeOf164 O (aQ (ig 1 (l' := [_, _, _, _, _, _, _, _, _, _, _, _]) H5.f3 sizeOf164 O O (by first | rfl | assumption) O O) ?_)
 rintro _ w6 H6
 refine zk7 (bM 2 fG O tK O (aV (pz 2 (xs := [_, _, _]) jM O tK O O (H6).get.2 O) (kV (iO (l := [_, _, _]) H6 zeroValue166 O) ?_)))
 rintro _ w7 ⟨b7, rfl, H7⟩
 refine aQ (dM 0 (l' := [_, _, _]) (us := [_, _, _]) H7 tK O O O (bG (by first | rfl | exact Rd.one ((H7.f9).wz)) (bG (by first | rfl | exact Rd.one ((H7.f8).aO)) (aJ dn))) O O) ?_
 rintro _ w8 H8
 refine zk7 (dX O func154 (QJ H8.f9.f9.f3 (by assumption) (by omega)) ?_)
 rintro _ w9 ⟨q9, nv9, rfl, H9⟩
 refine dV O (aV (dH jM O tK O O (H9).get.2) (bM 2 fG O tK O (aQ (dM 2 (l' := [_, _, _, _, _, _, _, _, _, _, _, _]) (us := [_, _, _]) H9.f6 tK O O O (bG (by first | rfl | exact Rd.one ((H9.f5).wz)) (bG (by first | rfl | exact Rd.one ((H9.f2).aO)) (aJ dn))) O O) ?_)))
 rintro _ w10 pG
 refine zk7 (aV (dH fG O iU O O (pG).get.2) (aQ (dM 0 (l' := [_, _, _, _, _, _, _, _, _, _, _, _]) (us := [_, _, _, _, _, _, _, _, _, _, _, _]) pG.f11 iU O O O (aJ (aJ (bG (by first | rfl | exact Rd.one ((pG.f6).wz)) (bG (by first | rfl | exact Rd.one ((pG.f3).aO)) (aJ (aJ (aJ (aJ (aJ (aJ (aJ (aJ dn)))))))))))) O O) ?_))
 rintro _ FK ru
 refine zkc ?_
 refine wS (.inl O) (Ud results115 O fG O (by rw [aiB]; rfl) (ru).get.2) ?_
 exact ⟨_, _, _, O, ru.right.right.right.f2.right.f3.f3.f5.f7.f5.f6.f7⟩
theorem V.agr {k : IntKind} (H : V w0 w (qZ k v l • F)) : V w0 w (qZ k v l • qZ k v l • F) := H.wR
theorem V.ags {A : List LE} (H : V w0 w (xX A • F)) : V w0 w (xX A • xX A • F) := H.wR
theorem V.aaQ {h pb pk : Nat} {wv nv pv gv : Value} {A : List LE} {yf yt : Int} {ch : Bool} {u0 u1 u2 u3 u4 u5 u6 u7 u8 u9 ua ub : Value} (h1 : lU s [] A yf yt) (H : V w0 w (gJ y (.cells (.pointer (some ⟨h, 0, none⟩) :: .pointer (some ⟨pb, 0, none⟩) :: .pointer (some ⟨pk, 0, none⟩) :: wv :: nv :: .int .i64 s.c.place :: .string (lS s.hl s.c.tx s.c.place) :: pv :: gv :: .int .i64 s.c.mode :: .bool s.c.over :: .int .i64 s.c.res :: .bool s.c.run :: u0 :: u1 :: u2 :: u3 :: u4 :: u5 :: u6 :: u7 :: u8 :: u9 :: ua :: ub :: .bool s.given :: .bool s.minus :: .int .i64 s.arg :: .int .i64 s.Ef :: .int .i64 s.frS :: .int .i64 s.toS :: .int .i64 s.lI :: .bool s.inn :: .int .i64 s.cls :: .int .i64 yf :: .int .i64 yt :: .bool s.argues :: .bool s.killed :: .bool s.mM :: .slice none 0 0 :: .bool s.whole :: .bool ch :: []).toArray 174 (0, 0)) • uO pb s.c.L s.c.pt s.c.mark • rO pk s.c.E s.c.at_ • Bl 1 wv (s.hl.length + 1) (strs (uK s.hl)) • Row 9 1 nv (s.hl.length + 1) (strs (Bh s.hl s.c.tx)) • qZ .i64 pv (A.map (·.1)) • Bl 1 gv A.length (A.map (·.2.1)) • xX A • lY h s.hl s.base s.most • Jd s.inn s.hl s.was [u0, u1, u2, u3, u4, u5, u6, u7, u8, u9, ua, ub] • F)) : V w0 w (wG y s • F) := by
  refine V.zS (y := y) (h := h) (pb := pb) (pk := pk) (wv := wv) (nv := nv) (pv := pv) (gv := gv) (ch := ch) (u0 := u0) (u1 := u1) (u2 := u2) (u3 := u3) (u4 := u4) (u5 := u5) (u6 := u6) (u7 := u7) (u8 := u8) (u9 := u9) (ua := ua) (ub := ub) (nw := .slice none 0 0) (es := []) h1 ?_
  rw [← h1.says]
  exact (H.xB none).of_eq (by unfold QT; simp only [List.length_nil, List.flatMap_nil, List.map_nil]; ac_rfl)
theorem V.aaR {h pb pk : Nat} {wv nv pv gv : Value} {A : List LE} {yf yt : Int} {ch : Bool} {u0 u1 u2 u3 u4 u5 u6 u7 u8 u9 ua ub : Value} (h1 : lU s [] A yf yt) (hi : s.inn = false) (H : V w0 w (gJ y (.cells (.pointer (some ⟨h, 0, none⟩) :: .pointer (some ⟨pb, 0, none⟩) :: .pointer (some ⟨pk, 0, none⟩) :: wv :: nv :: .int .i64 s.c.place :: .string (lS s.hl s.c.tx s.c.place) :: pv :: gv :: .int .i64 s.c.mode :: .bool s.c.over :: .int .i64 s.c.res :: .bool s.c.run :: u0 :: u1 :: u2 :: u3 :: u4 :: u5 :: u6 :: u7 :: u8 :: u9 :: ua :: ub :: .bool s.given :: .bool s.minus :: .int .i64 s.arg :: .int .i64 s.Ef :: .int .i64 s.frS :: .int .i64 s.toS :: .int .i64 s.lI :: .bool false :: .int .i64 s.cls :: .int .i64 yf :: .int .i64 yt :: .bool s.argues :: .bool s.killed :: .bool s.mM :: .slice none 0 0 :: .bool s.whole :: .bool ch :: []).toArray 174 (0, 0)) • uO pb s.c.L s.c.pt s.c.mark • rO pk s.c.E s.c.at_ • Bl 1 wv (s.hl.length + 1) (strs (uK s.hl)) • Row 9 1 nv (s.hl.length + 1) (strs (Bh s.hl s.c.tx)) • qZ .i64 pv (A.map (·.1)) • Bl 1 gv A.length (A.map (·.2.1)) • xX A • lY h s.hl s.base s.most • F)) (hu : ([u0, u1, u2, u3, u4, u5, u6, u7, u8, u9, ua, ub].all fun x => x.oneCell') = true) : V w0 w (wG y s • F) := by
  refine V.aaQ (y := y) (h := h) (pb := pb) (pk := pk) (wv := wv) (nv := nv) (pv := pv) (gv := gv) (ch := ch) (u0 := u0) (u1 := u1) (u2 := u2) (u3 := u3) (u4 := u4) (u5 := u5) (u6 := u6) (u7 := u7) (u8 := u8) (u9 := u9) (ua := ua) (ub := ub) h1 ?_
  rw [hi]
  exact (H.Lu (hl := s.hl) (c := s.was) (u := [u0, u1, u2, u3, u4, u5, u6, u7, u8, u9, ua, ub]) hu).of_eq (by ac_rfl)
theorem Sm (H : V w0 w (wG y s • F)) : jf prog 61 #[.pointer (some ⟨y, 0, none⟩)] w fun v w' => v = .int .i64 s.FW ∧ V w0 w' (wG y s.cZ • F) := by
 refine jE func61 ntmps61 ?_
 refine kH O (aI (aI ?_))
 obtain ⟨h_y, Ry, Rz, RD, RF, ab2, ab3, A_y, ab4, ab5, XR, XT, XU, RH, RI, RJ, RN, RP, RU, RV, RY, RZ, Si, Sj, Sl, xu, J4, BI⟩ := (H).XP
 have hE9 := xu.rx.1.2
 have hy9 := @TJ (Bh s.hl s.c.tx)
 obtain ⟨hv9, hk9, _⟩ := (BI.f9).aax
 have hhl := hk9.1
 have o1 := (BI.f6).lK.one
 have o2 := (BI.f7).wz.one
 refine aF (mX O O (bM 32 aX O aT O (eH bJ O (BI).get.2 O (iW O (fun h1 => ?_) (fun h1 => ?_)))))
 ·(try simp only [Z] at h1)
  have hin := h1
  refine jS O (aC (dL results61 O ?_))
  have YD := BI.f12.f12.f12.f12.f12.f12.f12.f12.f12.f12.f12.f12
  have ZW := V.zS (s := s) xu YD
  exact ⟨by unfold bQ.FW; rw [if_pos hin], by rw [PG hin]; exact ZW⟩
 ·(try simp only [Z] at h1)
  have hin := h1
  refine gy (bI O (dV O (bM 32 aX O aT O (aQ (qJ 32 BI aT) ?_))))
  rintro _ w5 H5
  refine uS O (mX O O (bM 1 aX O iU O (aV (pz 1 (xs := [_, _, _, _, _, _, _, _, _, _, _, _]) fG O iU O O (H5).get.2 O) (dX O func115 (XV H5.f4.f5.f5.f5 (by assumption) (by assumption) (by omega) (by assumption) (by assumption)) ?_))))
  rintro _ w6 ⟨qb6, qk6, nv6, rfl, H6⟩
  refine dV O (bM 13 aX O iU O (aQ (dM 13 (l' := [_, _, _, _, _, _, _, _, _, _, _, _, _, _, _, _, _, _, _, _, _, _, _, _, _, _, _, _, _, _, _, _, _, _, _, _, _, _, _, _, _, _]) (us := [_, _, _, _, _, _, _, _, _, _, _, _]) H6.f8 iU O O O (aJ (aJ (bG (by first | rfl | exact Rd.one ((H6.f7).wz)) (bG (by first | rfl | exact Rd.one ((H6.f3).aO)) (aJ (aJ (bG (by first | rfl | exact Rd.one ((H6.f9).lK)) (bG (by first | rfl | exact Rd.one ((H6.f10).wz)) (aJ (aJ (aJ (aJ dn)))))))))))) O O) ?_))
  rintro _ w7 H7
  refine uS O (jU O O (dV O (bM 33 aX O aj O (aQ (qJ 33 H7 aj) ?_))))
  rintro _ w8 H8
  refine dV O (bM 34 aX O aj O (aQ (qJ 34 H8 aj) ?_))
  rintro _ w9 H9
  refine dV O (bM 35 aX O aj O (aQ (qJ 35 H9 aj) ?_))
  rintro _ w10 pG
  refine uS O (jU O O (jU O O (dV O (bM 36 aX O aT O (aQ (qJ 36 pG aT) ?_)))))
  rintro _ FK ru
  refine dV O (bM 37 aX O aT O (aQ (qJ 37 ru aT) ?_))
  rintro _ w12 wQ
  refine dV O (bM 38 aX O aT O (aQ (qJ 38 wQ aT) ?_))
  rintro _ OL wB
  refine dV O (bM 40 aX O aT O (aQ (qJ 40 wB aT) ?_))
  rintro _ OG rU
  refine dV O (bM 41 aX O aT O (aQ (qJ 41 rU aT) ?_))
  rintro _ OM zV
  refine uS O (dV O (bM 39 aX O dA O (aQ (qJ 39 zV dA) ?_)))
  rintro _ w16 uT
  refine iR (jS O (dL results61 O ?_))
  have hin' : s.inn = false := by simpa using hin
  have UK := uT.f8
  have NU := UK.aeC
  have aly := NU.f10
  have alz := aly.agr
  have ac5 := alz.f12
  have abo := ac5.aeC
  have adJ := abo.f14
  have adK := adJ.ags
  have ad7 := adK.f2.f4.f6.f12.f9.f12.f12
  have ad8 := V.agq (c := s.c) xu.MH xu.placed ad7
  have HX := ad8.f11.right.f11.right.f11.right.f10.f3.f4.f5.f10.f7.f10.f10.f10
  rw [show s.Ef = s.c.last from if_neg (by simp [hin']), show s.frS = s.c.fr from if_neg (by simp [hin']), show s.toS = s.c.to from if_neg (by simp [hin'])] at HX
  exact ⟨by unfold bQ.FW; rw [if_neg (by simp [hin'])], by rw [Dq hin']; exact V.aaQ (Dq hin' ▸ xu.begin hin') HX⟩
end
end Go.Proofs.YtpdeedplgmbopaaGreatDoor
end
section
namespace Go.Proofs.YtpdeedplgmbopaaGreatDoor
open Go.RowKit
section
variable {w0 w : World} {F : HP} {p y h : Nat} {s : bQ} {l dl il : List Int} {v d i : Value} {a x j k : Int}
end
section
variable {w0 w : World} {F : HP} {p y h : Nat} {s : bQ} {l : List Int} {v : Value} {j k : Int}
theorem lU.cls {es : List gX} {A : List LE} {yf yt : Int} (h : lU s es A yf yt) (c : Int) (hc : c ≠ 2) : lU { s with cls := c } es A yf yt :=
  ⟨h.ok, ⟨h.rx.1, h.rx.2.1, fun _ h2 => absurd h2 hc⟩, h.says, h.MH, h.placed, h.Xd⟩
end
end Go.Proofs.YtpdeedplgmbopaaGreatDoor
end
section
namespace Go.Proofs.YtpdeedplgmbopaaGreatDoor
open Go.RowKit
open _root_.Go.Proofs.Tryz
theorem Ja.one {I : Hp} {sz n : Nat} {v : Value} {xs : List Value} (h : Ja I sz v n xs) : v.oneCell' = true := by obtain ⟨_, a, c, rfl, _⟩ := h; rfl
section
variable {w0 w : World} {F : HP} {p y h : Nat} {s : bQ} {u v lv : Value} {es les : List gX} {gs : List (Value × List gX)} {on : Bool}
theorem V.aeI (H : V w0 w (tN gs • F)) : ∀ x ∈ gs.map (·.1), x.oneCell' = true := by
  obtain ⟨I, h, hI⟩ := H.yL
  intro x hx
  obtain ⟨g, hg, rfl⟩ := List.mem_map.1 hx
  obtain ⟨k, hk, rfl⟩ := List.getElem_of_mem hg
  have := h k hk
  rw [List.getD_eq_getElem?_getD, List.getElem?_eq_getElem hk] at this
  exact this.1.one
theorem V.agt (H : V w0 w (Jb v es • F)) : V w0 w (nD es • Jb v es • F) := H.wR.JD (vG (fun I h => h.2) _)
theorem aeJ {α : Type _} (l : List α) (u : α) (h : l ≠ []) : l.set (l.length - 1) u = l.dropLast ++ [u] := by
  have e := List.dropLast_concat_getLast h
  have hl : l.dropLast.length = l.length - 1 := List.length_dropLast
  conv => lhs; rw [← e]
  rw [List.set_append_right _ _ (by simp)]
  simp
theorem V.ab6 (hg : gs ≠ []) (H : V w0 w (Row 80 1 v gs.length ((gs.map (·.1)).set (gs.length - 1) u) • Jb u es • tN gs • F)) : V w0 w (glK v (gs.dropLast ++ [(u, es)]) • F) := by
  have h0 : 0 < gs.length := List.length_pos_iff.2 hg
  have H1 := (H.f3).VR (gs.length - 1)
  rw [← List.dropLast_eq_take] at H1
  have hm : (gs.map (·.1)).set (gs.length - 1) u = gs.dropLast.map (·.1) ++ [u] := by
    have := aeJ (gs.map (·.1)) u (by simpa using hg)
    rw [List.length_map] at this
    rw [this, List.map_dropLast]
  have hl : gs.length = gs.dropLast.length + 1 := by rw [List.length_dropLast]; omega
  rw [hm, hl] at H1
  exact (V.yV (H1.f2.f3.f2)).IB
theorem TT (gs : List (Value × List gX)) (x : Value × List gX) : Iz (gs ++ [x]) = Iz gs ++ [x.2.map gX.says] := by unfold Iz; rw [List.map_append]; rfl
theorem XW (hG : Iz gs = s.here) (hne : gs ≠ []) (hl : gs.getD (gs.length - 1) default = (lv, les)) (hes : es.map gX.says = s.put) (hp : s.put ≠ []) : Iz (gs.dropLast ++ [(u, les ++ es)]) = s.jr true := by
  have h0 : s.here ≠ [] := by rw [← hG]; unfold Iz; simpa using hne
  have h1 : s.here.getLast h0 = les.map gX.says := by
    have e : s.here.getLast? = some (les.map gX.says) := by
      rw [← hG]; unfold Iz
      rw [List.getLast?_map, List.getLast?_eq_getElem?]
      rw [List.getD_eq_getElem?_getD, List.getElem?_eq_getElem (by have := List.length_pos_iff.2 hne; omega)] at hl
      rw [List.getElem?_eq_getElem (by have := List.length_pos_iff.2 hne; omega)]
      simp only [Option.getD_some] at hl
      rw [hl]; rfl
    rw [List.getLast?_eq_some_getLast h0] at e
    exact Option.some.inj e
  unfold bQ.jr
  rw [if_neg hp, if_pos rfl, List.getLast?_eq_some_getLast h0, TT]
  have h2 : Iz gs.dropLast = s.here.dropLast := by rw [← hG]; unfold Iz; rw [List.map_dropLast]
  rw [h1, h2]
  show _ ++ [(les ++ es).map gX.says] = _
  rw [List.map_append, hes]
theorem QK (hG : Iz gs = s.here) (hes : es.map gX.says = s.put) (hp : s.put ≠ []) (h : ¬ (on = true ∧ 0 < gs.length)) : Iz (gs ++ [(u, es)]) = s.jr on := by
  unfold bQ.jr
  rw [if_neg hp, TT, hG]
  show s.here ++ [es.map gX.says] = _
  rw [hes]
  cases on with
  | false => rw [if_neg (by decide)]
  | true =>
    have h0 : s.here = [] := by
      have : gs = [] := List.eq_nil_of_length_eq_zero (by by_cases hx : 0 < gs.length; exact absurd ⟨rfl, hx⟩ h; omega)
      rw [← hG, this]; rfl
    rw [if_pos rfl, h0]; rfl
theorem Gh {x0 x1 x2 x3 x4 x6 x9 x10 x11 x12 BK x14 x15 x16 x17 x18 x19 x20 x21 Dn x23 x24 x25 Dp x27 x28 x29 x30 x31 x32 Eb x34 Vz VA VB x38 x40 x41 : Value} {pv gv nw : Value} {A : List LE} (hA : MH A = s.c.un) (hP : Aq s.hl A) (hS : es.map gX.says = s.put) (hok : qE s) (hx : Ls s.c) (hhl : s.hl.length ≤ 4096)
  (H : V w0 w (gJ y (.cells (x0 :: x1 :: x2 :: x3 :: x4 :: .int .i64 s.c.place :: x6 :: pv :: gv :: x9 :: x10 :: x11 :: x12 :: BK :: x14 :: x15 :: x16 :: x17 :: x18 :: x19 :: x20 :: x21 :: Dn :: x23 :: x24 :: x25 :: Dp :: x27 :: x28 :: x29 :: x30 :: x31 :: x32 :: Eb :: x34 :: Vz :: VA :: VB :: x38 :: nw :: x40 :: x41 :: []).toArray 174 (0, 0)) • qZ .i64 pv (A.map (·.1)) • Bl 1 gv A.length (A.map (·.2.1)) • xX A • Row 189 3 nw es.length (es.flatMap gX.enc) • nD es • F)) :
  jf prog 116 #[.pointer (some ⟨y, 0, none⟩), .bool on] w fun _ w' => ∃ pv' gv' A' nw', MH A' = (s.eX on).c.un ∧ Aq s.hl A' ∧
   V w0 w' (gJ y (.cells (x0 :: x1 :: x2 :: x3 :: x4 :: .int .i64 s.c.place :: x6 :: pv' :: gv' :: x9 :: x10 :: x11 :: x12 :: BK :: x14 :: x15 :: x16 :: x17 :: x18 :: x19 :: x20 :: x21 :: Dn :: x23 :: x24 :: x25 :: Dp :: x27 :: x28 :: x29 :: x30 :: x31 :: x32 :: Eb :: x34 :: Vz :: VA :: VB :: x38 :: nw' :: x40 :: x41 :: []).toArray 174 (0, 0)) • qZ .i64 pv' (A'.map (·.1)) • Bl 1 gv' A'.length (A'.map (·.2.1)) • xX A' • Row 189 3 nw' 0 [] • nD [] • F) := by
 have amK := ab1 hx
 have hput := hok.2.2.2.2.1
 have hsp := tq s.here s.put
 have hpl := ZE hP (by omega)
 have hlp : es.length = s.put.length := by rw [← hS]; simp
 refine qo func116 ntmps116 ?_
 refine aI (bI O (dV O (bM 39 aX O dA O (eH aZ O (H).get.2 O (aV (ku ((H.f5).aO) aZ O) (aV (fB O O) (iW O (fun h1 => ?_) (fun h1 => ?_))))))))
 ·(try simp only [Z] at h1)
  have he : es = [] := List.eq_nil_of_length_eq_zero (by omega)
  have hp : s.put = [] := List.eq_nil_of_length_eq_zero (by omega)
  refine iL (aC (we0 results116 ?_))
  subst he
  exact ⟨pv, gv, A, nw, by rw [FY hp]; exact hA, hP, H.f6.f6.f6.f6.f6.f6⟩
 ·(try simp only [Z] at h1)
  have hp : s.put ≠ [] := fun hx => h1 (by rw [hlp, hx]; rfl)
  refine gy (bI O (dV O (bM 1 aX O iU O (bM 2 fG O tK O (bM 2 jM O aj O (eH aA O (H).get.2 O (fO O (bI O (dV O (bM 1 aX O iU O (bM 6 fG O sizeOf170 O (bW O (dX O func155 (ZH H.f4.f4.f4.f4) ?_)))))))))))))
  rintro u1 w1 ⟨gs1, alA, H1⟩
  obtain ⟨gu, rfl⟩ : ∃ q, q = u1 := ⟨_, rfl⟩
  obtain ⟨gs, rfl⟩ : ∃ q, q = gs1 := ⟨_, rfl⟩
  have hG : Iz gs = s.here := by rw [alA, hA]; rfl
  have hgl : gs.length = s.here.length := by rw [← hG]; exact (List.length_map _).symm
  have Ho2 := H1.f2.f2
  have Hc3 := Ho2
  have hone := (Hc3.f2).aeI
  refine fO O (kH O (bI O (bW O (kV (jy (Hc3.kF none) cO Na O O O ((Hc3).wz) (by assumption) (by omega) (by omega)) ?_))))
  rintro l4 w4 H4
  have HX4 := H4
  rw [Nat.zero_add, List.nil_append] at HX4
  refine fO O ?_
  refine kE [(0, _), (4, _)] (fun (ou : Value) => [(6, ou)]) (fun (ou : Value) W => ∃ gs, Iz gs = s.jr on ∧ V w0 W (Bl 1 ou gs.length (gs.map (·.1)) • tN gs • gJ y (.cells (x0 :: x1 :: x2 :: x3 :: x4 :: .int .i64 s.c.place :: x6 :: pv :: gv :: x9 :: x10 :: x11 :: x12 :: BK :: x14 :: x15 :: x16 :: x17 :: x18 :: x19 :: x20 :: x21 :: Dn :: x23 :: x24 :: x25 :: Dp :: x27 :: x28 :: x29 :: x30 :: x31 :: x32 :: Eb :: x34 :: Vz :: VA :: VB :: x38 :: nw :: x40 :: x41 :: []).toArray 174 (0, 0)) • qZ .i64 pv (A.map (·.1)) • Bl 1 gv A.length (A.map (·.2.1)) • xX A • F)) sG ?_ ?_
  ·rintro ou w5 ⟨gs, hG, HJ⟩
   dsimp only [List.cons_append, List.nil_append]
   refine bI O (dV O (bM 1 aX O iU O (bM 6 fG O sizeOf170 O (jU O O (dX O func156 (XQ HJ.f2.f2.f6.f6.f6.f6 (by assumption)) ?_)))))
   rintro _ w6 ⟨pv6, gv6, H6⟩
   refine iR (aF (mX O O (bM 39 aX O dA O (aQ (qJ 39 H6 dA) ?_))))
   rintro _ w7 H7
   refine bT (oU (.inr O) results116 ?_)
   have HQ := (H7.f4.f4.f4.f4).xB none |>.edL
   refine ⟨_, _, _, _, ?_, ZG hP ⟨hok.1.1, hok.1.2.1⟩, HQ.f6.f6.f6.f6⟩
   rw [pV hp, agm, hA, hG]; rfl
  ·skip
   refine bI O (jY O (fun h2 => ?_) (fun h2 => ?_))
   ·(try simp only [Z] at h2)
    refine bF (bW O (bF (aV (ku ((HX4).aO) cO O) (bF (aV (gK O O) (jQ O O (iW O (fun h3 => ?_) (fun h3 => ?_))))))))
    ·(try simp only [Z] at h3)
     refine aI ?_
     have alB : on = true := by first | assumption | (simp_all; done)
     have hne : gs ≠ [] := fun hx => by subst hx; simp at *
     refine aF (fO O (bI O (jU O O (aV (ku ((HX4).aO) cO O) (aV (jJ O O (by omega)) ?_)))))
     obtain ⟨bl4, ol4, cl4, el4⟩ := Rd.qN ((HX4).aO) (by omega)
     cases el4
     refine aV (dI cO dA O O (by omega)) ?_
     refine aV (dW (bV aZ O) O (by first | exact Rd.lN ((HX4).aO) (by omega) | exact Rd.uP ((HX4).aO) (by omega) | exact Rd.wO ((HX4).aO) (by omega))) ?_
     rw [show (gs.map (·.1)).getD (((gs.length : Nat) : Int) - 1).toNat undef = (gs.getD (gs.length - 1) default).1 from by have := List.length_pos_iff.2 hne; rw [show (((gs.length : Nat) : Int) - 1).toNat = gs.length - 1 from by omega]; simp [List.getD_eq_getElem?_getD, show gs.length - 1 < gs.length from by omega]]
     obtain ⟨gl, BA, hg⟩ : ∃ gl BA, gs.getD (gs.length - 1) default = (gl, BA) := ⟨_, _, rfl⟩
     rw [hg]
     have Ho8 := HX4.f3
     have Tf := Ho8.KD (by have := List.length_pos_iff.2 hne; omega) hg
     have al5 := (Tf).VZ
     have hgm : BA.map gX.says ∈ s.here := by rw [← hG]; exact List.mem_map.2 ⟨(gl, BA), by rw [← hg]; exact Ad (by have := List.length_pos_iff.2 hne; omega), rfl⟩
     have hgb := Ob hgm
     rw [List.length_map] at hgb
     have amL : BA.length ≤ 16384 := by unfold iK at hput; omega
     refine kV (jy (Tf.kF none) aZ DF O O O ((Tf).Af) (by assumption) (by omega) (by omega)) ?_
     rintro l10 w10 pG
     have HX7 := pG
     rw [Nat.zero_add, List.nil_append] at HX7
     refine fO O ?_
     have al6 := (HX7.f11).Hl
     refine aF (jU O O (aV (jd cO O) (aV (jJ O O (by omega)) (jU O O (dV O (bM 39 aX O dA O (eH aZ O (HX7.f6).get.2 O (kV (jy HX7 aZ DF O O O ((HX7.f10).aO) (by assumption) (by omega) (by omega)) ?_))))))))
     rintro l11 FK ru
     refine aV (dI cO dA O O (by omega)) (aQ (Uf 0 ru.f4 dA O O (by first | rfl | exact Rd.one ((ru).aO)) (by omega) (by decide)) ?_)
     rintro _ w12 wQ
     have YH := wQ.f3
     have YI := (YH.agt).f2.right
     have aib := YI.f11.f2.f4
     have aic := V.uY (es := BA ++ es) (V.deep (V.Oe rfl aib))
     have UK := aic.f2
     have HX8 := UK
     rw [show (((gs.length : Nat) : Int) - 1).toNat * 1 + 0 = gs.length - 1 from by omega] at HX8
     have aie := HX8.f3.f3.f3
     have aif := (V.ab6 hne aie).aaN
     have hGJ := XW (s := s) (u := l11) hG hne hg hS hp
     rw [← alB] at hGJ
     refine bT ?_
     refine dG (_) lH sG (by (try dsimp only); exact ⟨_, hGJ, aif.f3.right.f7.right.f6.f6.f6.f6.f6.f6⟩)
    ·(try simp only [Z] at h3)
     have acY := HX4.f9.f9
     have YP := V.uY (v := nw) (es := es) (V.deep acY)
     have hnj : ¬ (on = true ∧ 0 < gs.length) := by first | omega | simp_all | (intro hx; simp_all; omega)
     refine aF (jU O O (dV O (bM 39 aX O dA O (eH aZ O (YP.f5).get.2 O (kV (nV (vs := [_]) YP cO dA qQ O O O (by decide) (bG (by first | rfl | exact Rd.one ((YP).Af)) dn)) ?_)))))
     rintro l22 w22 Jh
     refine kV (jy Jh.f3 cO Na O O O ((Jh).aO) (bG (by first | rfl | exact Rd.one ((Jh.f2).Af)) dn) (by omega) (by omega)) ?_
     rintro l23 w23 AQ
     have aiv := AQ.f2.right
     have ad7 := aiv.f4.f3.f3
     have ad8 := (V.yV ad7).IB.aaN
     have hGJ := QK (s := s) (on := on) (u := nw) hG hS hp hnj
     refine gW O (bT ?_)
     refine dG (_) lH sG (by (try dsimp only); exact ⟨_, hGJ, ad8.f3.right.f6.f6.f6.f6.f6.f6⟩)
   ·(try simp only [Z] at h2)
    refine bK (bK (bK (iH O O (iR (oL ?_)))))
    have alC := HX4.f9.f9
    have aiC := V.uY (v := nw) (es := es) (V.deep alC)
    have hnj : ¬ (on = true ∧ 0 < gs.length) := by first | omega | simp_all | (intro hx; simp_all; omega)
    refine aF (jU O O (dV O (bM 39 aX O dA O (eH aZ O (aiC.f5).get.2 O (kV (nV (vs := [_]) aiC cO dA qQ O O O (by decide) (bG (by first | rfl | exact Rd.one ((aiC).Af)) dn)) ?_)))))
    rintro l29 w29 Yq
    refine kV (jy Yq.f3 cO Na O O O ((Yq).aO) (bG (by first | rfl | exact Rd.one ((Yq.f2).Af)) dn) (by omega) (by omega)) ?_
    rintro l30 w30 Vq
    have alD := Vq.f2.right
    have alE := alD.f4.f3.f3
    have alF := (V.yV alE).IB.aaN
    have hGJ := QK (s := s) (on := on) (u := nw) hG hS hp hnj
    refine gW O (bT ?_)
    refine dG (_) lH sG (by (try dsimp only); exact ⟨_, hGJ, alF.f3.right.f6.f6.f6.f6.f6.f6⟩)
end
theorem lU.bad {s : bQ} {es : List gX} {A A' : List LE} {yf yt : Int} (h : lU s es A yf yt) (hin : s.inn = true) (hA : _root_.Go.Proofs.YtpdeedplgmbopaaGreatDoor.MH A' = s.was.un) (hP : Aq s.hl A') : lU s.BF [] A' yf yt :=
  ⟨YU h.ok hin, ⟨(h.rx.2.1 hin).1, fun hi => absurd hi (by show ¬ false = true; decide), fun hi => absurd hi (by show ¬ false = true; decide)⟩, rfl, hA, hP, fun hi => absurd hi (by show ¬ false = true; decide)⟩
theorem Bj (s : bQ) : s.mD = { s with c := { s.c with un := (s.eX (s.typed && s.c.run)).c.un, run := s.typed && (!s.put.isEmpty || s.c.run), last := s.cls, fr := if s.cls = 2 then s.c.fr else 0, to := if s.cls = 2 then s.c.to else 0 }, given := if s.argues = true then s.given else false, minus := if s.argues = true then s.minus else false, arg := if s.argues = true then s.arg else -1, inn := false, put := [] } := by
  unfold bQ.mD bQ.kR bQ.eX
  by_cases ha : s.argues = true
  · by_cases hp : s.put = []
    · by_cases hc : s.cls = 2
      · simp [ha, hp, hc, bQ.wI]
      · simp [ha, hp, hc, bQ.wI]
    · by_cases hc : s.cls = 2
      · simp [ha, hp, hc, bQ.wI, bQ.lV, bQ.jr, bQ.here]
      · simp [ha, hp, hc, bQ.wI, bQ.lV, bQ.jr, bQ.here]
  · by_cases hp : s.put = []
    · by_cases hc : s.cls = 2
      · simp [ha, hp, hc, bQ.wI]
      · simp [ha, hp, hc, bQ.wI]
    · by_cases hc : s.cls = 2
      · simp [ha, hp, hc, bQ.wI, bQ.lV, bQ.jr, bQ.here]
      · simp [ha, hp, hc, bQ.wI, bQ.lV, bQ.jr, bQ.here]
theorem lU.good {s : bQ} {es : List gX} {A A' : List LE} {yf yt : Int} (h : lU s es A yf yt) (hA : _root_.Go.Proofs.YtpdeedplgmbopaaGreatDoor.MH A' = (s.eX (s.typed && s.c.run)).c.un) (hP : Aq s.hl A') : lU s.mD [] A' yf yt := by
  have hok : qE s.mD := by
    have h1 := TQ (Ai h.ok) (s := s.kR) (by unfold bQ.kR; split <;> exact h.rx.1) (s.typed && s.c.run)
    unfold bQ.mD
    dsimp only
    split <;> exact h1
  have hx : Ls (s.eX (s.typed && s.c.run)).c := (TR h.ok h.rx _).1
  rw [Bj] at hok ⊢
  exact ⟨hok, ⟨⟨hx.1, h.rx.1.2⟩, fun hi => absurd hi (by show ¬ false = true; decide), fun hi => absurd hi (by show ¬ false = true; decide)⟩, rfl, hA, hP, fun hi => absurd hi (by show ¬ false = true; decide)⟩
section
variable {w0 w : World} {F : HP} {p y h : Nat} {s : bQ} {x : Int}
theorem XY (hin : s.inn = true) (hx : x ≠ 0) (H : V w0 w (wG y s • F)) : jf prog 64 #[.pointer (some ⟨y, 0, none⟩), .int .i64 x] w fun v w' => v = .int .i64 x ∧ V w0 w' (wG y s.BF • F) := by
 refine qo func64 ntmps64 ?_
 refine kH O (aI (aI ?_))
 obtain ⟨h_y, Ry, Rz, RD, RF, ab2, ab3, A_y, ab4, ab5, XR, XT, XU, RH, RI, RJ, RN, RP, RU, RV, RY, RZ, Si, Sj, Sl, xu, J4, BI⟩ := (H).XP
 have HI := BI
 rw [hin] at HI
 obtain ⟨qb, qk, qw, qn, qp, qg, qA, hu, hqA, hqP, hu1, HW⟩ := (HI.f12).alw
 simp only [MK, List.cons.injEq, and_true] at hu
 obtain ⟨rfl, rfl, rfl, rfl, rfl, rfl, rfl, rfl, rfl, rfl, rfl, rfl⟩ := hu
 refine aF (mX O O (bM 32 aX O aT O (eH bJ O (HW.f8).get.2 O (aV (jR O) (iR (JF O (fun h1 => ?_)))))))
 (try simp only [Z] at h1)
 refine gy (bI O (dV O (bM 32 aX O aT O (aQ (qJ 32 HW.f8 aT) ?_))))
 rintro _ w2 H2
 refine rW (bI O (aV (fF O O) (iW O (fun h2 => ?_) (fun h => by exfalso; (try simp only [Z] at h); exact hx h))))
 (try simp only [Z] at h2)
 refine bI O (mX O O (bM 13 aX O iU O (aV (pz 13 (xs := [_, _, _, _, _, _, _, _, _, _, _, _]) fG O iU O O (H2).get.2 O) (dV O (bM 1 aX O iU O (aQ (dM 1 (l' := [_, _, _, _, _, _, _, _, _, _, _, _, _, _, _, _, _, _, _, _, _, _, _, _, _, _, _, _, _, _, _, _, _, _, _, _, _, _, _, _, _, _]) (us := [_, _, _, _, _, _, _, _, _, _, _, _]) H2 iU O O O (aJ (aJ (bG (by first | rfl | exact Rd.one ((H2.f4).wz)) (bG (by first | rfl | exact Rd.one ((H2.f5).aO)) (aJ (aJ (bG (by first | rfl | exact Rd.one ((H2.f6).lK)) (bG (by first | rfl | exact Rd.one ((H2.f7).wz)) (aJ (aJ (aJ (aJ dn)))))))))))) O O) ?_))))))
 rintro _ w3 H3
 refine uS O (dV O (bM 39 aX O dA O (aQ (qJ 39 H3 dA) ?_)))
 rintro _ w4 H4
 refine uS O (dV O (bM 31 aX O fV O (eH gq O (H4).get.2 O (aV (rV O O) (dV O (bM 31 aX O fV O (aQ (qJ 31 H4 fV) ?_)))))))
 rintro _ w5 H5
 refine uS O (jU O O (dV O (bM 25 aX O aT O (aQ (qJ 25 H5 aT) ?_))))
 rintro _ w6 H6
 refine dV O (bM 26 aX O aT O (aQ (qJ 26 H6 aT) ?_))
 rintro _ w7 H7
 refine dV O (bM 27 aX O aj O (aQ (qJ 27 H7 aj) ?_))
 rintro _ w8 H8
 refine uS O (jU O O (dV O (bM 28 aX O aj O (aQ (qJ 28 H8 aj) ?_))))
 rintro _ w9 H9
 refine dV O (bM 29 aX O aj O (aQ (qJ 29 H9 aj) ?_))
 rintro _ w10 pG
 refine dV O (bM 30 aX O aj O (aQ (qJ 30 pG aj) ?_))
 rintro _ FK ru
 refine uS O (dV O (bM 39 aX O dA O (aQ (qJ 39 ru dA) ?_)))
 rintro _ w12 wQ
 refine uS O (fP O (aC (dL results64 O ?_)))
 exact ⟨O, V.aaR (s := s.BF) (xu.bad hin hqA hqP) O wQ.f9.right.f9.right.f9.right.f9.right.f9.right.f9.right.f9.right.f10.right.f10.right.f9.f9.f9.f9.f9.f9.f9.f9.f9 hu1⟩
theorem aeK (s : bQ) : s.typed = (decide (s.cls = 3) && s.whole) := by unfold bQ.typed; congr 1
theorem empty_eq (l : List jL) : (!l.isEmpty) = decide ((l.length : Int) > 0) := by cases l with
  | nil => rfl
  | cons x r => simp
theorem Vo (hin : s.inn = true) (H : V w0 w (wG y s • F)) : jf prog 64 #[.pointer (some ⟨y, 0, none⟩), .int .i64 0] w fun v w' => v = .int .i64 0 ∧ V w0 w' (wG y s.mD • F) := by
  obtain ⟨on, hon⟩ : ∃ on, on = (s.typed && s.c.run) := ⟨_, rfl⟩
  obtain ⟨rn, hrn⟩ : ∃ rn, rn = (s.typed && (!s.put.isEmpty || s.c.run)) := ⟨_, rfl⟩
  have Xj := hon
  have LD := hrn
  rw [aeK] at Xj LD
  rw [empty_eq] at LD
  refine qo func64 ntmps64 ?_
  obtain ⟨h_y, Ry, Rz, RD, RF, ab2, ab3, A_y, ab4, ab5, XR, XT, XU, RH, RI, RJ, RN, RP, RU, RV, RY, RZ, Si, Sj, Sl, xu, J4, BI⟩ := (H).XP
  have HP9 := BI
  rw [← J4] at HP9
  have aeL := xu.MH
  have hplA := xu.placed
  have ZI := xu.says
  have aiD := xu.ok
  have hxA := xu.rx.1
  have aiE : s.hl.length ≤ 4096 := by obtain ⟨hv9, hk9, _⟩ := (HP9.f9).aax; exact hk9.1
  have hu1 := ab0 (HP9.f12)
  refine kH O (aI (bI O (dV O (bM 32 aX O aT O (eH bJ O (HP9).get.2 O (aV (jR O) (iW O (fun h => by exfalso; (try simp only [Z] at h); simp [hin] at h) (fun h1 => ?_))))))))
  (try simp only [Z] at h1)
  refine gy (bI O (dV O (bM 32 aX O aT O (aQ (qJ 32 HP9 aT) ?_))))
  rintro _ w2 H2
  refine rW (bI O (aV (fF O O) (iR (JF O (fun h2 => ?_)))))
  (try simp only [Z] at h2)
  refine gy (bI O (dV O (bM 33 aX O aj O (eH aA O (H2).get.2 O (aV (fB O O) (fO O (bI O (dV O (bM 39 aX O dA O (eH aZ O (H2).get.2 O (aV (ku ((H2.f10).aO) aZ O) (aV (gK O O) (fO O ?_)))))))))))))
  refine kE [(0, _), (5, _), (6, _)] (fun (_ : Unit) => []) (fun (_ : Unit) W => ∃ pv2 gv2 A2 nw2, MH A2 = (s.eX on).c.un ∧ Aq s.hl A2 ∧ V w0 W (gJ y (.cells (.pointer (some ⟨h_y, 0, none⟩) :: .pointer (some ⟨Ry, 0, none⟩) :: .pointer (some ⟨Rz, 0, none⟩) :: RD :: RF :: .int .i64 s.c.place :: .string (lS s.hl s.c.tx s.c.place) :: pv2 :: gv2 :: .int .i64 s.c.mode :: .bool s.c.over :: .int .i64 s.c.res :: .bool s.c.run :: RH :: RI :: RJ :: RN :: RP :: RU :: RV :: RY :: RZ :: Si :: Sj :: Sl :: .bool s.given :: .bool s.minus :: .int .i64 s.arg :: .int .i64 s.Ef :: .int .i64 s.frS :: .int .i64 s.toS :: .int .i64 s.lI :: .bool false :: .int .i64 s.cls :: .int .i64 XR :: .int .i64 XT :: .bool s.argues :: .bool s.killed :: .bool s.mM :: nw2 :: .bool s.whole :: .bool XU :: []).toArray 174 (0, 0)) • qZ .i64 pv2 (A2.map (·.1)) • Bl 1 gv2 A2.length (A2.map (·.2.1)) • xX A2 • Row 189 3 nw2 0 [] • nD [] • uO Ry s.c.L s.c.pt s.c.mark • rO Rz s.c.E s.c.at_ • Bl 1 RD (s.hl.length + 1) (strs (uK s.hl)) • Row 9 1 RF (s.hl.length + 1) (strs (Bh s.hl s.c.tx)) • lY h_y s.hl s.base s.most • Jd s.inn s.hl s.was [RH, RI, RJ, RN, RP, RU, RV, RY, RZ, Si, Sj, Sl] • F)) wW ?_ ?_
  · rintro _ w3 ⟨pv2, gv2, A2, nw2, hl2, hp2, HJ⟩
    dsimp only [List.cons_append, List.nil_append]
    refine kE [(0, _)] (fun (_ : Unit) => []) (fun (_ : Unit) W => V w0 W (gJ y (.cells (.pointer (some ⟨h_y, 0, none⟩) :: .pointer (some ⟨Ry, 0, none⟩) :: .pointer (some ⟨Rz, 0, none⟩) :: RD :: RF :: .int .i64 s.c.place :: .string (lS s.hl s.c.tx s.c.place) :: pv2 :: gv2 :: .int .i64 s.c.mode :: .bool s.c.over :: .int .i64 s.c.res :: .bool rn :: RH :: RI :: RJ :: RN :: RP :: RU :: RV :: RY :: RZ :: Si :: Sj :: Sl :: .bool s.given :: .bool s.minus :: .int .i64 s.arg :: .int .i64 s.Ef :: .int .i64 s.frS :: .int .i64 s.toS :: .int .i64 s.lI :: .bool false :: .int .i64 s.cls :: .int .i64 XR :: .int .i64 XT :: .bool s.argues :: .bool s.killed :: .bool s.mM :: nw2 :: .bool s.whole :: .bool XU :: []).toArray 174 (0, 0)) • qZ .i64 pv2 (A2.map (·.1)) • Bl 1 gv2 A2.length (A2.map (·.2.1)) • xX A2 • Row 189 3 nw2 0 [] • nD [] • uO Ry s.c.L s.c.pt s.c.mark • rO Rz s.c.E s.c.at_ • Bl 1 RD (s.hl.length + 1) (strs (uK s.hl)) • Row 9 1 RF (s.hl.length + 1) (strs (Bh s.hl s.c.tx)) • lY h_y s.hl s.base s.most • Jd s.inn s.hl s.was [RH, RI, RJ, RN, RP, RU, RV, RY, RZ, Si, Sj, Sl] • F)) lH ?_ ?_
    · rintro _ w4 HJ2
      dsimp only [List.cons_append, List.nil_append]
      refine bI O (jU O O (mX O O (bM 33 aX O aj O (eH aA O (HJ2).get.2 O (dV O (bM 28 aX O aj O (aQ (qJ 28 HJ2 aj) ?_)))))))
      rintro _ w5 H5
      refine dV O (bM 29 aX O aj O (aQ (qJ 29 H5 aj) ?_))
      rintro _ w6 H6
      refine dV O (bM 30 aX O aj O (aQ (qJ 30 H6 aj) ?_))
      rintro _ w7 H7
      refine rW (bI O (dV O (bM 33 aX O aj O (eH aA O (H7).get.2 O (aV (fB O O) (iW O (fun h3 => ?_) (fun h3 => ?_)))))))
      · (try simp only [Z] at h3)
        have hcT : s.cls = 2 := h3
        obtain ⟨rfl, rfl⟩ := xu.Xd hin (xu.rx.2.2 hin hcT)
        have ag5 := H7.drew
        have Ar := V.kp (ag5.f12.f12.f12.f12.f12.f12.f12.f12.f12.f12.f12.f12)
        refine nG [5, 9] Ar O (fD 0 O Ar O (fD 1 O Ar O (fD 2 O Ar O (iG 3 O Ar O (dJ 4 O Ar 34 aX O aj O (fM 5 O Ar (fun W hW => fQ aA O ((Kp.h hW)).get.2 O) (fD 6 O Ar O (iG 7 O Ar O (dJ 8 O Ar 35 aX O aj O (fM 9 O Ar (fun W hW => fQ aA O ((Kp.h hW)).get.2 O) (iG 10 O Ar O (dJ 11 O Ar 29 aX O aj O ?_))))))))))))
        refine dF 12 O (by kernel_rfl) (qJ 29 ag5 aj) ?_
        rintro _ w8 H8
        have LX := V.kp (H8.f12.f12.f12.f12.f12.f12.f12.f12.f12.f12.f12.f12)
        refine gU LX (by kernel_rfl) ?_
        refine iG 13 O LX O (dJ 14 O LX 30 aX O aj O ?_)
        refine dF 15 O (by kernel_rfl) (qJ 30 H8 aj) ?_
        rintro _ w9 H9
        have Rk := V.kp (H9.f12.f12.f12.f12.f12.f12.f12.f12.f12.f12.f12.f12)
        refine gU Rk (by kernel_rfl) ?_
        refine lJ (aU (aI (bI O (dV O (bM 36 aX O aT O (eH bJ O (H9).get.2 O (aV (jR O) (iW O (fun h4 => ?_) (fun h4 => ?_)))))))))
        · (try simp only [Z] at h4)
          have haF : ¬ s.argues = true := by simp_all
          refine aF (jU O O (mX O O (bM 25 aX O aT O (aQ (qJ 25 H9 aT) ?_))))
          rintro _ w10 pG
          refine dV O (bM 26 aX O aT O (aQ (qJ 26 pG aT) ?_))
          rintro _ FK ru
          refine dV O (bM 27 aX O aj O (aQ (qJ 27 ru aj) ?_))
          rintro _ w12 wQ
          refine iR (jS O (dL results64 O ?_))
          refine ⟨O, ?_⟩
          rw [hon] at hl2
          have hG := xu.good hl2 hp2
          rw [Bj] at hG ⊢
          have HX := wQ.f12.right.f6.f6.f11.f7.f7.f7.f11.f11.f11.f11.f11
          have HX2 := HX.Lu (hl := s.hl) (c := s.was) hu1
          have HX3 := HX2.f12.f12.f12.f12.f12.f12.f12.f12.f12.f12.f12
          first | simp only [if_pos hcT] at hG ⊢ | simp only [if_neg hcF] at hG ⊢
          first | simp only [if_pos haT] at hG ⊢ | simp only [if_neg haF] at hG ⊢
          rw [← hrn] at hG ⊢
          exact V.zS hG HX3
        · (try simp only [Z] at h4)
          have haT : s.argues = true := by simp_all
          refine gy (jS O (dL results64 O ?_))
          refine ⟨O, ?_⟩
          rw [hon] at hl2
          have hG := xu.good hl2 hp2
          rw [Bj] at hG ⊢
          have HX := H9.f12.right.f6.f6.f11.f7.f7.f7.f11.f11.f11.f11.f11
          have HX2 := HX.Lu (hl := s.hl) (c := s.was) hu1
          have HX3 := HX2.f12.f12.f12.f12.f12.f12.f12.f12.f12.f12.f12
          first | simp only [if_pos hcT] at hG ⊢ | simp only [if_neg hcF] at hG ⊢
          first | simp only [if_pos haT] at hG ⊢ | simp only [if_neg haF] at hG ⊢
          rw [← hrn] at hG ⊢
          exact V.zS hG HX3
      · (try simp only [Z] at h3)
        have hcF : ¬ s.cls = 2 := h3
        refine gy (aI (bI O (dV O (bM 36 aX O aT O (eH bJ O (H7).get.2 O (aV (jR O) (iW O (fun h5 => ?_) (fun h5 => ?_))))))))
        · (try simp only [Z] at h5)
          have haF : ¬ s.argues = true := by simp_all
          refine aF (jU O O (mX O O (bM 25 aX O aT O (aQ (qJ 25 H7 aT) ?_))))
          rintro _ OL wB
          refine dV O (bM 26 aX O aT O (aQ (qJ 26 wB aT) ?_))
          rintro _ OG rU
          refine dV O (bM 27 aX O aj O (aQ (qJ 27 rU aj) ?_))
          rintro _ OM zV
          refine iR (jS O (dL results64 O ?_))
          refine ⟨O, ?_⟩
          rw [hon] at hl2
          have hG := xu.good hl2 hp2
          rw [Bj] at hG ⊢
          have HX := zV.f12.right.f6.f6.f11.f7.f7.f7.f11.f11.f11.f11.f11
          have HX2 := HX.Lu (hl := s.hl) (c := s.was) hu1
          have HX3 := HX2.f12.f12.f12.f12.f12.f12.f12.f12.f12.f12.f12
          first | simp only [if_pos hcT] at hG ⊢ | simp only [if_neg hcF] at hG ⊢
          first | simp only [if_pos haT] at hG ⊢ | simp only [if_neg haF] at hG ⊢
          rw [← hrn] at hG ⊢
          exact V.zS hG HX3
        · (try simp only [Z] at h5)
          have haT : s.argues = true := by simp_all
          refine gy (jS O (dL results64 O ?_))
          refine ⟨O, ?_⟩
          rw [hon] at hl2
          have hG := xu.good hl2 hp2
          rw [Bj] at hG ⊢
          have HX := H7.f12.right.f6.f6.f11.f7.f7.f7.f11.f11.f11.f11.f11
          have HX2 := HX.Lu (hl := s.hl) (c := s.was) hu1
          have HX3 := HX2.f12.f12.f12.f12.f12.f12.f12.f12.f12.f12.f12
          first | simp only [if_pos hcT] at hG ⊢ | simp only [if_neg hcF] at hG ⊢
          first | simp only [if_pos haT] at hG ⊢ | simp only [if_neg haF] at hG ⊢
          rw [← hrn] at hG ⊢
          exact V.zS hG HX3
    · skip
      refine aF (jU O O (jY O (fun h6 => ?_) (fun h6 => ?_)))
      · (try simp only [Z] at h6)
        refine bF (bW O (bF (dV O (bF (bM 40 aX O aT O (bF (eH bJ O (HJ).get.2 O (jQ O O (jY O (fun h7 => ?_) (fun h7 => ?_))))))))))
        · (try simp only [Z] at h7)
          refine bF (bW O (bF (jY O (fun h8 => ?_) (fun h8 => ?_))))
          · (try simp only [Z] at h8)
            refine bK (bK (bK (bK (bK (bF (jQ O O (jQ O O (dV O (bM 1 aX O iU O (bM 11 fG O aT O (aQ (qJ 12 HJ aT) ?_)))))))))))
            rintro _ w16 uT
            refine bT ?_
            refine dG (()) ?_ ?_ ?_
            · exact (Sub.nil _)
            · exact lH
            · (try dsimp only)
              first | done | exact (by first | (rw [show rn = true from by rw [LD]; simp_all; done]; exact uT.f12.f12.f12.f12.f12.f12.f12.f12.f12.f12.f12.f12) | (rw [show rn = false from by rw [LD]; simp_all; done]; exact uT.f12.f12.f12.f12.f12.f12.f12.f12.f12.f12.f12.f12) | (rw [show rn = s.c.run from by rw [LD]; simp_all; done]; exact uT.f12.f12.f12.f12.f12.f12.f12.f12.f12.f12.f12.f12))
          · (try simp only [Z] at h8)
            refine bF (bW O (bF (dV O (bF (bM 1 aX O iU O (bF (bM 11 fG O aT O (bF (eH bJ O (HJ).get.2 O (bF (iH O O (jQ O O (dV O (bM 1 aX O iU O (bM 11 fG O aT O (aQ (qJ 12 HJ aT) ?_))))))))))))))))
            rintro _ Yp BX
            refine bT ?_
            refine dG (()) ?_ ?_ ?_
            · exact (Sub.nil _)
            · exact lH
            · (try dsimp only)
              first | done | exact (by first | (rw [show rn = true from by rw [LD]; simp_all; done]; exact BX.f12.f12.f12.f12.f12.f12.f12.f12.f12.f12.f12.f12) | (rw [show rn = false from by rw [LD]; simp_all; done]; exact BX.f12.f12.f12.f12.f12.f12.f12.f12.f12.f12.f12.f12) | (rw [show rn = s.c.run from by rw [LD]; simp_all; done]; exact BX.f12.f12.f12.f12.f12.f12.f12.f12.f12.f12.f12.f12))
        · (try simp only [Z] at h7)
          refine bK (bK (ni (ni (ni (ni (ni (bK (iH O O (dV O (bM 1 aX O iU O (bM 11 fG O aT O (aQ (qJ 12 HJ aT) ?_))))))))))))
          rintro _ ZO EW
          refine bT ?_
          refine dG (()) ?_ ?_ ?_
          · exact (Sub.nil _)
          · exact lH
          · (try dsimp only)
            first | done | exact (by first | (rw [show rn = true from by rw [LD]; simp_all; done]; exact EW.f12.f12.f12.f12.f12.f12.f12.f12.f12.f12.f12.f12) | (rw [show rn = false from by rw [LD]; simp_all; done]; exact EW.f12.f12.f12.f12.f12.f12.f12.f12.f12.f12.f12.f12) | (rw [show rn = s.c.run from by rw [LD]; simp_all; done]; exact EW.f12.f12.f12.f12.f12.f12.f12.f12.f12.f12.f12.f12))
      · (try simp only [Z] at h6)
        refine bK (bK (bK (bK (iH O O (bW O (bK (bK (ni (ni (ni (ni (ni (bK (iH O O (dV O (bM 1 aX O iU O (bM 11 fG O aT O (aQ (qJ 12 HJ aT) ?_))))))))))))))))))
        rintro _ w19 EP
        refine bT ?_
        refine dG (()) ?_ ?_ ?_
        · exact (Sub.nil _)
        · exact lH
        · (try dsimp only)
          first | done | exact (by first | (rw [show rn = true from by rw [LD]; simp_all; done]; exact EP.f12.f12.f12.f12.f12.f12.f12.f12.f12.f12.f12.f12) | (rw [show rn = false from by rw [LD]; simp_all; done]; exact EP.f12.f12.f12.f12.f12.f12.f12.f12.f12.f12.f12.f12) | (rw [show rn = s.c.run from by rw [LD]; simp_all; done]; exact EP.f12.f12.f12.f12.f12.f12.f12.f12.f12.f12.f12.f12))
  · skip
    refine aF (jU O O (jY O (fun h9 => ?_) (fun h9 => ?_)))
    · (try simp only [Z] at h9)
      refine bF (bW O (bF (dV O (bF (bM 40 aX O aT O (bF (eH bJ O (H2).get.2 O (jQ O O (jY O (fun h10 => ?_) (fun h10 => ?_))))))))))
      · (try simp only [Z] at h10)
        refine bF (bW O (bF (dV O (bF (bM 1 aX O iU O (bF (bM 11 fG O aT O (bF (eH bJ O (H2).get.2 O (jQ O O (dX O func116 (Gh aeL hplA ZI aiD hxA aiE H2.f11.f11.f10.f10.f10.f6) ?_)))))))))))
        rintro _ ZP ⟨amM, amN, A20, amO, aiF, aj9, BL⟩
        have IC := aiF
        have aeM := aj9
        first
          | rw [show s.c.run = on from by rw [Xj]; simp_all] at IC
          | rw [show false = on from by rw [Xj]; simp_all] at IC
        refine bT ?_
        refine dG (()) ?_ ?_ ?_
        · exact (Sub.nil _)
        · exact wW
        · (try dsimp only)
          first | done | exact ⟨_, _, _, _, IC, aeM, BL.f12.f12.f12.f12.f12.f12.f12.f12.f12.f12.f12.f12⟩
      · (try simp only [Z] at h10)
        refine bK (bK (bK (bK (bK (iH O O (dX O func116 (Gh aeL hplA ZI aiD hxA aiE H2.f11.f11.f10.f10.f10.f6) ?_))))))
        rintro _ w21 ⟨amP, amQ, A21, amR, aiG, akb, wP⟩
        have IC := aiG
        have aeM := akb
        first
          | rw [show s.c.run = on from by rw [Xj]; simp_all] at IC
          | rw [show false = on from by rw [Xj]; simp_all] at IC
        refine bT ?_
        refine dG (()) ?_ ?_ ?_
        · exact (Sub.nil _)
        · exact wW
        · (try dsimp only)
          first | done | exact ⟨_, _, _, _, IC, aeM, wP.f12.f12.f12.f12.f12.f12.f12.f12.f12.f12.f12.f12⟩
    · (try simp only [Z] at h9)
      refine bK (bK (bK (bK (iH O O (bW O (bK (bK (bK (bK (bK (iH O O (dX O func116 (Gh aeL hplA ZI aiD hxA aiE H2.f11.f11.f10.f10.f10.f6) ?_))))))))))))
      rintro _ w22 ⟨amS, amT, A22, amU, aiH, akc, Jh⟩
      have IC := aiH
      have aeM := akc
      first
        | rw [show s.c.run = on from by rw [Xj]; simp_all] at IC
        | rw [show false = on from by rw [Xj]; simp_all] at IC
      refine bT ?_
      refine dG (()) ?_ ?_ ?_
      · exact (Sub.nil _)
      · exact wW
      · (try dsimp only)
        first | done | exact ⟨_, _, _, _, IC, aeM, Jh.f12.f12.f12.f12.f12.f12.f12.f12.f12.f12.f12.f12⟩
theorem XZ (H : V w0 w (wG y s • F)) : jf prog 64 #[.pointer (some ⟨y, 0, none⟩), .int .i64 x] w fun v w' => v = .int .i64 (s.BD x) ∧ V w0 w' (wG y (s.lQ x) • F) := by
 by_cases hin : s.inn = true
 ·by_cases hx : x = 0
  ·subst hx
   rw [show s.lQ 0 = s.mD from by unfold bQ.lQ; rw [if_pos hin, if_pos rfl], show s.BD 0 = 0 from by unfold bQ.BD; rw [if_pos hin]]
   exact Vo hin H
  ·rw [(IW hin hx).1, (IW hin hx).2]
   exact XY hin hx H
 ·have hin' : s.inn = false := by simpa using hin
  rw [show s.lQ x = s from by unfold bQ.lQ; rw [if_neg hin], show s.BD x = 1 from by unfold bQ.BD; rw [if_neg hin]]
  refine qo func64 ntmps64 ?_
  refine kH O (aI (aI ?_))
  obtain ⟨h_y, Ry, Rz, RD, RF, ab2, ab3, A_y, ab4, ab5, XR, XT, XU, RH, RI, RJ, RN, RP, RU, RV, RY, RZ, Si, Sj, Sl, xu, J4, BI⟩ := (H).XP
  refine aF (mX O O (bM 32 aX O aT O (eH bJ O (BI).get.2 O (aV (jR O) (iW O (fun h1 => ?_) (fun h => by exfalso; (try simp only [Z] at h); simp [hin'] at h))))))
  (try simp only [Z] at h1)
  refine jS O (aC (dL results64 O ?_))
  have YD := BI.f12.f12.f12.f12.f12.f12.f12.f12.f12.f12.f12.f12
  have ZW := V.zS (s := s) xu YD
  exact ⟨O, ZW⟩
end
end Go.Proofs.YtpdeedplgmbopaaGreatDoor
end
