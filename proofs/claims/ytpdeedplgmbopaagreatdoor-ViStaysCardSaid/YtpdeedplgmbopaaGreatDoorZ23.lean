import Derived.Test.YtpdeedplgmbopaaGreatDoorZ4
import Derived.Test.YtpdeedplgmbopaaGreatDoorZ21
import Derived.Test.YtpdeedplgmbopaaGreatDoorZ22
import Derived.Test.YtpdeedplgmbopaaGreatDoorZ16
import Derived.Test.YtpdeedplgmbopaaGreatDoorZ15
import Derived.Laws.StructEq
import Derived.Test.YtpdeedplgmbopaaGreatDoorZ7
import Derived.Test.YtpdeedplgmbopaaGreatDoorZ6
set_option linter.unusedSimpArgs false
set_option linter.unusedVariables false
/- Texts of mine, joined, their names in short: VRedo VOneW ERefM ESame Ref7 Ref7b. -/
section
namespace Go.Proofs.YtpdeedplgmbopaaGreatDoor
open Go.RowKit
open _root_.Go.Proofs.Tryz
def RQ (s : bQ) (M : VM) (Q : Int → bQ → VM → Prop) (x : Int) (t : bQ) (M' : VM) : Prop := (Q x t M' ∧ M.name.toList ≠ [] ∧ (x ≠ 0 ∨ ¬ zM M.name)) ∨ (M.name.toList = [] ∧ x = 6 ∧ t = s ∧ M' = M) ∨ (zM M.name ∧ ∃ t0 M0, Q 0 t0 M0 ∧ Fr t0 t)
section
variable {w0 w : World} {F : HP} {c m e : Nat} {s t : bQ} {name : ByteArray} {kv lv : Value} {n p i j q a r x : Int} {g : Bool} {keys l L : List Int} {k : Nat} {M : VM} {Q : Int → bQ → VM → Prop}
theorem aem (h1 : U8 w0 name keys n g s M Q) (H : V w0 w (VC c m e name kv n g lv s.c.pt • je 21 .i32 lv s.c.L • jW m M • dZ e s • F)) (hk : jO w0 F .i32 kv keys) :
    jf prog 124 #[.pointer (some ⟨c, 0, none⟩)] w fun v W' => ∃ x t M', Q x t M' ∧ v = .int .i64 x ∧ V w0 W' (VC c m e name kv n g lv s.c.pt • je 21 .i32 lv s.c.L • jW m M' • dZ e t • F) := h1 _ _ _ _ _ _ _ H hk
theorem abW (H : V w0 w (VC c m e name kv n g lv s.c.pt • je 21 .i32 lv s.c.L • jW m M • dZ e s • F)) (hone : M.name.toList ≠ [] → U8 w0 M.name M.keys (if g = true then n else M.n) g s M Q) :
  jf prog 171 #[.pointer (some ⟨c, 0, none⟩)] w fun v w' => ∃ x t M', RQ s M Q x t M' ∧ v = .int .i64 x ∧ V w0 w' (VC c m e name kv n g lv s.c.pt • je 21 .i32 lv s.c.L • jW m M' • dZ e t • F) := by
 obtain ⟨hln, hpt⟩ := xH H.f4
 refine jE func171 ntmps171 ?_
 refine kH O (aI ?_)
 obtain ⟨Io, GH, F9, oK, rP⟩ := (H.f3).vm
 have YD := rP.f4
 have agf := (YD).wR
 have Ho5 := agf.f5
 have Vf := (Ho5).wR
 refine aF (mX O O (bM 0 aB O qH O (eH jG O (Vf.f7).get.2 O (dV O (bM 3 fZ O rG O (aV (pz 3 (xs := [_, _, _, _]) jl O rG O O (Vf.f5).get.2 O) (kV (iO (l := [_, _, _, _]) Vf zeroValue117 O) ?_)))))))
 rintro _ w6 ⟨b6, rfl, H6⟩
 refine aQ (dM 0 (l' := [_, _, _, _]) (us := [_, _, _, _]) H6 rG O O O (aJ (bG (by first | rfl | exact Rd.one ((H6.f2).lK)) (aJ (bG (by first | rfl | exact Rd.one ((H6.f4).lK)) dn)))) O O) ?_
 rintro _ w7 H7
 have Ho8 := H7.f4.f3.f7.f7
 have Tf := V.zW (M := M) oK Ho8
 refine rW (jg (bM 0 jl O kM O (eH iD O (Tf.f2).get.2 O (aV (eP O O) (iW O (fun h1 => ?_) (fun h1 => ?_))))))
 ·(try simp only [Z] at h1)
  have hn0 : M.name.toList = [] := by have h9 := h1; rw [h9, ByteArray.toList_eq]
  refine jS O (aC (dL results171 O ?_))
  exact ⟨_, _, _, .inr (.inl ⟨hn0, O, O, O⟩), O, Tf.f2.right.f2.right.f2.right.f4.f2.f4.f4⟩
 ·(try simp only [Z] at h1)
  have hn0 : M.name.toList ≠ [] := fun h9 => h1 (by rw [h9, ByteArray.toList_eq])
  refine gy (aI ?_)
  have amE := oK.1
  have ajX := Tf.drew
  have uN := V.kp (ajX.f7.f7.f7.f7.f7.f7.f7)
  refine nG [3, 7, 9, 11, 14, 18, 22, 26] uN O (fD 0 O uN O (iG 1 O uN O (dJ 2 O uN 0 aB O qH O (fM 3 O uN (fun W hW => fQ jG O ((Kp.h hW).f5).get.2 O) (fD 4 O uN O (iG 5 O uN O (dJ 6 O uN 1 aB O fA O (fM 7 O uN (fun W hW => fQ bY O ((Kp.h hW).f5).get.2 O) (dJ 8 O uN 0 jl O kM O (fM 9 O uN (fun W hW => fQ iD O ((Kp.h hW).f2).get.2 O) (dJ 10 O uN 1 jl O bD O (fM 11 O uN (fun W hW => fQ ah O ((Kp.h hW).f2).get.2 O) (dJ 13 O uN 2 jl O aj O (fM 14 O uN (fun W hW => fQ aA O ((Kp.h hW).f2).get.2 O) (fD 15 O uN O (iG 16 O uN O (dJ 17 O uN 5 aB O aT O (fM 18 O uN (fun W hW => fQ bJ O ((Kp.h hW).f5).get.2 O) (fD 19 O uN O (iG 20 O uN O (dJ 21 O uN 6 aB O bD O (fM 22 O uN (fun W hW => fQ ah O ((Kp.h hW).f5).get.2 O) (fD 23 O uN O (iG 24 O uN O (dJ 25 O uN 7 aB O aj O (fM 26 O uN (fun W hW => fQ aA O ((Kp.h hW).f5).get.2 O) (ny 12 O (wM O func71 (qy ajX (fun W HW => (HW.f3).lK) (by omega))) ?_)))))))))))))))))))))))))))
  rintro u10 w10 pG
  have SN := V.kp (pG.f8.f8.f8.f8.f8.f8.f8.f8)
  refine dK SN (fun W hW => (Kp.h hW).right.f7.f7.f7.f7.f7.f7.f7) ?_
  refine dS 27 O SN (fun _ => iJ (zl := [.pointer none, .pointer none, .string .empty, .slice none 0 0, .int .i64 0, .bool false, .slice none 0 0, .int .i64 0]) (pl := [(0, 1), (1, 1), (2, 1), (3, 1), (4, 1), (5, 1), (6, 1), (7, 1)]) [_, _, _, _, _, _, _, _] aB zeroValue130 O (fun w => by kernel_rfl) O (.on (.on (.on (.one (Rd.one ((pG).aO)) (.on (.on (.one (Rd.one ((pG.f7).aO)) (.on .nil)))))))) O) ?_
  refine ny 28 O (kK (l := [_, _, _, _, _, _, _, _]) pG O O) ?_
  rintro _ FK ⟨b11, rfl, ru⟩
  have DI := V.kp (ru.f9.f9.f9.f9.f9.f9.f9.f9.f9)
  refine gU DI (by kernel_rfl) ?_
  refine dS 29 O DI (fun _ => aW O) (lJ (aU ?_))
  refine kE [(0, _), (3, _), (4, _)] (fun (_ : Unit) => []) (fun (_ : Unit) W => V w0 W (VC b11 m e M.name u10 (if g = true then n else M.n) g lv s.c.pt • VC c m e name kv n g lv s.c.pt • je 21 .i32 lv s.c.L • jW m M • dZ e s • gJ b6 (.cells #[.string M.name, GH, .int .i64 M.n, F9] 117 (0, 0)) • qZ .i32 F9 M.typed • je 21 .i32 u10 M.keys • F)) wW ?_ ?_
  ·rintro _ w12 HJ
   dsimp only [List.cons_append, List.nil_append]
   refine aI (bI O (dX O func124 (aem (hone hn0) HJ.f5.f5.f5.f4 (fun W HW => (HW.f4).aO)) ?_))
   rintro _ OL ⟨x, t, M2, hQ, rfl, wB⟩
   refine fO O (bI O (aV (fF O O) (iW O (fun h2 => ?_) (fun h2 => ?_))))
   ·(try simp only [Z] at h2)
    have hxn : ¬ x = 0 := h2
    refine bI O (fP O (aC (dL results171 O ?_)))
    exact ⟨_, _, _, .inl ⟨hQ, hn0, .inl hxn⟩, O, wB.right.f5.right.f5.right.f5.right.f3.f3.f3.f4⟩
   ·(try simp only [Z] at h2)
    have hx0 : x = 0 := h2
    have hQ0 : Q 0 t M2 := hx0 ▸ hQ
    refine gy (aI (jg (bM 0 jl O kM O (eH iD O (wB.f6).get.2 O (dX O func125 (Ld wB) ?_)))))
    rintro _ OG ⟨rfl, rU⟩
    refine bW O (oZ O O (oZ O O (gW O (fO O (bI O (aV (jR O) (iW O (fun h3 => ?_) (fun h3 => ?_))))))))
    ·(try simp only [Z] at h3)
     have hnt : ¬ zM M.name := by have h9 := h3; simpa using h9
     refine jS O (aC (dL results171 O ?_))
     exact ⟨_, _, _, .inl ⟨hQ0, hn0, .inr hnt⟩, O, rU.right.f5.right.f5.right.f5.right.f3.f3.f3.f4⟩
    ·(try simp only [Z] at h3)
     have hnt : zM M.name := by have h9 := h3; simpa using h9
     refine gy (aI ?_)
     have hb9 := xH (rU.f4)
     have htl := oK.2.1
     refine aF (mX O O (bM 1 aB O fA O (eH bY O (rU.f5).get.2 O (dX O func28 (pU rU.f4) ?_))))
     rintro _ OM ⟨u15, rfl, zV⟩
     refine aV (pY 1 fK O O (bV aA O) O O) (fO O (bI O (tX O (jg (bM 0 jl O kM O (eH iD O (zV.f7).get.2 O (aV (eP O O) (iW O (fun h4 => ?_) (fun h4 => ?_)))))))))
     ·(try simp only [Z] at h4)
      have Zy := zV.drew
      have AP := V.kp (Zy.f2.right.f8.f8.f8.f8.f8.f8.f8.f8)
      refine nG [2, 8] AP O (fD 0 O AP O (dJ 1 O AP 3 jl O bD O (fM 2 O AP (fun W hW => fQ ah O ((Kp.h hW).f6).get.2 O) (dS 3 O AP (fun _ => gZ ((Zy.f8).lK) ah O) (dS 4 O AP (fun _ => fH O O (by omega)) (fD 5 O AP O (iG 6 O AP O (dJ 7 O AP 1 aB O fA O (fM 8 O AP (fun W hW => fQ bY O ((Kp.h hW).f5).get.2 O) (ny 9 O (wM O func28 (pU Zy.f2)) ?_))))))))))
      rintro _ w16 ⟨u16, rfl, uT⟩
      have yY := V.kp (uT.f10.f10.f10.f10.f10.f10.f10.f10.f10.f10)
      refine dK yY (fun W hW => (Kp.h hW).right.right.f8.f8.f8.f8.f8.f8.f8.f8) ?_
      refine dS 10 O yY (fun _ => pY 0 fK O O (bV ah O) O O) (dS 11 O yY (fun _ => gZ ((uT).aO) ah O) (dS 12 O yY (fun _ => mW O O) (dS 13 O yY (fun _ => aW O) (lJ (aU (aI (aI ?_)))))))
      have aen := uT.drew
      have Dh := V.kp (aen.f10.f10.f10.f10.f10.f10.f10.f10.f10.f10)
      refine nG [3, 7] Dh O (fD 0 O Dh O (iG 1 O Dh O (dJ 2 O Dh 1 aB O fA O (fM 3 O Dh (fun W hW => fQ bY O ((Kp.h hW).f7).get.2 O) (fD 4 O Dh O (fD 5 O Dh O (dJ 6 O Dh 3 jl O bD O (fM 7 O Dh (fun W hW => fQ ah O ((Kp.h hW).f8).get.2 O) (ny 8 O (wM O func188 (uJ aen.f2 (fun W HW => (HW.f8).lK))) ?_)))))))))
      rintro _ Yp ⟨rfl, BX⟩
      have Ed := V.kp (BX.f10.f10.f10.f10.f10.f10.f10.f10.f10.f10)
      refine gU Ed (by kernel_rfl) ?_
      refine dS 9 O Ed (fun _ => aW O) (lJ (aU (bI O (aV (fF O O) (iW O (fun h5 => ?_) (fun h5 => ?_))))))
      ·(try simp only [Z] at h5)
       refine bI O (fP O (aC (dL results171 O ?_)))
       exact ⟨_, _, _, .inr (.inr ⟨hnt, _, _, hQ0, Eu _ _ _ _⟩), O, BX.f2.right.f2.right.f2.right.f5.right.f5.right.f5.right.f3.f3.f4⟩
      ·(try simp only [Z] at h5)
       refine gy (aI ?_)
       have YS := BX.f9.right
       obtain ⟨Io, GH, F9, oK, rP⟩ := (YS.f6).vm
       refine aF (mX O O (bM 0 aB O qH O (eH jG O (rP.f10).get.2 O (dV O (bM 7 fZ O aj O (aQ (ig 7 (l' := [_, _, _, _, _, _, _, _]) rP aj O O (by first | rfl | assumption) O O) ?_))))))
       rintro _ ZP BL
       have ac5 := BL.f4.f4.f4.f4
       have abo := V.zW (M := { M2 with Ze := -1 }) oK ac5
       refine uS O (dV O (bM 1 aB O fA O (eH bY O (abo.f7).get.2 O (dX O func192 (Ei abo.f2) ?_))))
       rintro _ w23 ⟨rfl, AQ⟩
       refine uS O (dV O (bM 1 aB O fA O (eH bY O (AQ.f7).get.2 O (dX O func62 (A8 AQ) ?_))))
       rintro _ w24 ⟨rfl, Kq⟩
       refine rW ?_
       have hb8 := xH (Kq)
       have aeo := Kq.drew
       have Di := V.kp (aeo.right.f8.f8.f8.f8.f8.f8.f8.f8)
       refine nG [3, 7] Di O (fD 0 O Di O (iG 1 O Di O (dJ 2 O Di 1 aB O fA O (fM 3 O Di (fun W hW => fQ bY O ((Kp.h hW).f6).get.2 O) (fD 4 O Di O (iG 5 O Di O (dJ 6 O Di 1 aB O fA O (fM 7 O Di (fun W hW => fQ bY O ((Kp.h hW).f6).get.2 O) (ny 8 O (wM O func28 (pU aeo)) ?_)))))))))
       rintro _ w25 ⟨u25, rfl, LU⟩
       have Hy := V.kp (LU.f10.f10.f10.f10.f10.f10.f10.f10.f10.f10)
       refine dK Hy (fun W hW => (Kp.h hW).right.right.f8.f8.f8.f8.f8.f8.f8.f8) ?_
       refine dS 9 O Hy (fun _ => pY 1 fK O O (bV aA O) O O) (dS 10 O Hy (fun _ => jJ O O (by omega)) (dS 11 O Hy (fun _ => Ov O O) (ny 12 O (wM O func30 (kD LU.f2)) ?_)))
       rintro _ w26 ⟨rfl, QS⟩
       have PV := V.kp (QS.f10.f10.f10.f10.f10.f10.f10.f10.f10.f10)
       refine gU PV (by kernel_rfl) ?_
       refine dS 13 O PV (fun _ => aW O) (lJ (aU (iL (dL results171 O ?_))))
       exact ⟨_, _, _, .inr (.inr ⟨hnt, _, _, hQ0, (((Eu _ _ _ _).trans (Oo _ _)).trans (zO _ _)).trans (qI _ _)⟩), O, QS.f2.right.f3.right.f3.right.f3.right.f5.right.f5.right.f2.f3.f4⟩
     ·(try simp only [Z] at h4)
      refine gy (aI (aI ?_))
      have aep := zV.drew
      have Dj := V.kp (aep.f9.f9.f9.f9.f9.f9.f9.f9.f9)
      refine nG [3, 7] Dj O (fD 0 O Dj O (iG 1 O Dj O (dJ 2 O Dj 1 aB O fA O (fM 3 O Dj (fun W hW => fQ bY O ((Kp.h hW).f6).get.2 O) (fD 4 O Dj O (fD 5 O Dj O (dJ 6 O Dj 3 jl O bD O (fM 7 O Dj (fun W hW => fQ ah O ((Kp.h hW).f7).get.2 O) (ny 8 O (wM O func188 (uJ aep.f2 (fun W HW => (HW.f7).lK))) ?_)))))))))
      rintro _ w27 ⟨rfl, LV⟩
      have PW := V.kp (LV.f9.f9.f9.f9.f9.f9.f9.f9.f9)
      refine gU PW (by kernel_rfl) ?_
      refine dS 9 O PW (fun _ => aW O) (lJ (aU (bI O (aV (fF O O) (iW O (fun h6 => ?_) (fun h6 => ?_))))))
      ·(try simp only [Z] at h6)
       refine bI O (fP O (aC (dL results171 O ?_)))
       exact ⟨_, _, _, .inr (.inr ⟨hnt, _, _, hQ0, Eu _ _ _ _⟩), O, LV.f2.right.f2.right.f5.right.f5.right.f5.right.f3.f3.f4⟩
      ·(try simp only [Z] at h6)
       refine gy (aI ?_)
       have alr := LV.f8.right
       obtain ⟨Io, GH, F9, oK, rP⟩ := (alr.f5).vm
       refine aF (mX O O (bM 0 aB O qH O (eH jG O (rP.f9).get.2 O (dV O (bM 7 fZ O aj O (aQ (ig 7 (l' := [_, _, _, _, _, _, _, _]) rP aj O O (by first | rfl | assumption) O O) ?_))))))
       rintro _ w30 Vq
       have als := Vq.f4.f4.f4.f4
       have ajY := V.zW (M := { M2 with Ze := -1 }) oK als
       refine uS O (dV O (bM 1 aB O fA O (eH bY O (ajY.f6).get.2 O (dX O func192 (Ei ajY.f2) ?_))))
       rintro _ w33 ⟨rfl, Ul⟩
       refine uS O (dV O (bM 1 aB O fA O (eH bY O (Ul.f6).get.2 O (dX O func62 (A8 Ul) ?_))))
       rintro _ w34 ⟨rfl, WA⟩
       refine rW ?_
       have hb8 := xH (WA)
       have aeq := WA.drew
       have Dk := V.kp (aeq.right.f7.f7.f7.f7.f7.f7.f7)
       refine nG [3, 7] Dk O (fD 0 O Dk O (iG 1 O Dk O (dJ 2 O Dk 1 aB O fA O (fM 3 O Dk (fun W hW => fQ bY O ((Kp.h hW).f5).get.2 O) (fD 4 O Dk O (iG 5 O Dk O (dJ 6 O Dk 1 aB O fA O (fM 7 O Dk (fun W hW => fQ bY O ((Kp.h hW).f5).get.2 O) (ny 8 O (wM O func28 (pU aeq)) ?_)))))))))
       rintro _ w35 ⟨u35, rfl, H35⟩
       have Hz := V.kp (H35.f9.f9.f9.f9.f9.f9.f9.f9.f9)
       refine dK Hz (fun W hW => (Kp.h hW).right.right.f7.f7.f7.f7.f7.f7.f7) ?_
       refine dS 9 O Hz (fun _ => pY 1 fK O O (bV aA O) O O) (dS 10 O Hz (fun _ => jJ O O (by omega)) (dS 11 O Hz (fun _ => Ov O O) (ny 12 O (wM O func30 (kD H35.f2)) ?_)))
       rintro _ w36 ⟨rfl, H36⟩
       have PX := V.kp (H36.f9.f9.f9.f9.f9.f9.f9.f9.f9)
       refine gU PX (by kernel_rfl) ?_
       refine dS 13 O PX (fun _ => aW O) (lJ (aU (iL (dL results171 O ?_))))
       exact ⟨_, _, _, .inr (.inr ⟨hnt, _, _, hQ0, (((Eu _ _ _ _).trans (Oo _ _)).trans (zO _ _)).trans (qI _ _)⟩), O, H36.f2.right.f3.right.f3.right.f5.right.f5.right.f2.f3.f4⟩
  ·skip
   refine bI O (dV O (bM 5 aB O aT O (eH bJ O (ru.f7).get.2 O (iW O (fun h7 => ?_) (fun h7 => ?_)))))
   ·(try simp only [Z] at h7)
    refine aF (jU O O (dV O (bM 4 aB O aj O (eH aA O (ru.f7).get.2 O (dV O (bM 4 aB O aj O (aQ (ig 4 (l' := [_, _, _, _, _, _, _, _]) ru aj O O (by first | rfl | assumption) O O) ?_)))))))
    rintro _ w37 H37
    refine bT ?_
    refine dG (()) ?_ ?_ ?_
    ·exact (Sub.nil _)
    ·exact wW
    ·(try dsimp only)
     first | done | exact (by first | (rw [if_pos (by assumption)]; exact H37.f5.right.f2.f5.f5.f8.f6.f8.f8.f8) | (rw [if_neg (by rw [show g = false from by assumption]; decide)]; exact H37.f5.right.f2.f5.f5.f8.f6.f8.f8.f8))
   ·(try simp only [Z] at h7)
    refine bU ?_
    refine dG (()) ?_ ?_ ?_
    ·exact (Sub.nil _)
    ·exact wW
    ·(try dsimp only)
     first | done | exact (by first | (rw [if_pos (by assumption)]; exact ru.f5.right.f2.f5.f5.f8.f6.f8.f8.f8) | (rw [if_neg (by rw [show g = false from by assumption]; decide)]; exact ru.f5.right.f2.f5.f5.f8.f6.f8.f8.f8))
end
section
variable {w0 w : World} {F : HP} {c m e : Nat} {s t : bQ} {name : ByteArray} {kv lv : Value} {n p i j q a r x : Int} {g : Bool} {keys l L : List Int} {k : Nat} {M : VM}
theorem aer (hw : nT name keys = 0) : 1 ≤ keys.length := by
  by_cases h : Ak name
  · by_cases h0 : keys.length = 0
    · rw [Xl h h0] at hw; exact absurd hw (by decide)
    · omega
  · rw [I5 h] at hw; exact absurd hw (by decide)
theorem aes (hw : nT name keys = 0) (hc : name.toList = vw.toList ∨ name.toList = Ik.toList) : 2 ≤ keys.length := by
  have h1 := aer hw
  by_cases h : Ak name
  · by_cases h2 : keys.length = 1
    · have hm : ¬ name.toList = yK.toList := by
        rcases hc with e | e <;> rw [e] <;> exact Gv (by decide)
      rw [Qh h ((ng hm hc).2 h2)] at hw; exact absurd hw (by decide)
    · omega
  · rw [I5 h] at hw; exact absurd hw (by decide)
theorem abX (hw : nT name keys = 0) : Ak name := by
  by_cases h : Ak name
  · exact h
  · rw [I5 h] at hw; exact absurd hw (by decide)
theorem XI (h : Ak name) : name.toList = agU.toList ∨ name.toList = U3.toList ∨ name.toList = vw.toList ∨ name.toList = F8.toList ∨ name.toList = aay.toList ∨ name.toList = CP.toList ∨ name.toList = Xk.toList ∨ name.toList = yK.toList ∨ name.toList = adF.toList ∨ name.toList = U4.toList ∨ name.toList = aaz.toList ∨ name.toList = Qg.toList ∨ name.toList = Ik.toList ∨ name.toList = aaA.toList ∨ name.toList = Zb.toList ∨ name.toList = Il.toList := by
  obtain ⟨k, hk, e⟩ := h
  match k, hk with
  | 0, _ => exact .inl e.symm
  | 1, _ => exact .inr (.inl e.symm)
  | 2, _ => exact .inr (.inr (.inl e.symm))
  | 3, _ => exact .inr (.inr (.inr (.inl e.symm)))
  | 4, _ => exact .inr (.inr (.inr (.inr (.inl e.symm))))
  | 5, _ => exact .inr (.inr (.inr (.inr (.inr (.inl e.symm)))))
  | 6, _ => exact .inr (.inr (.inr (.inr (.inr (.inr (.inl e.symm))))))
  | 7, _ => exact .inr (.inr (.inr (.inr (.inr (.inr (.inr (.inl e.symm)))))))
  | 8, _ => exact .inr (.inr (.inr (.inr (.inr (.inr (.inr (.inr (.inl e.symm))))))))
  | 9, _ => exact .inr (.inr (.inr (.inr (.inr (.inr (.inr (.inr (.inr (.inl e.symm)))))))))
  | 10, _ => exact .inr (.inr (.inr (.inr (.inr (.inr (.inr (.inr (.inr (.inr (.inl e.symm))))))))))
  | 11, _ => exact .inr (.inr (.inr (.inr (.inr (.inr (.inr (.inr (.inr (.inr (.inr (.inl e.symm)))))))))))
  | 12, _ => exact .inr (.inr (.inr (.inr (.inr (.inr (.inr (.inr (.inr (.inr (.inr (.inr (.inl e.symm))))))))))))
  | 13, _ => exact .inr (.inr (.inr (.inr (.inr (.inr (.inr (.inr (.inr (.inr (.inr (.inr (.inr (.inl e.symm)))))))))))))
  | 14, _ => exact .inr (.inr (.inr (.inr (.inr (.inr (.inr (.inr (.inr (.inr (.inr (.inr (.inr (.inr (.inl e.symm))))))))))))))
  | 15, _ => exact .inr (.inr (.inr (.inr (.inr (.inr (.inr (.inr (.inr (.inr (.inr (.inr (.inr (.inr (.inr e.symm))))))))))))))
  | k + 16, hk => exact absurd hk (by omega)
theorem Zz (name : ByteArray) : Asc (wL name) := by
  unfold wL
  repeat' split
  all_goals decide
theorem aeu {f : Int → Option Int} {r p : Int} : upd (DX f) r (Value.int .i64 p) = DX fun k => if k = r then some p else f k := by
  funext k; unfold DX upd; try dsimp only
  by_cases h : k = r
  · show (if k = r then _ else _) = Option.map _ (if k = r then _ else _)
    rw [if_pos h, if_pos h]; rfl
  · show (if k = r then _ else _) = Option.map _ (if k = r then _ else _)
    rw [if_neg h, if_neg h]
theorem V.ZA {mb : Nat} {tv v : Value} (hv : v = Value.int .i64 p) (h : abL M) (H : V w0 w (gJ m (.cells #[.map (some mb), .int .i32 M.fk, .int .i32 M.fc, .string M.name, kv, .int .i64 M.n, tv, .int .i64 M.Ze] 119 (0, 0)) • jv YK mb (upd (DX M.marks) r v) • qZ .i32 kv M.keys • qZ .i32 tv M.typed • F)) :
    V w0 w (jW m { M with marks := fun k => if k = r then some p else M.marks k } • F) := by
  subst hv
  rw [aeu] at H
  exact V.zW (M := { M with marks := fun k => if k = r then some p else M.marks k }) h H
theorem agh (H : V w0 w (VC c m e name kv n g lv s.c.pt • je 21 .i32 lv s.c.L • jW m M • dZ e s • F)) (hone : M.name.toList ≠ [] → U8 w0 M.name M.keys (if g = true then n else M.n) g s M fun x t M' => Fr s t) :
    jf prog 171 #[.pointer (some ⟨c, 0, none⟩)] w fun v w' => ∃ x t M', Fr s t ∧ v = .int .i64 x ∧ V w0 w' (VC c m e name kv n g lv s.c.pt • je 21 .i32 lv s.c.L • jW m M' • dZ e t • F) :=
  (abW H hone).mono fun v w' ⟨x, t, M', hR, h1, h2⟩ => by
    rcases hR with ⟨b, _⟩ | ⟨_, _, rfl, _⟩ | ⟨_, t0, M0, b0, b1⟩
    · exact ⟨_, _, _, b, h1, h2⟩
    · exact ⟨_, _, _, Fr.refl _, h1, h2⟩
    · exact ⟨_, _, _, b0.trans b1, h1, h2⟩
set_option maxHeartbeats 2000000 in
theorem aev (hT : Bq w0) (hw : nT name keys = 0) (hn : 1 ≤ n ∧ n ≤ 1000000) (alu : name.toList = Qg.toList → M.name.toList ≠ [] → U8 w0 M.name M.keys (if g = true then n else M.n) g s M fun x t M' => Fr s t) : U8 w0 name keys n g s M fun x t M' => Fr s t := by
  intro F w c m e kv lv H hk
  obtain ⟨hln, hpt⟩ := xH H.f4
  have hk1 := aer hw
  have hkn := XI (abX hw)
  obtain ⟨Xx, Xy, Xz, ekv⟩ := gB.qN (hk _ H.right.right.right.right) (by omega)
  subst ekv
  refine jE func124 ntmps124 ?_
  refine kH O ?_
  refine kE [(0, _)] (fun (_ : Unit) => []) (fun (_ : Unit) W => V w0 W (VC c m e name (.slice (some ⟨Xx, Xy, none⟩) keys.length Xz) n g lv s.c.pt • je 21 .i32 lv s.c.L • jW m M • dZ e s • F)) lH ?_ ?_
  · rintro _ w1 HJ4
    dsimp only [List.cons_append, List.nil_append]
    refine aI (bI O (dV O (bM 2 aB O kM O (eH iD O (HJ4).get.2 O (iR (bf (jg (aV (eP O O) (fO O (bg O (fun h1 => ?_) (fun h1 => ?_)))))))))))
    · (try simp only [Z] at h1)
      refine bI O (dX O func161 (ad6 HJ4.f4.f2 (fun W HW => hk _ (HW.right.right)) hk1) ?_)
      rintro _ w2 ⟨x2, t2, hfr2, rfl, H2⟩
      refine fP O (aN (aC (dL jw O ?_)))
      exact ⟨_, _, _, by assumption, O, H2.f2.f4.f4.f4⟩
    · (try simp only [Z] at h1)
      refine jg (aV (eP O O) (fO O (bg O (fun h2 => ?_) (fun h2 => ?_))))
      · (try simp only [Z] at h2)
        refine aI ?_
        have ajZ := HJ4.drew
        have JB := V.kp (ajZ.f4.f4.f4.f4)
        refine nG [4, 8] JB O (fD 0 O JB O (fD 1 O JB O (iG 2 O JB O (dJ 3 O JB 3 aB O bD O (fM 4 O JB (fun W hW => fQ ah O ((Kp.h hW)).get.2 O) (fD 5 O JB O (iG 6 O JB O (dJ 7 O JB 4 aB O aj O (fM 8 O JB (fun W hW => fQ aA O ((Kp.h hW)).get.2 O) (ny 9 O (wM O func162 (wu ajZ.f3.f3.f3 (fun W HW => hk _ (HW.right)) hT (by omega) (by omega))) ?_))))))))))
        rintro _ w3 ⟨rfl, H3⟩
        have uQ := V.kp (H3.f4.f4.f4.f4)
        refine gU uQ (by kernel_rfl) ?_
        refine fD 10 O uQ O (dS 11 O uQ (fun _ => oM O O) (dS 12 O uQ (fun _ => oM O O) (dS 13 O uQ (fun _ => oM O O) (dS 14 O uQ (fun _ => aW O) (dS 15 O uQ (fun _ => aW O) (dS 16 O uQ (fun _ => aW O) (lJ (aU (aI (bI O (aV (jR O) (iW O (fun h3 => ?_) (fun h3 => ?_)))))))))))))
        · (try simp only [Z] at h3)
          refine jS O (aC (aN (aC (dL jw O ?_))))
          exact ⟨_, _, _, Fr.refl s, O, H3.f4.f4.f4.f4⟩
        · (try simp only [Z] at h3)
          refine gy (bI O (dV O (bM 1 aB O fA O (eH bY O (H3).get.2 O (bW O (dX O func30 (kD H3.f4) ?_))))))
          rintro _ w4 ⟨rfl, H4⟩
          refine fP O (aN (aC (dL jw O ?_)))
          exact ⟨_, _, _, qI _ _, O, H4.f4.f4.f4⟩
      · (try simp only [Z] at h2)
        refine kE [(0, _), (34, _)] (fun (_ : Unit) => [(63, .bool (decide (name.toList = CP.toList ∨ name.toList = F8.toList ∨ name.toList = Il.toList)))]) (fun (_ : Unit) W => V w0 W (VC c m e name (.slice (some ⟨Xx, Xy, none⟩) keys.length Xz) n g lv s.c.pt • je 21 .i32 lv s.c.L • jW m M • dZ e s • F)) sG ?_ ?_
        · rintro _ w5 aew
          dsimp only [List.cons_append, List.nil_append]
          refine bg O (fun h4 => ?_) (fun h4 => ?_)
          · (try simp only [Z] at h4)
            refine bI O (dX O func163 (ajW aew.f4.f4.f4.f4 (fun W HW => hk _ (HW)) hT hk1 hn) ?_)
            rintro _ w6 ⟨x6, t6, M6, amF, rfl, H6⟩
            refine fP O (aN (aC (dL jw O ?_)))
            exact ⟨_, _, _, by assumption, O, H6.f4.f4.f4.f4⟩
          · (try simp only [Z] at h4)
            refine jg (aV (eP O O) (fO O (bg O (fun h5 => ?_) (fun h5 => ?_))))
            · (try simp only [Z] at h5)
              refine aI ?_
              have Nz := aew.drew
              have oN := V.kp (Nz.f4.f4.f4.f4)
              refine nG [3, 7, 11, 15, 20] oN O (fD 0 O oN O (iG 1 O oN O (dJ 2 O oN 7 aB O aj O (fM 3 O oN (fun W hW => fQ aA O ((Kp.h hW)).get.2 O) (fD 4 O oN O (iG 5 O oN O (dJ 6 O oN 7 aB O aj O (fM 7 O oN (fun W hW => fQ aA O ((Kp.h hW)).get.2 O) (fD 8 O oN O (iG 9 O oN O (dJ 10 O oN 4 aB O aj O (fM 11 O oN (fun W hW => fQ aA O ((Kp.h hW)).get.2 O) (fD 12 O oN O (iG 13 O oN O (dJ 14 O oN 6 aB O bD O (fM 15 O oN (fun W hW => fQ ah O ((Kp.h hW)).get.2 O) (dS 16 O oN (fun _ => gZ ((Nz.f2).aO) ah O) (fD 17 O oN O (iG 18 O oN O (dJ 19 O oN 7 aB O aj O (fM 20 O oN (fun W hW => fQ aA O ((Kp.h hW)).get.2 O) (dS 21 O oN (fun _ => jJ O O (by omega)) (dS 22 O oN (fun _ => mW O O) (dS 23 O oN (fun _ => fH O O (by omega)) (dS 24 O oN (fun _ => aW O) (dS 25 O oN (fun _ => aW O) (lJ (aU (aI (bI O (dV O (bM 3 aB O bD O (eH ah O (Nz).get.2 O (aV (dI ah bP O O (by omega)) ?_))))))))))))))))))))))))))))))))))
              refine aV (dW (bV bC O) O (by first | exact gB.lN (hk _ (Nz.right.right.right.right)) (by omega) | exact gB.uP (hk _ (Nz.right.right.right.right)) (by omega) | exact gB.wO (hk _ (Nz.right.right.right.right)) (by omega))) ?_
              refine aV (fB O O) (iW O (fun h6 => ?_) (fun h6 => ?_))
              · (try simp only [Z] at h6)
                have ag4 := Nz.drew
                have tJ := V.kp (ag4.f4.f4.f4.f4)
                refine nG [3, 7, 11, 17] tJ O (fD 0 O tJ O (iG 1 O tJ O (dJ 2 O tJ 7 aB O aj O (fM 3 O tJ (fun W hW => fQ aA O ((Kp.h hW)).get.2 O) (fD 4 O tJ O (iG 5 O tJ O (dJ 6 O tJ 4 aB O aj O (fM 7 O tJ (fun W hW => fQ aA O ((Kp.h hW)).get.2 O) (fD 8 O tJ O (iG 9 O tJ O (dJ 10 O tJ 7 aB O aj O (fM 11 O tJ (fun W hW => fQ aA O ((Kp.h hW)).get.2 O) (dS 12 O tJ (fun _ => mW O O) (dS 13 O tJ (fun _ => jJ O O (by omega)) (fD 14 O tJ O (iG 15 O tJ O (dJ 16 O tJ 7 aB O aj O (fM 17 O tJ (fun W hW => fQ aA O ((Kp.h hW)).get.2 O) (dS 18 O tJ (fun _ => aW O) (dS 19 O tJ (fun _ => aW O) (lJ (aU (bI O (jU O O (dX O func164 (Et ag4.f4.f2) ?_)))))))))))))))))))))))))
                rintro _ w7 ⟨rfl, H7⟩
                refine fP O (aN (aC (dL jw O ?_)))
                exact ⟨_, _, _, xW _ _ _, O, H7.f2.f4.f4.f4⟩
              · (try simp only [Z] at h6)
                refine gy (bI O (jU O O (dX O func164 (Et Nz.f4.f2) ?_)))
                rintro _ w8 ⟨rfl, H8⟩
                refine fP O (aN (aC (dL jw O ?_)))
                exact ⟨_, _, _, xW _ _ _, O, H8.f2.f4.f4.f4⟩
            · (try simp only [Z] at h5)
              refine jg (aV (eP O O) (fO O (bg O (fun h7 => ?_) (fun h7 => ?_))))
              · (try simp only [Z] at h7)
                refine aI ?_
                have JC := aew.drew
                have oO := V.kp (JC.f4.f4.f4.f4)
                refine nG [3, 7, 11, 15, 20] oO O (fD 0 O oO O (iG 1 O oO O (dJ 2 O oO 7 aB O aj O (fM 3 O oO (fun W hW => fQ aA O ((Kp.h hW)).get.2 O) (fD 4 O oO O (iG 5 O oO O (dJ 6 O oO 7 aB O aj O (fM 7 O oO (fun W hW => fQ aA O ((Kp.h hW)).get.2 O) (fD 8 O oO O (iG 9 O oO O (dJ 10 O oO 4 aB O aj O (fM 11 O oO (fun W hW => fQ aA O ((Kp.h hW)).get.2 O) (fD 12 O oO O (iG 13 O oO O (dJ 14 O oO 6 aB O bD O (fM 15 O oO (fun W hW => fQ ah O ((Kp.h hW)).get.2 O) (dS 16 O oO (fun _ => gZ ((JC.f2).aO) ah O) (fD 17 O oO O (iG 18 O oO O (dJ 19 O oO 7 aB O aj O (fM 20 O oO (fun W hW => fQ aA O ((Kp.h hW)).get.2 O) (dS 21 O oO (fun _ => jJ O O (by omega)) (dS 22 O oO (fun _ => mW O O) (dS 23 O oO (fun _ => fH O O (by omega)) (dS 24 O oO (fun _ => aW O) (dS 25 O oO (fun _ => aW O) (lJ (aU (aI (bI O (dV O (bM 3 aB O bD O (eH ah O (JC).get.2 O (aV (dI ah bP O O (by omega)) ?_))))))))))))))))))))))))))))))))))
                refine aV (dW (bV bC O) O (by first | exact gB.lN (hk _ (JC.right.right.right.right)) (by omega) | exact gB.uP (hk _ (JC.right.right.right.right)) (by omega) | exact gB.wO (hk _ (JC.right.right.right.right)) (by omega))) ?_
                refine aV (fB O O) (iW O (fun h8 => ?_) (fun h8 => ?_))
                · (try simp only [Z] at h8)
                  have XJ := JC.drew
                  have Iw := V.kp (XJ.f4.f4.f4.f4)
                  refine nG [3] Iw O (fD 0 O Iw O (iG 1 O Iw O (dJ 2 O Iw 6 aB O bD O (fM 3 O Iw (fun W hW => fQ ah O ((Kp.h hW)).get.2 O) (dS 4 O Iw (fun _ => gZ ((XJ.f2).aO) ah O) (dS 5 O Iw (fun _ => aW O) (dS 6 O Iw (fun _ => aW O) (lJ (aU ?_)))))))))
                  refine kE [(0, _)] (fun (_ : Unit) => []) (fun (_ : Unit) W => ∃ t, Fr s t ∧ V w0 W (VC c m e name (.slice (some ⟨Xx, Xy, none⟩) keys.length Xz) n g lv s.c.pt • je 21 .i32 lv s.c.L • jW m M • dZ e t • F)) lH ?_ ?_
                  · rintro _ w9 ⟨t, hfr, HJ⟩
                    dsimp only [List.cons_append, List.nil_append]
                    refine bI O (dX O func165 (xq HJ.f4.f4.f3) ?_)
                    rintro _ w10 ⟨rfl, pG⟩
                    refine fP O (aN (aC (dL jw O ?_)))
                    exact ⟨_, _, _, hfr.trans (zO _ _), O, pG.f3.f3.f4.f4⟩
                  · skip
                    refine bI O (bW O (aV (gG O O) (iW O (fun h9 => ?_) (fun h9 => ?_))))
                    · (try simp only [Z] at h9)
                      refine bI O (jU O O (dX O func164 (Et XJ.f4.f2) ?_))
                      rintro _ FK ⟨rfl, ru⟩
                      refine fO O (bI O (aV (fF O O) (iW O (fun h10 => ?_) (fun h10 => ?_))))
                      · (try simp only [Z] at h10)
                        refine bI O (fP O (aC (aN (aC (dL jw O ?_)))))
                        exact ⟨_, _, _, xW _ _ _, O, ru.f2.f4.f4.f4⟩
                      · (try simp only [Z] at h10)
                        refine bU ?_
                        refine dG (()) ?_ ?_ ?_
                        · exact (Sub.nil _)
                        · exact lH
                        · (try dsimp only)
                          first | done | exact (by first | exact ⟨_, Fr.refl s, ru.f2.f4.f4.f4⟩ | exact ⟨_, xW _ _ _, ru.f2.f4.f4.f4⟩)
                    · (try simp only [Z] at h9)
                      refine bU ?_
                      refine dG (()) ?_ ?_ ?_
                      · exact (Sub.nil _)
                      · exact lH
                      · (try dsimp only)
                        first | done | exact (by first | exact ⟨_, Fr.refl s, XJ.f4.f4.f4.f4⟩ | exact ⟨_, xW _ _ _, XJ.f4.f4.f4.f4⟩)
                · (try simp only [Z] at h8)
                  refine gy ?_
                  refine kE [(0, _)] (fun (_ : Unit) => []) (fun (_ : Unit) W => ∃ t, Fr s t ∧ V w0 W (VC c m e name (.slice (some ⟨Xx, Xy, none⟩) keys.length Xz) n g lv s.c.pt • je 21 .i32 lv s.c.L • jW m M • dZ e t • F)) lH ?_ ?_
                  · rintro _ w12 ⟨t, hfr, HJ⟩
                    dsimp only [List.cons_append, List.nil_append]
                    refine bI O (dX O func165 (xq HJ.f4.f4.f3) ?_)
                    rintro _ OL ⟨rfl, wB⟩
                    refine fP O (aN (aC (dL jw O ?_)))
                    exact ⟨_, _, _, hfr.trans (zO _ _), O, wB.f3.f3.f4.f4⟩
                  · skip
                    refine bI O (bW O (aV (gG O O) (iW O (fun h11 => ?_) (fun h11 => ?_))))
                    · (try simp only [Z] at h11)
                      refine bI O (jU O O (dX O func164 (Et JC.f4.f2) ?_))
                      rintro _ OG ⟨rfl, rU⟩
                      refine fO O (bI O (aV (fF O O) (iW O (fun h12 => ?_) (fun h12 => ?_))))
                      · (try simp only [Z] at h12)
                        refine bI O (fP O (aC (aN (aC (dL jw O ?_)))))
                        exact ⟨_, _, _, xW _ _ _, O, rU.f2.f4.f4.f4⟩
                      · (try simp only [Z] at h12)
                        refine bU ?_
                        refine dG (()) ?_ ?_ ?_
                        · exact (Sub.nil _)
                        · exact lH
                        · (try dsimp only)
                          first | done | exact (by first | exact ⟨_, Fr.refl s, rU.f2.f4.f4.f4⟩ | exact ⟨_, xW _ _ _, rU.f2.f4.f4.f4⟩)
                    · (try simp only [Z] at h11)
                      refine bU ?_
                      refine dG (()) ?_ ?_ ?_
                      · exact (Sub.nil _)
                      · exact lH
                      · (try dsimp only)
                        first | done | exact (by first | exact ⟨_, Fr.refl s, JC.f4.f4.f4.f4⟩ | exact ⟨_, xW _ _ _, JC.f4.f4.f4.f4⟩)
              · (try simp only [Z] at h7)
                refine kE [(0, _), (34, _)] (fun (_ : Unit) => [(174, .bool (decide (name.toList = vw.toList ∨ name.toList = U3.toList)))]) (fun (_ : Unit) W => V w0 W (VC c m e name (.slice (some ⟨Xx, Xy, none⟩) keys.length Xz) n g lv s.c.pt • je 21 .i32 lv s.c.L • jW m M • dZ e s • F)) sG ?_ ?_
                · rintro _ OM agi
                  dsimp only [List.cons_append, List.nil_append]
                  refine bg O (fun h13 => ?_) (fun h13 => ?_)
                  · (try simp only [Z] at h13)
                    refine bI O (dX O func166 (abU agi.f4.f3.f3 (fun W HW => hk _ (HW.right)) (fun h => aes hw (.inl h)) hn) ?_)
                    rintro _ w16 ⟨rfl, uT⟩
                    refine fP O (aN (aC (dL jw O ?_)))
                    exact ⟨_, _, _, agc _ _ _ _, O, uT.f3.f4.f4.f4⟩
                  · (try simp only [Z] at h13)
                    refine jg (aV (eP O O) (fO O (bg O (fun h14 => ?_) (fun h14 => ?_))))
                    · (try simp only [Z] at h14)
                      refine bI O (dX O func167 (ad0 agi.f4.f3.f3 (fun W HW => hk _ (HW.right)) hk1 hn) ?_)
                      rintro _ Yp ⟨rfl, BX⟩
                      refine fP O (aN (aC (dL jw O ?_)))
                      exact ⟨_, _, _, ais _ _ _, O, BX.f3.f4.f4.f4⟩
                    · (try simp only [Z] at h14)
                      refine kE [(0, _), (34, _)] (fun (_ : Unit) => [(183, .bool (decide (name.toList = Xk.toList ∨ name.toList = U4.toList)))]) (fun (_ : Unit) W => V w0 W (VC c m e name (.slice (some ⟨Xx, Xy, none⟩) keys.length Xz) n g lv s.c.pt • je 21 .i32 lv s.c.L • jW m M • dZ e s • F)) sG ?_ ?_
                      · rintro _ ZO QC
                        dsimp only [List.cons_append, List.nil_append]
                        refine bg O (fun h15 => ?_) (fun h15 => ?_)
                        · (try simp only [Z] at h15)
                          refine bI O (dX O func168 (abV QC.f4.f4.f4.f4 (fun W HW => hk _ (HW)) hT hk1) ?_)
                          rintro _ w19 ⟨x19, t19, M19, alY, rfl, EP⟩
                          refine fP O (aN (aC (dL jw O ?_)))
                          exact ⟨_, _, _, by assumption, O, EP.f4.f4.f4.f4⟩
                        · (try simp only [Z] at h15)
                          refine jg (aV (eP O O) (fO O (bg O (fun h16 => ?_) (fun h16 => ?_))))
                          · (try simp only [Z] at h16)
                            refine bI O (dX O func169 (XH QC.f4.f4.f4.f4) ?_)
                            rintro _ ZP ⟨x20, t20, M20, alZ, rfl, BL⟩
                            refine fP O (aN (aC (dL jw O ?_)))
                            exact ⟨_, _, _, by assumption, O, BL.f4.f4.f4.f4⟩
                          · (try simp only [Z] at h16)
                            refine jg (aV (eP O O) (fO O (bg O (fun h17 => ?_) (fun h17 => ?_))))
                            · (try simp only [Z] at h17)
                              refine bI O (dX O func170 (age QC.f4.f2 (fun W HW => hk _ (HW.right.right)) hk1 hn) ?_)
                              rintro _ w21 ⟨x21, t21, al0, rfl, wP⟩
                              refine fP O (aN (aC (dL jw O ?_)))
                              exact ⟨_, _, _, by assumption, O, wP.f2.f4.f4.f4⟩
                            · (try simp only [Z] at h17)
                              refine jg (aV (eP O O) (fO O (bg O (fun h18 => ?_) (fun h18 => ?_))))
                              · (try simp only [Z] at h18)
                                refine aI (aI ?_)
                                have hk2 := aes hw (.inr (by assumption))
                                refine aF (mX O O (bM 3 aB O bD O (eH ah O (QC).get.2 O (aV (dI ah bP O O (by omega)) ?_))))
                                refine aV (dW (bV bC O) O (by first | exact gB.lN (hk _ (QC.right.right.right.right)) (by omega) | exact gB.uP (hk _ (QC.right.right.right.right)) (by omega) | exact gB.wO (hk _ (QC.right.right.right.right)) (by omega))) ?_
                                refine fO O (bI O (aV (mJ O O) (jY O (fun h19 => ?_) (fun h19 => ?_))))
                                · (try simp only [Z] at h19)
                                  refine bF (bW O (bF (aV (rQ O O) (jQ O O (iW O (fun h20 => ?_) (fun h20 => ?_))))))
                                  · (try simp only [Z] at h20)
                                    refine aI ?_
                                    obtain ⟨Io, GH, F9, oK, rP⟩ := (QC.f3).vm
                                    have aex := rP.drew
                                    have xJ := V.kp (aex.f7.f7.f7.f7.f7.f7.f7)
                                    refine nG [3, 6, 11] xJ O (fD 0 O xJ O (iG 1 O xJ O (dJ 2 O xJ 0 aB O qH O (fM 3 O xJ (fun W hW => fQ jG O ((Kp.h hW).f5).get.2 O) (iG 4 O xJ O (dJ 5 O xJ 0 fZ O sizeOf113 O (fM 6 O xJ (fun W hW => fQ mQ O ((Kp.h hW)).get.2 O) (fD 7 O xJ O (fD 8 O xJ O (iG 9 O xJ O (dJ 10 O xJ 7 aB O aj O (fM 11 O xJ (fun W hW => fQ aA O ((Kp.h hW).f5).get.2 O) ?_))))))))))))
                                    refine dF 12 O (by kernel_rfl) (yZ aex.f2 mQ bC O O O) ?_
                                    rintro _ w23 AQ
                                    have Fa := V.kp (AQ.f7.f7.f7.f7.f7.f7.f7)
                                    refine gU Fa (by kernel_rfl) ?_
                                    have ahM := AQ.f4.f4.f3.f4
                                    have ahN := V.ZA (M := M) (r := keys.getD 1 0) (p := s.c.pt) rfl oK ahM
                                    refine lJ (aU (jS O (aC (aN (aC (dL jw O ?_))))))
                                    exact ⟨_, _, _, Fr.refl s, O, ahN.f4.f2.f4.f4⟩
                                  · (try simp only [Z] at h20)
                                    refine gy (jS O (aN (aC (dL jw O ?_))))
                                    exact ⟨_, _, _, Fr.refl s, O, QC.f4.f4.f4.f4⟩
                                · (try simp only [Z] at h19)
                                  refine bK (bK (iH O O (iR (oL (gy (jS O (aN (aC (dL jw O ?_)))))))))
                                  exact ⟨_, _, _, Fr.refl s, O, QC.f4.f4.f4.f4⟩
                              · (try simp only [Z] at h18)
                                refine bU (aH (aU (aI ?_)))
                                have hre : name.toList = Qg.toList := by rcases hkn with b | b | b | b | b | b | b | b | b | b | b | b | b | b | b | b <;> first | exact b | exact absurd b (by assumption) | exact absurd (Or.inl b) (by assumption) | exact absurd (Or.inr b) (by assumption) | exact absurd (Or.inr (Or.inl b)) (by assumption) | exact absurd (Or.inr (Or.inr b)) (by assumption)
                                refine aF (bW O (dX O func171 (agh QC.f4.f4.f4.f4 (alu hre)) ?_))
                                rintro _ w26 ⟨Dp, t26, M26, al1, rfl, QS⟩
                                refine fP O (dL jw O ?_)
                                exact ⟨_, _, _, by assumption, O, QS.f4.f4.f4.f4⟩
                      · skip
                        refine jg (aV (eP O O) (fO O (bg O (fun h21 => ?_) (fun h21 => ?_))))
                        · (try simp only [Z] at h21)
                          refine bU ?_
                          refine dG (()) ?_ ?_ ?_
                          · exact (Sub.kJ O (by first | exact qU (beq_iff_eq.2 (by assumption)) (by first | exact .inl (by assumption) | exact .inr (by assumption)) | exact congrArg Value.bool (by rw [Bool.eq_iff_iff, decide_eq_true_iff, beq_iff_eq]; exact ⟨fun h => .inr h, fun h => by rcases h with h | h <;> first | exact h | exact absurd h (by assumption)⟩)) (Sub.nil _))
                          · exact sG
                          · (try dsimp only)
                            first | done | exact agi.f4.f4.f4.f4
                        · (try simp only [Z] at h21)
                          refine aF (aV (eP O O) (gW O (bT ?_)))
                          refine dG (()) ?_ ?_ ?_
                          · exact (Sub.kJ O (by first | exact qU (beq_iff_eq.2 (by assumption)) (by first | exact .inl (by assumption) | exact .inr (by assumption)) | exact congrArg Value.bool (by rw [Bool.eq_iff_iff, decide_eq_true_iff, beq_iff_eq]; exact ⟨fun h => .inr h, fun h => by rcases h with h | h <;> first | exact h | exact absurd h (by assumption)⟩)) (Sub.nil _))
                          · exact sG
                          · (try dsimp only)
                            first | done | exact agi.f4.f4.f4.f4
                · skip
                  refine jg (aV (eP O O) (fO O (bg O (fun h22 => ?_) (fun h22 => ?_))))
                  · (try simp only [Z] at h22)
                    refine bU ?_
                    refine dG (()) ?_ ?_ ?_
                    · exact (Sub.kJ O (by first | exact qU (beq_iff_eq.2 (by assumption)) (by first | exact .inl (by assumption) | exact .inr (by assumption)) | exact congrArg Value.bool (by rw [Bool.eq_iff_iff, decide_eq_true_iff, beq_iff_eq]; exact ⟨fun h => .inr h, fun h => by rcases h with h | h <;> first | exact h | exact absurd h (by assumption)⟩)) (Sub.nil _))
                    · exact sG
                    · (try dsimp only)
                      first | done | exact aew.f4.f4.f4.f4
                  · (try simp only [Z] at h22)
                    refine aF (aV (eP O O) (gW O (bT ?_)))
                    refine dG (()) ?_ ?_ ?_
                    · exact (Sub.kJ O (by first | exact qU (beq_iff_eq.2 (by assumption)) (by first | exact .inl (by assumption) | exact .inr (by assumption)) | exact congrArg Value.bool (by rw [Bool.eq_iff_iff, decide_eq_true_iff, beq_iff_eq]; exact ⟨fun h => .inr h, fun h => by rcases h with h | h <;> first | exact h | exact absurd h (by assumption)⟩)) (Sub.nil _))
                    · exact sG
                    · (try dsimp only)
                      first | done | exact aew.f4.f4.f4.f4
        · skip
          refine jg (aV (eP O O) (fO O (bg O (fun h23 => ?_) (fun h23 => ?_))))
          · (try simp only [Z] at h23)
            refine bU ?_
            refine dG (()) ?_ ?_ ?_
            · exact (Sub.kJ O (by first | exact qU (beq_iff_eq.2 (by assumption)) (by first | exact .inl (by assumption) | exact .inr (.inl (by assumption)) | exact .inr (.inr (by assumption))) | exact congrArg Value.bool (by rw [Bool.eq_iff_iff, decide_eq_true_iff, beq_iff_eq]; exact ⟨fun h => .inr (.inr h), fun h => by rcases h with h | h | h <;> first | exact h | exact absurd h (by assumption)⟩)) (Sub.nil _))
            · exact sG
            · (try dsimp only)
              first | done | exact HJ4.f4.f4.f4.f4
          · (try simp only [Z] at h23)
            refine jg (aV (eP O O) (fO O (bg O (fun h24 => ?_) (fun h24 => ?_))))
            · (try simp only [Z] at h24)
              refine bU ?_
              refine dG (()) ?_ ?_ ?_
              · exact (Sub.kJ O (by first | exact qU (beq_iff_eq.2 (by assumption)) (by first | exact .inl (by assumption) | exact .inr (.inl (by assumption)) | exact .inr (.inr (by assumption))) | exact congrArg Value.bool (by rw [Bool.eq_iff_iff, decide_eq_true_iff, beq_iff_eq]; exact ⟨fun h => .inr (.inr h), fun h => by rcases h with h | h | h <;> first | exact h | exact absurd h (by assumption)⟩)) (Sub.nil _))
              · exact sG
              · (try dsimp only)
                first | done | exact HJ4.f4.f4.f4.f4
            · (try simp only [Z] at h24)
              refine aF (aV (eP O O) (gW O (bT ?_)))
              refine dG (()) ?_ ?_ ?_
              · exact (Sub.kJ O (by first | exact qU (beq_iff_eq.2 (by assumption)) (by first | exact .inl (by assumption) | exact .inr (.inl (by assumption)) | exact .inr (.inr (by assumption))) | exact congrArg Value.bool (by rw [Bool.eq_iff_iff, decide_eq_true_iff, beq_iff_eq]; exact ⟨fun h => .inr (.inr h), fun h => by rcases h with h | h | h <;> first | exact h | exact absurd h (by assumption)⟩)) (Sub.nil _))
              · exact sG
              · (try dsimp only)
                first | done | exact HJ4.f4.f4.f4.f4
  · skip
    refine bI O (dV O (bM 2 aB O kM O (eH iD O (H).get.2 O (dX O func160 (Nw) ?_))))
    rintro _ _ ⟨rfl, rfl⟩
    refine fO O (bI O (aV (LK O O) (jY O (fun h25 => ?_) (fun h25 => ?_))))
    · (try simp only [Z] at h25)
      refine bF (bW O (bF (dV O (bF (bM 3 aB O bD O (bF (eH ah O (H).get.2 O (bF (aV (dI ah bP O O (by omega)) (bF ?_))))))))))
      refine aV (dW (bV bC O) O (by first | exact gB.lN (hk _ (H.right.right.right.right)) (by omega) | exact gB.uP (hk _ (H.right.right.right.right)) (by omega) | exact gB.wO (hk _ (H.right.right.right.right)) (by omega))) ?_
      refine bF (bW O (bF (dX O func50 (AO (Zz name)) ?_)))
      rintro _ _ ⟨rfl, rfl⟩
      refine bF (aV (jR O) (jQ O O (iW O (fun h26 => ?_) (fun h26 => ?_))))
      · (try simp only [Z] at h26)
        refine jS O (aC (dL jw O ?_))
        exact ⟨_, _, _, Fr.refl s, O, H.f4.f4.f4.f4⟩
      · (try simp only [Z] at h26)
        refine bU ?_
        refine dG (()) ?_ ?_ ?_
        · exact (Sub.nil _)
        · exact lH
        · (try dsimp only)
          first | done | exact H.f4.f4.f4.f4
    · (try simp only [Z] at h25)
      refine bK (bK (bK (bK (bK (bK (bK (bK (bK (iH O O (iR (oL (bU ?_))))))))))))
      refine dG (()) ?_ ?_ ?_
      · exact (Sub.nil _)
      · exact lH
      · (try dsimp only)
        first | done | exact H.f4.f4.f4.f4
end
end Go.Proofs.YtpdeedplgmbopaaGreatDoor
end
section
namespace Go.Proofs.YtpdeedplgmbopaaGreatDoor
open Go.RowKit
section
variable {s t : bQ} {p : Jt}
theorem agj (hi : t.inn = true) (hw : t.was = s.c) (hh : t.hl = s.hl) (hb : t.lI = s.lI) {err : Int} (he : err ≠ 0) :
    (t.lQ err).c = { s.c with last := 0, fr := 0, to := 0 } ∧ (t.lQ err).hl = s.hl ∧ (t.lQ err).lI = IntKind.i64.wrap (s.lI + 1) ∧ (t.lQ err).given = false ∧ (t.lQ err).inn = false ∧ t.BD err = err := by
  unfold bQ.lQ bQ.BD
  rw [if_pos hi, if_neg he, if_pos hi]
  unfold bQ.BF bQ.wI
  rw [← hw, ← hh, ← hb]
  exact ⟨rfl, rfl, rfl, rfl, rfl, rfl⟩
theorem QD (h : s.inn = false) : s.rE = s.here.length := by unfold bQ.rE wZ; rw [h]; simp
theorem aey (h : s.inn = false) : s.cZ.was = s.c ∧ s.cZ.hl = s.hl ∧ s.cZ.lI = s.lI := by unfold bQ.cZ; rw [if_neg (by rw [h]; decide)]; exact ⟨rfl, rfl, rfl⟩
end
end Go.Proofs.YtpdeedplgmbopaaGreatDoor
end
section
namespace Go.Proofs.YtpdeedplgmbopaaGreatDoor
open Go.RowKit
open _root_.Go.Proofs.Tryz
section
variable {L : List (Nat × Value)} {w : World} {x y : Operand} {ty : TypeId}
theorem Vg {c : Int × ByteArray} (hx : ev L x = some (.agg (yH c).toArray)) (hy : ev L y = some (.agg (yH c).toArray)) : Val prog L (.binOp .neq 133 x y 133) ty w (.bool false) w := fun ρ hρ _ _ _ _ => by
  simp only [execOp, hρ _ _ hx, hρ _ _ hy]
  have h0 : (eqGuard .neq 133 x y (.agg (yH c).toArray) (.agg (yH c).toArray)).run prog w = .ok () w := run_eqGuard_agg w .neq _ x y _ _ (by kernel_rfl)
  have hf : prog.underlying 133 = some (.struct (prog.fieldsOf 133)) := by kernel_rfl
  have hp : prog.stoodInHeld 133 = false := by kernel_rfl
  have hfs : ((prog.fieldsOf 133).toList.map fun f => (f.name, f.type, f.offset)) = [("At", 3, 0), ("Text", 9, 1)] := by kernel_rfl
  have h1 : (Op.eqFields 9999 (yH c).toArray (yH c).toArray (prog.fieldsOf 133).toList).run prog w = .ok true w := by
    generalize (prog.fieldsOf 133).toList = fs at hfs
    match fs, hfs with
    | [], hfs | [_], hfs | _ :: _ :: _ :: _, hfs => simp at hfs
    | [f1, f2], hfs =>
      simp only [List.map_cons, List.map_nil, List.cons.injEq, Prod.mk.injEq, and_true] at hfs
      obtain ⟨⟨n1, t1, o1⟩, n2, t2, o2⟩ := hfs
      have p1 : sD prog 9 = true := bV underlying9 rfl
      have p2 : sD prog 3 = true := bV underlying3 rfl
      have aaK : ∀ (e : TypeId) (xs : Array Value) (off : Nat) (v : Value), sD prog e = true → xs[off]? = some v → (part e xs off).run prog w = .ok v w := fun e xs off v h1 h2 => by simp [part, FD h1, h2]
      have st : ∀ (f : Field) (e : TypeId) (off : Nat) (u v : Value) (r : Bool) (rest : List Field), f.name ≠ "_" → f.type = e → f.offset = off → sD prog e = true → (yH c).toArray[off]? = some u → (yH c).toArray[off]? = some v → (Op.equalIn 9999 e u v).run prog w = .ok r w →
          (Op.eqFields 9999 (yH c).toArray (yH c).toArray (f :: rest)).run prog w = if r then (Op.eqFields 9999 (yH c).toArray (yH c).toArray rest).run prog w else .ok false w := fun f e off u v r rest hn ht ho hp h1 h2 h3 => by
        subst ht ho
        rw [Op.eqFields, if_pos hn, Sem.run_bind, aaK _ _ _ _ hp h1, Result.andThen_ok, Sem.run_bind, aaK _ _ _ _ hp h2, Result.andThen_ok, Sem.run_bind, h3, Result.andThen_ok]
        cases r
        · simp
        · simp
      rw [st f1 _ _ _ _ _ _ (by rw [n1]; decide) t1 o1 p2 rfl rfl (run_equalIn_int w 9998 3 .i64 .i64 c.1 c.1 underlying3),
        st f2 _ _ _ _ _ _ (by rw [n2]; decide) t2 o2 p1 rfl rfl (run_equalIn_string w 9998 9 c.2 c.2 underlying9)]
      simp [Op.eqFields]
  have h2 := run_neq_struct (P := prog) w 133 (yH c).toArray (yH c).toArray
  rw [run_equalIn_agg w 9999 _ _ _ hf hp, h1] at h2
  simp [h0, h2]
end
def Lp (v : Value) (pt mk : Int) : Array Value := #[v, .int .i64 pt, .int .i64 mk]
def uO (p : Nat) (L : List Int) (pt mk : Int) : HP := zX fun (v : Value) => fact (L.length ≤ 1024 ∧ (0 ≤ pt ∧ pt ≤ L.length) ∧ (-1 ≤ mk ∧ mk ≤ L.length)) • gJ p (.cells (Lp v pt mk) 222 (0, 0)) • je 21 .i32 v L
section
variable {w0 w : World} {F : HP} {p : Nat} {L : List Int} {pt mk : Int} {v : Value} {l : List Int} {i j : Int}
theorem V.ref (H : V w0 w (uO p L pt mk • F)) : ∃ (a : Option Addr) (c : Nat), L.length ≤ 1024 ∧ (0 ≤ pt ∧ pt ≤ L.length) ∧ (-1 ≤ mk ∧ mk ≤ L.length) ∧ L.length ≤ c ∧ (c : Int) ≤ 9223372036854775807 ∧
    V w0 w (gJ p (.cells (Lp (.slice a L.length c) pt mk) 222 (0, 0)) • je 21 .i32 (.slice a L.length c) L • F) := by
  obtain ⟨v, H⟩ := H.qY
  obtain ⟨⟨h1, h2, h3⟩, H⟩ := H.flat.fact
  have H := H.flat
  obtain ⟨a, c, hv, hc1, hc2, _⟩ := (H.swap.aO).form
  subst hv
  exact ⟨a, c, h1, h2, h3, hc1, hc2, H⟩
theorem V.ZB (h1 : L.length ≤ 1024) (h2 : 0 ≤ pt ∧ pt ≤ L.length) (h3 : -1 ≤ mk ∧ mk ≤ L.length) (H : V w0 w (gJ p (.cells (Lp v pt mk) 222 (0, 0)) • je 21 .i32 v L • F)) : V w0 w (uO p L pt mk • F) :=
  V.kT v (V.deep (V.oQ ⟨h1, h2, h3⟩ (V.deep H)))
theorem Vh (H : V w0 w F) (hr : jO w0 F .i32 v l) (hl : 1024 < l.length) : jf prog 112 #[v] w fun v' w' => v' = .tuple #[.pointer none, .int .i64 3] ∧ w = w' := by
  obtain ⟨a, c, rfl, _, _, _⟩ := (hr w H).open
  refine jE func112 ntmps112 ?_
  refine jg (gW O (tX O (bI O (aV (jd ah O) (aV (gK O O) (iR (wcA O (fun h1 => ?_))))))))
  (try simp only [Z] at h1)
  refine jg (gW O (fP O (aC (MO results112 O O ?_))))
  exact ⟨O, O⟩
theorem XK (H : V w0 w F) (hr : jO w0 F .i32 v l) (hl : l.length ≤ 1024) : jf prog 112 #[v] w fun v' w' => ∃ p, v' = .tuple #[.pointer (some ⟨p, 0, none⟩), .int .i64 0] ∧ V w0 w' (uO p l l.length (-1) • F) := by
  obtain ⟨a, c, rfl, hc1, hc2, _⟩ := (hr w H).open
  refine jE func112 ntmps112 ?_
  refine jg (gW O (tX O (bI O (aV (jd ah O) (aV (gK O O) (iR (Yk O (fun h1 => ?_))))))))
  (try simp only [Z] at h1)
  refine gy (kH O (bI O (bW O (kV (nH (l := []) (H.kF none) (hr _ H) ah GY O O (by simp only [List.length_nil]; omega) (by simp only [List.length_nil]; omega)) ?_))))
  rintro u w1 H1
  rw [List.nil_append] at H1
  obtain ⟨au, cu, hu, _⟩ := (H1.aO).form
  subst hu
  refine fO O (bI O (bW O (aV (jd ah O) (aV (qx (pl := #[(0, 1), (1, 1), (2, 1)]) (Lp (.slice au l.length cu) l.length (-1)) underlying222 zeroValue222 (fun w => by kernel_rfl) O (by kernel_rfl)) (kV (SB H1 O) ?_)))))
  rintro _ w2 ⟨b2, rfl, H2⟩
  refine gW O (fP O (MO results112 O O ?_))
  exact ⟨_, O, V.ZB hl (by omega) (by omega) H2⟩
end
section
variable {w0 w : World} {F : HP} {p : Nat} {L : List Int} {pt mk x : Int} {v : Value} {l : List Int}
theorem Rx {u u' : Value} (H : V w0 w F) (g1 : jO w0 F .i32 u l) (g2 : jO w0 F .i32 u' l) : jf prog 76 #[.agg (uG u pt mk), .agg (uG u' pt mk)] w fun v w' => v = .bool true ∧ V w0 w' F := by
 refine qo func76 ntmps76 ?_
 refine jg (kV (SB H O) ?_)
 rintro _ w1 ⟨b1, rfl, H1⟩
 refine kV (SB H1 O) ?_
 rintro _ w2 ⟨b2, rfl, H2⟩
 refine tX O ?_
 have HB : V w0 w2 (gJ b2 (.cells (uG u' pt mk) 46 (0, 0)) • gJ b1 (.cells (uG u pt mk) 46 (0, 0)) • F) := H2
 refine aF (bM 0 fK O bD O (eH ah O HB.swap.get.2 O (bM 0 fK O bD O (eH ah O HB.get.2 O (dX O func77 (VL _ _ _ l (g1 _ HB.right.right) (g2 _ HB.right.right)) ?_)))))
 rintro _ w3 ⟨rfl, hD1⟩
 have HE1 := HB.zh hD1
 refine bW O (bF (bM 1 fK O aj O (bF (eH aA O HE1.swap.get.2 O (bF (bM 1 fK O aj O (bF (eH aA O HE1.get.2 O (bF ?_)))))))))
 refine aV (Dl (fB O O) (by first | (rw [decide_eq_true_eq]; omega) | (rw [decide_eq_false_iff_not]; omega) | (rw [beq_iff_eq]; omega) | (rw [beq_eq_false_iff_ne]; omega) | (rw [bne_iff_ne]; omega) | (rw [bne_eq_false_iff_eq]; omega) | (simp; done) | (simp; omega))) ?_
 refine jQ O O (bW O (bF (bM 2 fK O aj O (bF (eH aA O HE1.swap.get.2 O (bF (bM 2 fK O aj O (bF (eH aA O HE1.get.2 O (bF ?_))))))))))
 refine aV (Dl (fB O O) (by first | (rw [decide_eq_true_eq]; omega) | (rw [decide_eq_false_iff_not]; omega) | (rw [beq_iff_eq]; omega) | (rw [beq_eq_false_iff_ne]; omega) | (rw [bne_iff_ne]; omega) | (rw [bne_eq_false_iff_eq]; omega) | (simp; done) | (simp; omega))) ?_
 refine jQ O O (fP O (dL results76 O ?_))
 exact ⟨O, HE1.right.right⟩
end
end Go.Proofs.YtpdeedplgmbopaaGreatDoor
end
