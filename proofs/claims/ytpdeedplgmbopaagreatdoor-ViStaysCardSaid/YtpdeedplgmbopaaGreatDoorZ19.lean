import Derived.Test.YtpdeedplgmbopaaGreatDoorZ4
import Derived.Test.YtpdeedplgmbopaaGreatDoorZ18
import Derived.Test.YtpdeedplgmbopaaGreatDoorZ12
import Derived.Test.YtpdeedplgmbopaaGreatDoorZ11
import Derived.Test.YtpdeedplgmbopaaGreatDoorZ17
import Derived.Test.YtpdeedplgmbopaaGreatDoorZ10
import Derived.Test.YtpdeedplgmbopaaGreatDoorZ16
set_option linter.unusedSimpArgs false
set_option linter.unusedVariables false
/- Texts of mine, joined, their names in short: EdCl VDo VB VGo VGo2. -/
section
namespace Go.Proofs.YtpdeedplgmbopaaGreatDoor
open Go.RowKit
open _root_.Go.Proofs.Tryz
section
variable {w0 w : World} {F : HP} {e : Nat} {s : bQ}
theorem Jy (H : V w0 w (dZ e s • F)) (hi : s.inn = false) : jf prog 70 #[.pointer (some ⟨e, 0, none⟩)] w fun v w' => ∃ q, v = .pointer (some ⟨q, 0, none⟩) ∧ V w0 w' (dZ e s • F) := by
 refine jE func70 ntmps70 ?_
 refine kH O (aI (bI O (dX O func65 (xk H) ?_)))
 rintro _ _ ⟨rfl, rfl⟩
 refine iR (oL (gy (aI ?_)))
 obtain ⟨xE, yB, yC, y9, yD, yE, yF, yG, xG, vM, vN, vO, vP, vS, vT, vU, vV, vW, vX, vY, iT, dQ, lT, jm⟩ := (H).Jp
 have hwo := DT (jm.f11)
 simp only [List.all_cons, List.all_nil, Bool.and_true, Bool.and_eq_true] at hwo
 obtain ⟨o0, o1, o2, o3, o4, o5, o6, o7, o8, o9, oa⟩ := hwo
 have hon := (jm.f10).Hl
 have hpl : s.put.length ≤ 16384 := by have h9 := iT.2.2.2.2.1; unfold iK at h9; omega
 refine aF (mX O O (aV (dH ay O sizeOf82 O O (jm).get.2) (kV (iO (l := [_, _, _, _, _, _, _, _, _, _, _, _, _, _, _, _, _, _, _, _, _, _, _, _, _, _, _, _, _, _, _, _, _, _]) jm zeroValue82 O) ?_)))
 rintro _ w3 ⟨b3, rfl, H3⟩
 refine aQ (dM 0 (l' := [_, _, _, _, _, _, _, _, _, _, _, _, _, _, _, _, _, _, _, _, _, _, _, _, _, _, _, _, _, _, _, _, _, _]) (us := [_, _, _, _, _, _, _, _, _, _, _, _, _, _, _, _, _, _, _, _, _, _, _, _, _, _, _, _, _, _, _, _, _, _]) H3 sizeOf82 O O O (aJ (aJ (aJ (aJ (aJ (aJ (aJ (aJ (aJ (aJ (aJ (aJ (aJ (aJ (aJ (aJ (aJ (aJ (aJ (aJ (aJ (aJ (aJ (aJ (aJ (aJ (aJ (aJ (aJ (aJ (aJ (aJ (aJ (bG (by first | rfl | exact Rd.one ((H3.f10).aO)) dn)))))))))))))))))))))))))))))))))) O O) ?_
 rintro _ w4 H4
 refine uS O (dV O (bM 0 ay O aY O (aV (pz 0 (xs := [_, _, _, _, _, _, _, _, _, _, _]) aS O aY O O (H4.f2).get.2 O) (dX O func80 (Wx H4.f7.f7.f7.f7.f7) ?_))))
 rintro _ w5 ⟨qb5, qr5, qw5, qt5, qm5, rfl, H5⟩
 refine bM 0 ay O aY O (aQ (dM 0 (l' := [_, _, _, _, _, _, _, _, _, _, _, _, _, _, _, _, _, _, _, _, _, _, _, _, _, _, _, _, _, _, _, _, _, _]) (us := [_, _, _, _, _, _, _, _, _, _, _]) H5.f11 aY O O O (aJ (aJ (aJ (aJ (aJ (aJ (aJ (aJ (aJ (aJ (aJ dn))))))))))) O O) ?_)
 rintro _ w6 H6
 have Hd7 := H6.f5.right
 have Hd8 := Hd7.f2.right
 have Hd9 := Hd8.f2.right
 have afU := Hd9.f2.right
 have Yy := afU.f2.right
 refine rW (bI O (dV O (bM 16 ay O aT O (eH bJ O (Yy.f7).get.2 O (iW O (fun h => by exfalso; (try simp only [Z] at h); rw [hi] at h; simp at h) (fun h1 => ?_))))))
 (try simp only [Z] at h1)
 refine gy (bI O (dV O (bM 11 ay O sizeOf78 O (eH nK O (Yy.f7).get.2 O (dX O func109 (zC Yy.f8) ?_)))))
 rintro _ w12 ⟨q12, rfl, wQ⟩
 refine bM 11 ay O sizeOf78 O (aQ (iw 11 wQ.f3 sizeOf78) ?_)
 rintro _ OL wB
 have afJ := wB.f2.right
 refine uS O (dV O (bM 33 ay O dA O (eH aZ O (afJ.f8).get.2 O (dX O func122 (Gt afJ (fun W HW => (HW.f10).aO) hon (by omega)) ?_))))
 rintro u15 OM zV
 refine bM 33 ay O dA O (aQ (ig 33 (l' := [_, _, _, _, _, _, _, _, _, _, _, _, _, _, _, _, _, _, _, _, _, _, _, _, _, _, _, _, _, _, _, _, _, _]) zV.f2 dA O O (by first | rfl | exact Rd.one ((zV).aO)) O O) ?_)
 rintro _ w16 uT
 have Yz := uT.f2.right
 refine zk7 (aV (iJ (zl := [.int .i64 0]) (pl := [(0, 0), (0, 0), (0, 1)]) [_] underlying161 zeroValue161 O (fun w => by kernel_rfl) O (.zero (zs := []) O (.zero (zs := []) O (.zero (zs := [.int .i64 0]) O .nil))) O) (kV (kK (l := [_]) Yz O O) ?_))
 rintro _ ZO ⟨b18, rfl, EW⟩
 refine bM 12 ay O sizeOf79 O (aQ (iw 12 EW.f2 sizeOf79) ?_)
 rintro _ w19 EP
 refine rW ?_
 have Ip := EP.drew
 have nU := V.kp (Ip.f13.f13.f13.f13.f13.f13.f13.f13.f13.f13.f13.f13.f13)
 refine nG [1, 5] nU O (dJ 0 O nU 12 ay O sizeOf79 O (fM 1 O nU (fun W hW => fQ underlying79 O ((Kp.h hW)).get.2 O) (fD 2 O nU O (iG 3 O nU O (dJ 4 O nU 12 ay O sizeOf79 O (fM 5 O nU (fun W hW => fQ underlying79 O ((Kp.h hW).f9).get.2 O) (ny 6 O (wM O func68 (sZ Ip.f10)) ?_)))))))
 rintro _ _ ⟨rfl, rfl⟩
 have zI := V.kp (Ip.f13.f13.f13.f13.f13.f13.f13.f13.f13.f13.f13.f13.f13)
 refine dK zI (fun W hW => (Kp.h hW).f13.f13.f13.f13.f13.f13.f13.f13.f13.f13.f13.f13.f13) ?_
 refine ny 7 O (wM O func123 (Ql Ip.f2)) ?_
 rintro _ w21 wP
 have PU := V.kp (wP.f13.f13.f13.f13.f13.f13.f13.f13.f13.f13.f13.f13.f13)
 refine gU PU (by kernel_rfl) ?_
 refine lJ (aU (jS O (dL results70 O ?_)))
 have adJ := wP.f13.f13.f13.f13.f7.f12.f12.f12.f12.f12.f13
 have adK := V.ji (s := s) iT dQ adJ
 exact ⟨_, O, adK.f2.right.f2.right⟩
end
def U8 (w0 : World) (name : ByteArray) (keys : List Int) (n : Int) (g : Bool) (s : bQ) (M : VM) (Q : Int → bQ → VM → Prop) : Prop := ∀ (F : HP) (W : World) (c m e : Nat) (kv lv : Value), V w0 W (VC c m e name kv n g lv s.c.pt • je 21 .i32 lv s.c.L • jW m M • dZ e s • F) → jO w0 F .i32 kv keys →
  jf prog 124 #[.pointer (some ⟨c, 0, none⟩)] W fun v W' => ∃ x t M', Q x t M' ∧ v = .int .i64 x ∧ V w0 W' (VC c m e name kv n g lv s.c.pt • je 21 .i32 lv s.c.L • jW m M' • dZ e t • F)
def VM.did (M : VM) (name : ByteArray) (keys : List Int) (n x : Int) : VM := if (zM name ∨ vZ name) ∧ x = 0 then { M with name := name, keys := keys, n := n, typed := [] } else M
def bQ.Zf (t : bQ) (x : Int) : Int := if x = 0 then t.BO.BD t.Jw else t.BD x
def bQ.X7 (t : bQ) (x : Int) : bQ := if x = 0 then t.BO.lQ t.Jw else t.lQ x
def VM.doM (M M' : VM) (name : ByteArray) (keys : List Int) (n x r : Int) : VM := if r = 0 then M'.did name keys n x else M
section
variable {w0 w : World} {F : HP} {c m e : Nat} {s : bQ} {name : ByteArray} {kv lv : Value} {keys : List Int} {n p x : Int} {g : Bool} {M M' : VM} {Q : Int → bQ → VM → Prop}
theorem U9 (h : zM name ∨ vZ name) (hx : x = 0) : M.did name keys n x = { M with name := name, keys := keys, n := n, typed := [] } := if_pos ⟨h, hx⟩
theorem JW (h : ¬ ((zM name ∨ vZ name) ∧ x = 0)) : M.did name keys n x = M := if_neg h
theorem abN (H : V w0 w (VC c m e name kv n g lv s.c.pt • je 21 .i32 lv s.c.L • jW m M • dZ e s • F)) (hk : jO w0 F .i32 kv keys) (h1 : U8 w0 name keys n g s M Q) (hkl : keys.length * 4 ≤ 140737488355328) (hw : nT name keys = 0) (hn : 1 ≤ n ∧ n ≤ 1000000) :
  jf prog 74 #[.pointer (some ⟨c, 0, none⟩)] w fun v w' => ∃ x t M', Q x t M' ∧ v = .int .i64 x ∧ V w0 w' (VC c m e name kv n g lv s.c.pt • je 21 .i32 lv s.c.L • jW m (M'.did name keys n x) • dZ e t • F) := by
 refine jE func74 ntmps74 ?_
 refine kH O (bI O (dX O func124 (h1 _ _ _ _ _ _ _ H hk) ?_))
 rintro _ w1 ⟨x, t, M2, hQ, rfl, H1⟩
 refine tX O (bI O (dV O (bM 2 aB O kM O (eH iD O (H1).get.2 O (dX O func125 (Ld H1) ?_)))))
 rintro _ w2 ⟨rfl, H2⟩
 refine bW O (oZ O O (oZ O O (gW O (fO O (bI O (jY O (fun h1 => ?_) (fun h1 => ?_)))))))
 ·(try simp only [Z] at h1)
  refine bF (bW O (bF (aV (fB O O) (jQ O O (iW O (fun h2 => ?_) (fun h2 => ?_))))))
  ·(try simp only [Z] at h2)
   obtain ⟨Io, GH, F9, oK, rP⟩ := (H2.f3).vm
   have hcg : zM name ∨ vZ name := by assumption
   have hx0 : x = 0 := by assumption
   have ajK := rP.drew
   have Bg := V.kp (ajK.f7.f7.f7.f7.f7.f7.f7)
   refine nG [3, 7, 11, 16] Bg O (fD 0 O Bg O (iG 1 O Bg O (dJ 2 O Bg 0 aB O qH O (fM 3 O Bg (fun W hW => fQ jG O ((Kp.h hW).f5).get.2 O) (fD 4 O Bg O (iG 5 O Bg O (dJ 6 O Bg 2 aB O kM O (fM 7 O Bg (fun W hW => fQ iD O ((Kp.h hW).f5).get.2 O) (fD 8 O Bg O (iG 9 O Bg O (dJ 10 O Bg 3 aB O bD O (fM 11 O Bg (fun W hW => fQ ah O ((Kp.h hW).f5).get.2 O) (fD 13 O Bg O (iG 14 O Bg O (dJ 15 O Bg 4 aB O aj O (fM 16 O Bg (fun W hW => fQ aA O ((Kp.h hW).f5).get.2 O) (ny 12 O (wM O func71 (qy ajK (fun W HW => hk _ (HW.right.right.right.right.right.right.right)) (by omega))) ?_)))))))))))))))))
   rintro u4 w4 H4
   have oH := V.kp (H4.f8.f8.f8.f8.f8.f8.f8.f8)
   refine dK oH (fun W hW => (Kp.h hW).right.f7.f7.f7.f7.f7.f7.f7) ?_
   refine dS 17 O oH (fun _ => iJ (zl := [.string .empty, .slice none 0 0, .int .i64 0, .slice none 0 0]) (pl := [(0, 1), (1, 1), (2, 1), (3, 1)]) [_, _, _, _] jl zeroValue117 O (fun w => by kernel_rfl) O (.on (.one (Rd.one ((H4).aO)) (.on (.zero (zs := [.slice none 0 0]) O .nil)))) O) ?_
   refine iG 18 O oH O (dJ 19 O oH 3 fZ O rG O ?_)
   refine dF 20 O (by kernel_rfl) (dM 3 (l' := [_, _, _, _, _, _, _, _]) (us := [_, _, _, _]) H4.f2 rG O O O (aJ (bG (by first | rfl | exact Rd.one ((H4).aO)) (aJ (aJ dn)))) O O) ?_
   rintro _ w5 H5
   have D8 := V.kp (H5.f8.f8.f8.f8.f8.f8.f8.f8)
   refine gU D8 (by kernel_rfl) ?_
   have UA := H5.f2
   have QU := UA.oC
   have Ho8 := QU.f3.f3
   have Tf := V.adI (M := { M2 with name := name, keys := keys, n := n, typed := [] }) ⟨hkl, by show ([] : List Int).length ≤ 1024; decide, .inr ⟨hcg, hw, hn.1, hn.2⟩⟩ rfl Ho8
   refine lJ (aU (bI O (fP O (dL results74 O ?_))))
   exact ⟨_, _, M2, hQ, O, by first | (rw [U9 hcg hx0]; exact Tf.f2.right.f2.right.f4.f2.f4.f4) | (rw [JW (fun hc => absurd hc.2 (by assumption))]; exact Tf.f2.right.f2.right.f4.f2.f4.f4) | (rw [JW (fun hc => absurd (decide_eq_true hc.1) (by simp only [*]; decide))]; exact Tf.f2.right.f2.right.f4.f2.f4.f4)⟩
  ·(try simp only [Z] at h2)
   refine gy (bI O (fP O (dL results74 O ?_)))
   exact ⟨_, _, M2, hQ, O, by first | (rw [U9 hcg hx0]; exact H2.f4.f4.f4.f4) | (rw [JW (fun hc => absurd hc.2 (by assumption))]; exact H2.f4.f4.f4.f4) | (rw [JW (fun hc => absurd (decide_eq_true hc.1) (by simp only [*]; decide))]; exact H2.f4.f4.f4.f4)⟩
 ·(try simp only [Z] at h1)
  refine bK (bK (iH O O (iR (oL (gy (bI O (fP O (dL results74 O ?_))))))))
  exact ⟨_, _, M2, hQ, O, by first | (rw [U9 hcg hx0]; exact H2.f4.f4.f4.f4) | (rw [JW (fun hc => absurd hc.2 (by assumption))]; exact H2.f4.f4.f4.f4) | (rw [JW (fun hc => absurd (decide_eq_true hc.1) (by simp only [*]; decide))]; exact H2.f4.f4.f4.f4)⟩
theorem MF (s : bQ) (h : qE s) : 1 ≤ max s.count 1 ∧ max s.count 1 ≤ 1000000 := by
  have h := h.2.2.1
  unfold bQ.count
  dsimp only
  by_cases h1 : s.given = true <;> by_cases h2 : s.arg < 0 <;> by_cases h3 : s.minus = true <;> simp only [h1, h2, h3, if_true, if_false, Bool.false_eq_true] <;> omega
theorem Zg (H : V w0 w (dZ e s • F)) : qE s := by
  obtain ⟨pb, pr, pw, pt, pm, ph, bl, pv, es, u0, u1, u2, u3, u4, u5, u6, u7, u8, u9, ua, h, _⟩ := H.Jp
  exact h
theorem aaB (H : V w0 w (jW m M • dZ e s • F)) (hi : s.inn = false) (hk : jO w0 F .i32 kv keys) (hkl : keys.length * 4 ≤ 140737488355328) (hw : nT name keys = 0) (hone : U8 w0 name keys (max s.cZ.count 1) s.cZ.given s.cZ M Q) :
  jf prog 24 #[.pointer (some ⟨m, 0, none⟩), .pointer (some ⟨e, 0, none⟩), .string name, kv] w fun v w' => ∃ x t M', Q x t M' ∧ v = .int .i64 (t.Zf x) ∧ V w0 w' (jW m (M.doM M' name keys (max s.cZ.count 1) x (t.Zf x)) • dZ e (t.X7 x) • F) := by
 refine Ug func24 ntmps24 ?_
 refine kH O (aI (bf (bI O (dX O func69 (Ep H) ?_))))
 rintro _ _ ⟨rfl, rfl⟩
 refine bW O (bF (bW O (bF (dX O func70 (Jy H.f2 hi) ?_))))
 rintro _ w2 ⟨cl2, rfl, H2⟩
 refine bF (aV (kU bY O O) (iH O O (fO O (JF O (fun h1 => ?_)))))
 (try simp only [Z] at h1)
 refine bI O (bW O (dX O func16 (DW H2 (fun W HW => hk _ (HW.right.right))) ?_))
 rintro _ w3 ⟨rfl, H3⟩
 refine aV (fB O O) (fO O (bg O (fun h => by exfalso; (try simp only [Z] at h); rw [hw] at h; exact absurd h (by decide)) (fun h2 => ?_)))
 (try simp only [Z] at h2)
 refine bI O (bW O (dX O func16 (DW H3 (fun W HW => hk _ (HW.right.right))) ?_))
 rintro _ w4 ⟨rfl, H4⟩
 refine aV (fF O O) (fO O (bg O (fun h => by exfalso; (try simp only [Z] at h); exact h hw) (fun h3 => ?_)))
 (try simp only [Z] at h3)
 refine bU (aH (aU (aI (bI O (dX O func29 (KN H4) ?_)))))
 rintro _ w5 ⟨rfl, H5⟩
 refine fO O (bI O (aV (fF O O) (iW O (fun h => by exfalso; (try simp only [Z] at h); exact h (by unfold bQ.FW; rw [if_neg (by simp [hi])])) (fun h4 => ?_))))
 (try simp only [Z] at h4)
 refine gy (bI O (dX O func38 (U6 H5.f2) ?_))
 rintro _ w6 ⟨c6, rfl, H6⟩
 have hco := MF s.cZ (Zg H6.f3)
 refine fO O (bI O (jU O O (bW O (dX O func71 (qy H6 (fun W HW => hk _ (HW.right.right.right)) (by omega)) ?_))))
 rintro u7 w7 H7
 refine bW O (dX O func72 (UQ H7.f4) ?_)
 rintro _ w8 ⟨rfl, H8⟩
 refine aV (Ov O O) (bW O (dX O func73 (UR H8) ?_))
 rintro _ w9 ⟨rfl, H9⟩
 refine aV (iJ (zl := [.pointer none, .pointer none, .string .empty, .slice none 0 0, .int .i64 0, .bool false, .slice none 0 0, .int .i64 0]) (pl := [(0, 1), (1, 1), (2, 1), (3, 1), (4, 1), (5, 1), (6, 1), (7, 1)]) [_, _, _, _, _, _, _, _] aB zeroValue130 O (fun w => by kernel_rfl) O (.on (.on (.on (.one (Rd.one ((H9.f2).aO)) (.on (.on (.zero (zs := [.slice none 0 0]) O (.zero (zs := [.int .i64 0]) O .nil)))))))) O) ?_
 refine kV (kK (l := [_, _, _, _, _, _, _, _]) H9 O O) ?_
 rintro _ w10 ⟨b10, rfl, pG⟩
 refine fO O (bI O (dX O func28 (pU pG.f2) ?_))
 rintro _ FK ⟨u11, rfl, ru⟩
 refine kV (iO (l := [_, _, _]) ru zeroValue46 O) ?_
 rintro _ w12 ⟨b12, rfl, wQ⟩
 refine aQ (dM 0 (l' := [_, _, _]) (us := [_, _, _]) wQ sizeOf46 O O O (bG (by first | rfl | exact Rd.one ((wQ.f2).aO)) (aJ (aJ dn))) O O) ?_
 rintro _ OL wB
 refine rW ?_
 have Zh := wB.drew
 have CQ := V.kp (Zh.f4.right.f6.f6.f6.f6.f6.f6)
 refine nG [3, 5] CQ O (fD 0 O CQ O (fD 1 O CQ O (dJ 2 O CQ 0 fK O bD O (fM 3 O CQ (fun W hW => fQ ah O ((Kp.h hW)).get.2 O) (dJ 4 O CQ 1 fK O aj O (fM 5 O CQ (fun W hW => fQ aA O ((Kp.h hW)).get.2 O) (iG 6 O CQ O (dJ 7 O CQ 6 aB O bD O ?_))))))))
 refine dF 8 O (by kernel_rfl) (ig 6 (l' := [_, _, _, _, _, _, _, _]) Zh.f4 bD O O (by first | rfl | exact Rd.one ((Zh.f2).aO)) O O) ?_
 rintro _ OG rU
 have Ho := V.kp (rU.f7.f7.f7.f7.f7.f7.f7)
 refine dK Ho (fun W hW => (Kp.h hW).right.f6.f6.f6.f6.f6.f6) ?_
 refine iG 9 O Ho O (dJ 10 O Ho 7 aB O aj O ?_)
 refine dF 11 O (by kernel_rfl) (ig 7 (l' := [_, _, _, _, _, _, _, _]) rU aj O O (by first | rfl | assumption) O O) ?_
 rintro _ OM zV
 have zA := V.kp (zV.f7.f7.f7.f7.f7.f7.f7)
 refine gU zA (by kernel_rfl) ?_
 refine lJ (aU (bI O (dX O func74 (abN zV.f4.f7.f5.f4 (fun W HW => (HW.f2).aO) hone hkl hw hco) ?_)))
 rintro _ w16 ⟨x, t, M2, hQ, rfl, uT⟩
 refine tX O (bI O (aV (fB O O) (iW O (fun h5 => ?_) (fun h5 => ?_))))
 ·(try simp only [Z] at h5)
  have hx : x = 0 := h5
  refine aF (bW O (dX O func75 (U7 uT.f4.f2) ?_))
  rintro _ Yp ⟨rfl, BX⟩
  refine tX O (bI O (bW O (dX O func31 (JU BX.f2) ?_)))
  rintro _ ZO ⟨rfl, EW⟩
  refine fO O (bI O (aV (fF O O) (iW O (fun h6 => ?_) (fun h6 => ?_))))
  ·(try simp only [Z] at h6)
   obtain ⟨Io, GH, F9, oK, rP⟩ := (EW.f4).vm
   obtain ⟨ajL, ajM, ajN, Zi, Le⟩ := (rP.f10).vm
   refine aF (jU O O (dV O (aV (dH fZ O sizeOf119 O O (Le).get.2) (dV O (aQ (dM 0 (l' := [_, _, _, _, _, _, _, _]) (us := [_, _, _, _, _, _, _, _]) Le.f5 sizeOf119 O O O (aJ (aJ (aJ (aJ (bG (by first | rfl | exact Rd.one ((Le.f3).lK)) (aJ (bG (by first | rfl | exact Rd.one ((Le.f4).lK)) (aJ dn)))))))) O O) ?_)))))
   rintro _ w21 wP
   have aii := wP.f5.f5.f5.f4
   have abO := V.zW (M := M) Zi aii
   refine uS O (fP O (dL results24 O ?_))
   refine ⟨x, t, M2, hQ, by unfold bQ.Zf; first | rw [if_pos hx] | rw [if_neg hx], ?_⟩
   unfold VM.doM bQ.Zf bQ.X7
   first | (rw [if_pos hx, if_pos hx, if_pos (by assumption)]; exact abO.f2.right.f2.right.f2.right.f2.right.f3.right.f3.right.f3.right.f3.right.f2.f2) | (rw [if_pos hx, if_pos hx, if_neg (by assumption)]; exact abO.f2.right.f2.right.f2.right.f2.right.f3.right.f3.right.f3.right.f3.right.f2.f2) | (rw [if_neg hx, if_neg hx, if_pos (by assumption)]; exact abO.f2.right.f2.right.f2.right.f2.right.f3.right.f3.right.f3.right.f3.right.f2.f2) | (rw [if_neg hx, if_neg hx, if_neg (by assumption)]; exact abO.f2.right.f2.right.f2.right.f2.right.f3.right.f3.right.f3.right.f3.right.f2.f2)
  ·(try simp only [Z] at h6)
   refine gy (bI O (fP O (dL results24 O ?_)))
   refine ⟨x, t, M2, hQ, by unfold bQ.Zf; first | rw [if_pos hx] | rw [if_neg hx], ?_⟩
   unfold VM.doM bQ.Zf bQ.X7
   first | (rw [if_pos hx, if_pos hx, if_pos (by assumption)]; exact EW.f2.right.f2.right.f3.right.f3.right.f3.right.f2) | (rw [if_pos hx, if_pos hx, if_neg (by assumption)]; exact EW.f2.right.f2.right.f3.right.f3.right.f3.right.f2) | (rw [if_neg hx, if_neg hx, if_pos (by assumption)]; exact EW.f2.right.f2.right.f3.right.f3.right.f3.right.f2) | (rw [if_neg hx, if_neg hx, if_neg (by assumption)]; exact EW.f2.right.f2.right.f3.right.f3.right.f3.right.f2)
 ·(try simp only [Z] at h5)
  have hx : ¬ x = 0 := h5
  refine gy (aI (bI O (bW O (dX O func31 (JU uT.f4) ?_))))
  rintro _ w24 ⟨rfl, Kq⟩
  refine fO O (bI O (aV (fF O O) (iW O (fun h7 => ?_) (fun h7 => ?_))))
  ·(try simp only [Z] at h7)
   obtain ⟨Io, GH, F9, oK, rP⟩ := (Kq.f4).vm
   obtain ⟨ajL, ajM, ajN, Zi, Le⟩ := (rP.f10).vm
   refine aF (jU O O (dV O (aV (dH fZ O sizeOf119 O O (Le).get.2) (dV O (aQ (dM 0 (l' := [_, _, _, _, _, _, _, _]) (us := [_, _, _, _, _, _, _, _]) Le.f5 sizeOf119 O O O (aJ (aJ (aJ (aJ (bG (by first | rfl | exact Rd.one ((Le.f3).lK)) (aJ (bG (by first | rfl | exact Rd.one ((Le.f4).lK)) (aJ dn)))))))) O O) ?_)))))
   rintro _ w27 LV
   have ahO := LV.f5.f5.f5.f4
   have abf := V.zW (M := M) Zi ahO
   refine uS O (fP O (dL results24 O ?_))
   refine ⟨x, t, M2, hQ, by unfold bQ.Zf; first | rw [if_pos hx] | rw [if_neg hx], ?_⟩
   unfold VM.doM bQ.Zf bQ.X7
   first | (rw [if_pos hx, if_pos hx, if_pos (by assumption)]; exact abf.f2.right.f2.right.f2.right.f2.right.f3.right.f3.right.f3.right.f3.right.f2.f2) | (rw [if_pos hx, if_pos hx, if_neg (by assumption)]; exact abf.f2.right.f2.right.f2.right.f2.right.f3.right.f3.right.f3.right.f3.right.f2.f2) | (rw [if_neg hx, if_neg hx, if_pos (by assumption)]; exact abf.f2.right.f2.right.f2.right.f2.right.f3.right.f3.right.f3.right.f3.right.f2.f2) | (rw [if_neg hx, if_neg hx, if_neg (by assumption)]; exact abf.f2.right.f2.right.f2.right.f2.right.f3.right.f3.right.f3.right.f3.right.f2.f2)
  ·(try simp only [Z] at h7)
   refine gy (bI O (fP O (dL results24 O ?_)))
   refine ⟨x, t, M2, hQ, by unfold bQ.Zf; first | rw [if_pos hx] | rw [if_neg hx], ?_⟩
   unfold VM.doM bQ.Zf bQ.X7
   first | (rw [if_pos hx, if_pos hx, if_pos (by assumption)]; exact Kq.f2.right.f2.right.f3.right.f3.right.f3.right.f2) | (rw [if_pos hx, if_pos hx, if_neg (by assumption)]; exact Kq.f2.right.f2.right.f3.right.f3.right.f3.right.f2) | (rw [if_neg hx, if_neg hx, if_pos (by assumption)]; exact Kq.f2.right.f2.right.f3.right.f3.right.f3.right.f2) | (rw [if_neg hx, if_neg hx, if_neg (by assumption)]; exact Kq.f2.right.f2.right.f3.right.f3.right.f3.right.f2)
theorem afV (H : V w0 w (jW m M • dZ e s • F)) (hi : s.inn = false) (hk : jO w0 F .i32 kv keys) (hw : ¬ nT name keys = 0) :
    jf prog 24 #[.pointer (some ⟨m, 0, none⟩), .pointer (some ⟨e, 0, none⟩), .string name, kv] w fun v w' => v = .int .i64 (if nT name keys = -1 then 4 else 1) ∧ V w0 w' (jW m M • dZ e s • F) := by
  refine Ug func24 ntmps24 ?_
  refine kH O (aI (bf (bI O (dX O func69 (Ep H) ?_))))
  rintro _ _ ⟨rfl, rfl⟩
  refine bW O (bF (bW O (bF (dX O func70 (Jy H.f2 hi) ?_))))
  rintro _ w2 ⟨cl2, rfl, H2⟩
  refine bF (aV (kU bY O O) (iH O O (fO O (JF O (fun h1 => ?_)))))
  (try simp only [Z] at h1)
  refine bI O (bW O (dX O func16 (DW H2 (fun W HW => hk _ (HW.right.right))) ?_))
  rintro _ w3 ⟨rfl, H3⟩
  refine aV (fB O O) (fO O (bg O (fun h2 => ?_) (fun h2 => ?_)))
  · (try simp only [Z] at h2)
    have hm := h2
    refine jS O (aN (aC (dL results24 O ?_)))
    exact ⟨by rw [if_pos hm], H3.f2⟩
  · (try simp only [Z] at h2)
    have hm := h2
    refine bI O (bW O (dX O func16 (DW H3 (fun W HW => hk _ (HW.right.right))) ?_))
    rintro _ w4 ⟨rfl, H4⟩
    refine aV (fF O O) (fO O (bg O (fun h3 => ?_) (fun h => by exfalso; (try simp only [Z] at h); exact hw h)))
    (try simp only [Z] at h3)
    refine jS O (aN (aC (dL results24 O ?_)))
    exact ⟨by rw [if_neg hm], H4.f2⟩
end
end Go.Proofs.YtpdeedplgmbopaaGreatDoor
end
section
namespace Go.Proofs.YtpdeedplgmbopaaGreatDoor
open Go.RowKit Go.Lib
def afW : ByteArray := ⟨#[40, 91, 123, 41, 93, 125]⟩
def Xo : ByteArray := ⟨#[41, 93, 125]⟩
def Xp : ByteArray := ⟨#[40, 91, 123]⟩
def Fq (r : Int) : Int := if r = 40 then 0 else if r = 91 then 1 else if r = 123 then 2 else if r = 41 then 3 else if r = 93 then 4 else 5
theorem Oi {r : Int} (h : CJ r = true) : r = 40 ∨ r = 91 ∨ r = 123 ∨ r = 41 ∨ r = 93 ∨ r = 125 := by unfold CJ at h; simp at h; omega
theorem aaC {r : Int} : r ∈ EN afW ↔ CJ r = true := by
  rw [show EN afW = [40, 91, 123, 41, 93, 125] from by rfl]
  unfold CJ; simp; omega
theorem aij {r : Int} (h : CJ r = true) : indexByte afW.data.toList (r % 256).toNat.toUInt8 = Fq r := by
  rcases Oi h with rfl | rfl | rfl | rfl | rfl | rfl <;> rfl
theorem adL (r : Int) : 0 ≤ Fq r ∧ Fq r ≤ 5 := by
  unfold Fq
  repeat' split
  all_goals omega
theorem Oj {r : Int} (h : CJ r = true) (hk : Fq r < 3) : sb Xo (Fq r % 3).toNat = Me r ∧ KW r = 1 := by
  rcases Oi h with rfl | rfl | rfl | rfl | rfl | rfl <;> first | exact ⟨rfl, rfl⟩ | exact absurd hk (by decide)
theorem Ol {r : Int} (h : CJ r = true) (hk : 3 ≤ Fq r) : sb Xp (Fq r - 3).toNat = Me r ∧ KW r = -1 := by
  rcases Oi h with rfl | rfl | rfl | rfl | rfl | rfl <;> first | exact ⟨rfl, rfl⟩ | exact absurd hk (by decide)
theorem afX (r : Int) : KW r = 1 ∨ KW r = -1 := by unfold KW; split <;> simp
theorem afY {r : Int} (h : CJ r = true) : Me r ≠ r := by rcases Oi h with rfl | rfl | rfl | rfl | rfl | rfl <;> decide
theorem afZ (i : Nat) : 0 ≤ sb Xo i ∧ sb Xo i < 128 := agS (by decide) i
theorem af0 (i : Nat) : 0 ≤ sb Xp i ∧ sb Xp i < 128 := agS (by decide) i
def D5 (a b d x : Int) : Int := d + (if x = a then 1 else 0) - (if x = b then 1 else 0)
theorem abP {a b d x : Int} (h : D5 a b d x = 0) : Qb a b d x = none := if_pos h
theorem adM {a b d x : Int} (h : ¬ D5 a b d x = 0) : Qb a b d x = some (D5 a b d x) := if_neg h
theorem af1 {a b d x : Int} (h : x = a) (hab : b ≠ a) : D5 a b d x = d + 1 := by unfold D5; rw [if_pos h, if_neg (by omega)]; omega
theorem af2 {a b d x : Int} (h : ¬ x = a) (hb : x = b) : D5 a b d x = d - 1 := by unfold D5; rw [if_neg h, if_pos hb]; omega
theorem af3 {a b d x : Int} (h : ¬ x = a) (hb : ¬ x = b) : D5 a b d x = d := by unfold D5; rw [if_neg h, if_neg hb]; omega
theorem adN (a b d x : Int) : d - 1 ≤ D5 a b d x ∧ D5 a b d x ≤ d + 1 := by unfold D5; split <;> split <;> omega
section
variable {l : List Int} {x i j : Int}
theorem Xq (h : (l.length : Int) ≤ oJ (fun r => !CJ r) l x) : DU l x = (0, false, false) := if_pos h
theorem Jz (e : oJ (fun r => !CJ r) l x = i) (h : i < l.length) (hs : BN (KW (l.getD i.toNat 0)) (Qb (l.getD i.toNat 0) (Me (l.getD i.toNat 0))) l 0 i = none) : DU l x = (0, false, false) := by
  unfold DU; rw [e, if_neg (by omega), hs]
theorem Ru (e : oJ (fun r => !CJ r) l x = i) (h : i < l.length) (hs : BN (KW (l.getD i.toNat 0)) (Qb (l.getD i.toNat 0) (Me (l.getD i.toNat 0))) l 0 i = some j) : DU l x = (j, true, true) := by
  unfold DU; rw [e, if_neg (by omega), hs]
end
section
variable {w0 w : World} {F : HP} {v : Value} {l : List Int} {x n key c r : Int} {s : ByteArray}
theorem abQ (h : CJ r = true) : jf Tryz.prog 98 #[.string ⟨#[40, 91, 123, 41, 93, 125]⟩, .int .u8 (r % 256)] w fun v w' => v = .int .i64 (Fq r) ∧ w = w' := KZ.mono fun v w' h2 => ⟨h2.1.trans (congrArg (Value.int .i64) (aij h)), h2.2⟩
theorem Va (H : V w0 w F) (hr : jO w0 F .i32 v l) (hx : 0 ≤ x ∧ x ≤ l.length) (hl9 : l.length ≤ 4611686018427387904) : jf Tryz.prog 43 #[v, .int .i64 x] w fun u w' => u = abF (DU l x) ∧ V w0 w' F := by
 refine qo Tryz.func43 Tryz.ntmps43 ?_
 refine jg (gW O (gW O (tX O (bI O (fO O (bf ?_))))))
 refine iy [(0, _)] (fun (i : Int) => [(7, .int .i64 i)]) (fun (i : Int) W => ((0 ≤ i ∧ i ≤ l.length) ∧ oJ (fun r => !CJ r) l i = oJ (fun r => !CJ r) l x) ∧ V w0 W F) (fun (i : Int) => (l.length - i).toNat) (x) lH lH ⟨⟨hx, O⟩, H⟩ ?_
 rintro i w1 ⟨⟨hi, hE⟩, HL⟩
 dsimp only [List.cons_append, List.nil_append]
 refine aI (bI O (bW O (aV (gZ (hr _ (HL)) ah O) (aV (gG O O) (iW O (fun h1 => ?_) (fun h1 => ?_))))))
 ·(try simp only [Z] at h1)
  refine gy (aI (bf (aI (bI O (bW O ?_)))))
  obtain ⟨bv, ov, cv, ev⟩ := gB.qN (hr _ (HL)) (by omega)
  cases ev
  refine aV (dI ah bP O O (by omega)) ?_
  refine aV (dW (bV bC O) O (by first | exact gB.lN (hr _ (HL)) (by omega) | exact gB.uP (hr _ (HL)) (by omega) | exact gB.wO (hr _ (HL)) (by omega))) ?_
  refine dX O Tryz.func50 (AO (s := afW) (by decide)) ?_
  rintro _ _ ⟨rfl, rfl⟩
  refine aV (jR O) (iW O (fun h2 => ?_) (fun h2 => ?_))
  ·(try simp only [Z] at h2)
   have hno : CJ (l.getD i.toNat 0) = false := by have h9 := h2; rw [← Bool.not_eq_true, ← aaC]; simpa using h9
   refine dR (aP (bH (aU (aF (bW O (aV (fH O O (by omega)) (gW O (bT ?_))))))))
   refine dN (i + 1) ?_ ?_ ?_ ?_
   ·exact lH
   ·exact lH
   ·(try dsimp only)
    first | done | exact ⟨⟨by omega, (yJ hi.1 (by omega) (by show (!CJ _) = true; rw [hno]; rfl)).symm.trans hE⟩, HL⟩
   ·(try dsimp only); omega
  ·(try simp only [Z] at h2)
   have hbr : CJ (l.getD i.toNat 0) = true := by have h9 := h2; rw [← aaC]; simpa using h9
   have hR : oJ (fun r => !CJ r) l x = i := hE.symm.trans (qF hi.1 (by omega) (by show ¬ (!CJ _) = true; rw [hbr]; decide))
   have hkb := adL (l.getD i.toNat 0)
   refine gy (bI O (bW O (aV (dI ah bP O O (by omega)) ?_)))
   refine aV (dW (bV bC O) O (by first | exact gB.lN (hr _ (HL)) (by omega) | exact gB.uP (hr _ (HL)) (by omega) | exact gB.wO (hr _ (HL)) (by omega))) ?_
   refine aV (Tv O (by rw [Tryz.underlying21]; rfl) Tryz.underlying5) ?_
   refine dX O Tryz.func98 (abQ hbr) ?_
   rintro _ _ ⟨rfl, rfl⟩
   refine tX O ?_
   have aik := HL.drew
   have Qm := V.kp (aik)
   refine nG [2] Qm O (fD 0 O Qm O ?_)
   refine dS 1 O Qm (fun _ => ach O O (by omega) (by  omega)) ?_
   refine fM 2 O Qm (fun W hW => Ns iD O O (by exact ⟨by omega, by show _ < (3 : Int); omega⟩)) ?_
   refine dS 3 O Qm (fun _ => sV O (by rw [Tryz.underlying5]; rfl) bC (Ej (by have := afZ (Fq (l.getD i.toNat 0) % 3).toNat; show -2147483648 ≤ sb Xo _ ∧ sb Xo _ < 2147483648; omega))) ?_
   refine dS 4 O Qm (fun _ => aW O) (dS 5 O Qm (fun _ => aW O) (lJ (aU ?_)))
   refine kE [(0, _), (7, _)] (fun (_ : Unit) => [(9, .int .i64 (KW (l.getD i.toNat 0))), (10, .int .i32 (Me (l.getD i.toNat 0)))]) (fun (_ : Unit) W => V w0 W F) sG ?_ ?_
   ·rintro _ w4 HJ
    dsimp only [List.cons_append, List.nil_append]
    have hst := afX (l.getD i.toNat 0)
    have hne := afY hbr
    refine kH O (aI (bI O (fO O (bf ?_))))
    have hmi := MB (n := l.length) (i := i) hst (by omega) (by omega)
    refine iy [(0, _), (7, _), (9, _), (10, _)] (fun (⟨j, d⟩ : Int × Int) => [(11, .int .i64 d), (12, .int .i64 j)]) (fun (⟨j, d⟩ : Int × Int) W => ((-1 ≤ j ∧ j ≤ l.length) ∧ (d + Jv (KW (l.getD i.toNat 0)) l.length j ≤ l.length + 1 ∧ Jv (KW (l.getD i.toNat 0)) l.length j - d ≤ l.length + 1) ∧ BN (KW (l.getD i.toNat 0)) (Qb (l.getD i.toNat 0) (Me (l.getD i.toNat 0))) l 0 i = BN (KW (l.getD i.toNat 0)) (Qb (l.getD i.toNat 0) (Me (l.getD i.toNat 0))) l d j) ∧ V w0 W F) (fun (⟨j, d⟩ : Int × Int) => (Jv (KW (l.getD i.toNat 0)) l.length j).toNat) ((i, 0)) FC sG ⟨⟨by omega, by omega, O⟩, HJ⟩ ?_
    rintro ⟨j, d⟩ w5 ⟨⟨hj, hd, hF⟩, HM⟩
    dsimp only [List.cons_append, List.nil_append]
    have hms := Qd (n := l.length) (i := j) hst
    have hmp := fun h0 h1 => MB (n := l.length) (i := j) hst h0 h1
    have hdb := adN (l.getD i.toNat 0) (Me (l.getD i.toNat 0)) d (l.getD j.toNat 0)
    refine aI (bI O (aV (mJ O O) (jY O (fun h3 => ?_) (fun h3 => ?_))))
    ·(try simp only [Z] at h3)
     refine bF (bW O (bF (bW O (bF (aV (jd ah O) (bF (aV (gG O O) (jQ O O (iW O (fun h4 => ?_) (fun h4 => ?_))))))))))
     ·(try simp only [Z] at h4)
      refine gy (aI (bf ?_))
      refine kE [(0, _), (7, _), (9, _), (10, _), (12, _), (46, _), (47, _), (48, _), (49, _)] (fun (_ : Unit) => [(11, .int .i64 (D5 (l.getD i.toNat 0) (Me (l.getD i.toNat 0)) d (l.getD j.toNat 0)))]) (fun (_ : Unit) W => V w0 W F) (Sub.cons O (Sub.cons O (Sub.cons O sb6))) ?_ ?_
      ·rintro _ w6 HK
       dsimp only [List.cons_append, List.nil_append]
       refine bI O (aV (fB O O) (iW O (fun h5 => ?_) (fun h5 => ?_)))
       ·(try simp only [Z] at h5)
        have hd0 : D5 (l.getD i.toNat 0) (Me (l.getD i.toNat 0)) d (l.getD j.toNat 0) = 0 := h5
        refine bI O (gW O (gW O (fP O (aN (aC (aC (aN (aC (aN (aC (aC (aN (aC ?_)))))))))))))
        refine dU (.inl O) Tryz.results43 O O O ?_
        exact ⟨by rw [Ru hR (by omega) (hF.trans (I4 (by omega) (by omega) (abP hd0)))]; rfl, HK⟩
       ·(try simp only [Z] at h5)
        have hd0 : ¬ D5 (l.getD i.toNat 0) (Me (l.getD i.toNat 0)) d (l.getD j.toNat 0) = 0 := h5
        refine bU (aH (aU (aF (jU O O (aV (fH O O (by omega)) (gW O (bT ?_)))))))
        refine dN (_, _) sG FC (by (try dsimp only); exact ⟨⟨by omega, by omega, hF.trans (Qa hst (by omega) (by omega) (adM hd0))⟩, HK⟩) ?_
        ·(try dsimp only); have := hmp (by omega) (by omega); omega
      ·skip
       refine aI ?_
       have hmq := hmp (by omega) (by omega)
       refine aF (jU O O (aV (dI ah bP O O (by omega)) ?_))
       refine aV (dW (bV bC O) O (by first | exact gB.lN (hr _ (HM)) (by omega) | exact gB.uP (hr _ (HM)) (by omega) | exact gB.wO (hr _ (HM)) (by omega))) ?_
       refine iR (bf (bI O (bW O (aV (dI ah bP O O (by omega)) ?_))))
       refine aV (dW (bV bC O) O (by first | exact gB.lN (hr _ (HM)) (by omega) | exact gB.uP (hr _ (HM)) (by omega) | exact gB.wO (hr _ (HM)) (by omega))) ?_
       refine aV (fB O O) (fO O (bg O (fun h6 => ?_) (fun h6 => ?_)))
       ·(try simp only [Z] at h6)
        have ha : l.getD j.toNat 0 = l.getD i.toNat 0 := h6
        have hdN := af1 (d := d) ha hne
        refine aF (bW O (aV (fH O O (by omega)) (gW O (bT (aH ?_)))))
        refine dG (()) ?_ ?_ ?_
        ·exact (Sub.kJ O (by rw [hdN]) (Sub.nil _))
        ·exact (Sub.cons O (Sub.cons O (Sub.cons O sb6)))
        ·(try dsimp only)
         first | done | exact HM
       ·(try simp only [Z] at h6)
        have ha : ¬ l.getD j.toNat 0 = l.getD i.toNat 0 := h6
        refine bI O (aV (fB O O) (fO O (bg O (fun h7 => ?_) (fun h7 => ?_))))
        ·(try simp only [Z] at h7)
         have hdN := af2 (d := d) ha h7
         refine aF (bW O (aV (jJ O O (by omega)) (gW O (bT (aH ?_)))))
         refine dG (()) ?_ ?_ ?_
         ·exact (Sub.kJ O (by rw [hdN]) (Sub.nil _))
         ·exact (Sub.cons O (Sub.cons O (Sub.cons O sb6)))
         ·(try dsimp only)
          first | done | exact HM
        ·(try simp only [Z] at h7)
         have hdN := af3 (d := d) ha h7
         refine bU (aH ?_)
         refine dG (()) ?_ ?_ ?_
         ·exact (Sub.kJ O (by rw [hdN]) (Sub.nil _))
         ·exact (Sub.cons O (Sub.cons O (Sub.cons O sb6)))
         ·(try dsimp only)
          first | done | exact HM
     ·(try simp only [Z] at h4)
      refine dR (aP (aP (bH (aU (jg (gW O (gW O (fP O (aN (aC (aC (aN (aC ?_)))))))))))))
      refine dU (.inl O) Tryz.results43 O O O ?_
      exact ⟨by rw [Jz hR (by omega) (hF.trans (IZ (by omega)))]; rfl, HM⟩
    ·(try simp only [Z] at h3)
     refine bK (bK (bK (bK (iH O O (iR (oL (dR (aP (aP (bH (aU (jg (gW O (gW O (fP O (aN (aC (aC (aN (aC ?_))))))))))))))))))))
     refine dU (.inl O) Tryz.results43 O O O ?_
     exact ⟨by rw [Jz hR (by omega) (hF.trans (IZ (by omega)))]; rfl, HM⟩
   ·skip
    refine bI O (aV (mJ O O) (iW O (fun h8 => ?_) (fun h8 => ?_)))
    ·(try simp only [Z] at h8)
     have hk3 : 3 ≤ Fq (l.getD i.toNat 0) := h8
     have ajO := aik.drew
     have Qn := V.kp (ajO)
     refine nG [2] Qn O (fD 0 O Qn O (dS 1 O Qn (fun _ => jJ O O (by omega)) ?_))
     refine fM 2 O Qn (fun W hW => Ns iD O O (by exact ⟨by omega, by show _ < (3 : Int); omega⟩)) ?_
     refine dS 3 O Qn (fun _ => sV O (by rw [Tryz.underlying5]; rfl) bC (Ej (by have := af0 (Fq (l.getD i.toNat 0) - 3).toNat; show -2147483648 ≤ sb Xp _ ∧ sb Xp _ < 2147483648; omega))) ?_
     refine dS 4 O Qn (fun _ => aW O) (dS 5 O Qn (fun _ => aW O) (lJ ?_))
     refine dG (()) ?_ ?_ ?_
     ·exact (Sub.kJ O (by first | exact congrArg (Value.int .i64) (Oj hbr (by assumption)).2.symm | exact congrArg (Value.int .i64) (Ol hbr (by assumption)).2.symm) (Sub.kJ O (by first | exact congrArg (Value.int .i32) (Oj hbr (by assumption)).1 | exact congrArg (Value.int .i32) (Ol hbr (by assumption)).1) (Sub.nil _)))
     ·exact sG
     ·(try dsimp only)
      first | done | exact ajO
    ·(try simp only [Z] at h8)
     have hk3 : Fq (l.getD i.toNat 0) < 3 := by have h9 := h8; omega
     refine bU ?_
     refine dG (()) ?_ ?_ ?_
     ·exact (Sub.kJ O (by first | exact congrArg (Value.int .i64) (Oj hbr (by assumption)).2.symm | exact congrArg (Value.int .i64) (Ol hbr (by assumption)).2.symm) (Sub.kJ O (by first | exact congrArg (Value.int .i32) (Oj hbr (by assumption)).1 | exact congrArg (Value.int .i32) (Ol hbr (by assumption)).1) (Sub.nil _)))
     ·exact sG
     ·(try dsimp only)
      first | done | exact aik
 ·(try simp only [Z] at h1)
  refine dR (aP (aP (bH (aU (jg (gW O (gW O (fP O ?_))))))))
  refine dU (.inl O) Tryz.results43 O O O ?_
  exact ⟨by rw [Xq (by rw [← hE, mO (by omega)]; omega)]; rfl, HL⟩
end
end Go.Proofs.YtpdeedplgmbopaaGreatDoor
end
section
namespace Go.Proofs.YtpdeedplgmbopaaGreatDoor
open Go.RowKit
open _root_.Go.Proofs.Tryz
def Qo (w0 : World) (fv : Value) (g : List Int → Int → Bool → Int) (I : List Int → Int → Prop) : Prop := fv.oneCell' = true ∧ ∀ (F : HP) (W : World) (v : Value) (l : List Int) (x : Int) (b : Bool), V w0 W F → jO w0 F .i32 v l → l.length ≤ 4611686018427387904 → I l x →
  zo prog fv [v, .int .i64 x, .bool b] W fun u W' => (u = .int .i64 (g l x b) ∧ I l (g l x b)) ∧ V w0 W' F
def aaD (w0 : World) (fv : Value) (m : List Int → Int → Bool) : Prop := fv.oneCell' = true ∧ ∀ (F : HP) (W : World) (v : Value) (l : List Int) (x : Int), V w0 W F → jO w0 F .i32 v l →
  zo prog fv [v, .int .i64 x] W fun u W' => u = .bool (m l x) ∧ V w0 W' F
def inL (l : List Int) (x : Int) : Prop := 0 ≤ x ∧ x ≤ l.length
def ajP (l : List Int) (x : Int) : Prop := 0 ≤ x ∧ x < l.length
section
variable {w0 : World}
theorem TK (hT : Bq w0) : Qo w0 (.func (.func 95) #[] #[]) En inL :=
  ⟨rfl, fun F W v l x b H hr hl hx => ⟨95, [], [], _, _, rfl, func95, rfl, rfl, (abD H hr hT hx.1 hx.2).mono fun u W' h => ⟨⟨h.1, by have := adz l b hx.1 hx.2; exact ⟨Int.le_trans hx.1 this.1, this.2⟩⟩, h.2⟩⟩⟩
theorem TL (hT : Bq w0) : Qo w0 (.func (.func 96) #[] #[]) Gu inL :=
  ⟨rfl, fun F W v l x b H hr hl hx => ⟨96, [], [], _, _, rfl, func96, rfl, rfl, (abE H hr hT hx.1 hx.2).mono fun u W' h => ⟨⟨h.1, by have := adA l b hx.1 hx.2; exact ⟨this.1, Int.le_trans this.2 hx.2⟩⟩, h.2⟩⟩⟩
theorem step_end (hT : Bq w0) : Qo w0 (.func (.func 97) #[] #[]) NW ajP :=
  ⟨rfl, fun F W v l x b H hr hl hx => ⟨97, [], [], _, _, rfl, func97, rfl, rfl, (ady H hr hT hx.1 (Int.le_of_lt hx.2) hl).mono fun u W' h => ⟨⟨h.1, by have := afQ l b hx.1 hx.2; exact ⟨Int.le_trans hx.1 this.1, this.2⟩⟩, h.2⟩⟩⟩
end
section
variable {w0 w : World} {F : HP} {v : Value} {l : List Int} {x : Int}
theorem Zj (H : V w0 w F) (hr : jO w0 F .i32 v l) : jf prog 92 #[v, .int .i64 x] w fun u w' => u = .bool (decide (x < l.length)) ∧ V w0 w' F := by
  refine qo func92 ntmps92 ?_
  refine kH O (bI O (bW O (aV (gZ (hr _ (H)) ah O) (aV (gG O O) (fP O (dL results92 O ?_))))))
  exact ⟨O, H⟩
theorem abR (H : V w0 w F) (hr : jO w0 F .i32 v l) : jf prog 93 #[v, .int .i64 x] w fun u w' => u = .bool (decide (0 < x)) ∧ V w0 w' F := by
  refine qo func93 ntmps93 ?_
  refine kH O (bI O (aV (gK O O) (fP O (dL results93 O ?_))))
  exact ⟨O, H⟩
theorem Zk (H : V w0 w F) (hr : jO w0 F .i32 v l) : jf prog 94 #[v, .int .i64 x] w fun u w' => u = .bool (decide (x < (l.length : Int) - 1)) ∧ V w0 w' F := by
  have hl9 : l.length ≤ 9223372036854775807 := by have := (hr _ H).open; obtain ⟨a, c, e, h3, h4, _⟩ := this; omega
  refine qo func94 ntmps94 ?_
  refine kH O (bI O (bW O (aV (gZ (hr _ (H)) ah O) (aV (jJ O O (by omega)) (aV (gG O O) (fP O (dL results94 O ?_)))))))
  exact ⟨O, H⟩
end
section
variable {w0 : World}
theorem Qp : aaD w0 (.func (.func 92) #[] #[]) fun l x => decide (x < l.length) := ⟨rfl, fun F W v l x H hr => ⟨92, [], [], _, _, rfl, func92, rfl, rfl, Zj H hr⟩⟩
theorem TM : aaD w0 (.func (.func 93) #[] #[]) fun l x => decide (0 < x) := ⟨rfl, fun F W v l x H hr => ⟨93, [], [], _, _, rfl, func93, rfl, rfl, abR H hr⟩⟩
theorem Qq : aaD w0 (.func (.func 94) #[] #[]) fun l x => decide (x < (l.length : Int) - 1) := ⟨rfl, fun F W v l x H hr => ⟨94, [], [], _, _, rfl, func94, rfl, rfl, Zk H hr⟩⟩
end
section
variable {w0 w : World} {F : HP} {v fv : Value} {l : List Int} {x n : Int} {g : Int → Int} {I : Int → Prop}
theorem Zl (H : V w0 w F) (hf : ∀ W y, V w0 W F → I y → zo prog fv [.int .i64 y] W fun u W' => (u = .int .i64 (g y) ∧ I (g y)) ∧ V w0 W' F) (hx : I x) (hn : n ≤ 9223372036854775807) : jf prog 90 #[.int .i64 x, .int .i64 n, fv] w fun u w' => u = .int .i64 (Fj g n.toNat x) ∧ V w0 w' F := by
 refine EU func90 ntmps90 ?_
 refine kH O (aI (bI O (bW O (iR (bf ?_)))))
 refine iy [(2, _), (8, _)] (fun (⟨k, y⟩ : Nat × Int) => [(0, .int .i64 y), (9, .int .i64 (k : Int))]) (fun (⟨k, y⟩ : Nat × Int) W => ((k : Int) ≤ max n 0 ∧ I y ∧ Fj g n.toNat x = Fj g (n.toNat - k) y) ∧ V w0 W F) (fun (⟨k, y⟩ : Nat × Int) => n.toNat - k) ((0, x)) sG sG ⟨⟨by omega, hx, O⟩, H⟩ ?_
 rintro ⟨k, y⟩ w1 ⟨⟨hk, hy, he⟩, HL⟩
 dsimp only [List.cons_append, List.nil_append]
 refine jg (aV (gG O O) (rW (bg O (fun h1 => ?_) (fun h1 => ?_))))
 ·(try simp only [Z] at h1)
  refine gy (aI (bf (bI O (bW O (kV (uF O O (hf _ _ HL hy)) ?_)))))
  rintro _ w2 ⟨⟨rfl, hgy⟩, H2⟩
  refine tX O (bI O (bW O (aV (fB O O) (iW O (fun h2 => ?_) (fun h2 => ?_)))))
  ·(try simp only [Z] at h2)
   have heq : g y = y := h2
   refine dR (aP ?_)
   refine Ew (by decide) ?_
   refine aP (aP (bH (aU (bI O (fP O (dL results90 O ?_))))))
   exact ⟨by rw [he]; first | rw [Qc heq] | (rw [show n.toNat - k = 0 from by omega]; rfl), H2⟩
  ·(try simp only [Z] at h2)
   have hne : ¬ g y = y := h2
   refine gy (aF (bW O (gW O (bT (aH (aU (aF (aV (fH O O (by omega)) (bW O (bT ?_))))))))))
   refine dN ((k + 1, g y)) ?_ ?_ ?_ ?_
   ·exact sG
   ·exact sG
   ·(try dsimp only)
    first | done | exact ⟨⟨by omega, hgy, by rw [he, Y7 (by omega) hne]; rfl⟩, H2⟩
   ·(try dsimp only); omega
 ·(try simp only [Z] at h1)
  refine dR (aP (aP (bH (aU (bI O (fP O (dL results90 O ?_)))))))
  exact ⟨by rw [he]; first | rw [Qc heq] | (rw [show n.toNat - k = 0 from by omega]; rfl), HL⟩
end
structure MP where
  ps : Nat
  pb : Nat
  pw : Nat
  pm : Nat
def Xt (p : MP) : Value := .func (.func 89) #[] #[.pointer (some ⟨p.pm, 0, none⟩), .pointer (some ⟨p.ps, 0, none⟩), .pointer (some ⟨p.pb, 0, none⟩), .pointer (some ⟨p.pw, 0, none⟩)]
def tC (p : MP) (sv : Value) (b t : Bool) (mv : Value) : HP := gJ p.pm (.cells #[mv] 66 (0, 0)) • gJ p.pw (.cells #[.bool t] 4 (0, 0)) • gJ p.pb (.cells #[.bool b] 4 (0, 0)) • gJ p.ps (.cells #[sv] 141 (0, 0))
section
variable {w0 w : World} {F : HP} {v sv mv : Value} {l : List Int} {x n : Int} {b t : Bool} {p : MP} {ps pl pb pw pm : Nat} {g : List Int → Int → Bool → Int} {I : List Int → Int → Prop} {m : List Int → Int → Bool}
theorem Zm (H : V w0 w (gJ ps (.cells #[sv] 141 (0, 0)) • gJ pl (.cells #[v] 22 (0, 0)) • gJ pb (.cells #[.bool b] 4 (0, 0)) • F)) (hf : Qo w0 sv g I) (hr : jO w0 F .i32 v l) (hl : l.length ≤ 4611686018427387904) (hx : I l x) :
    jf prog 91 #[.int .i64 x, .pointer (some ⟨ps, 0, none⟩), .pointer (some ⟨pl, 0, none⟩), .pointer (some ⟨pb, 0, none⟩)] w fun u w' => (u = .int .i64 (g l x b) ∧ I l (g l x b)) ∧ V w0 w' (gJ ps (.cells #[sv] 141 (0, 0)) • gJ pl (.cells #[v] 22 (0, 0)) • gJ pb (.cells #[.bool b] 4 (0, 0)) • F) := by
  refine xqR func91 ntmps91 ?_
  dsimp only [Dv, Nat.reduceAdd]
  refine kH O (jg (eH underlying141 O (H).get.2 O (eH ah O (H.f2).get.2 O (bW O (eH bJ O (H.f3).get.2 O (kV (uF O O (hf.2 _ _ _ l _ _ H (fun W HW => hr _ (HW.right.right.right)) hl hx)) ?_))))))
  rintro _ w1 ⟨⟨rfl, hgx⟩, H1⟩
  refine fP O (dL results91 O ?_)
  exact ⟨⟨O, hgx⟩, H1⟩
theorem Fv (H : V w0 w (tC p sv b t mv • F)) (hf : Qo w0 sv g I) (hm : aaD w0 mv m) (hI : ∀ y, m l y = true → inL l y → I l y) (hr : jO w0 F .i32 v l) (hl : l.length ≤ 4611686018427387904) (hx : inL l x) (hn : n ≤ 9223372036854775807) :
  zo prog (Xt p) [v, .int .i64 x, .int .i64 n] w fun u w' => u = abF (if m l x = true then (Fj (fun y => g l y b) n.toNat x, t, true) else (0, false, false)) ∧ V w0 w' (tC p sv b t mv • F) := by
 obtain ⟨ps, pb, pw, pm⟩ := p
 refine ⟨_, [], _, _, _, O, func89, O, O, ?_⟩
 have H0 : V w0 w (gJ pm (.cells #[mv] 66 (0, 0)) • gJ pw (.cells #[.bool t] 4 (0, 0)) • gJ pb (.cells #[.bool b] 4 (0, 0)) • gJ ps (.cells #[sv] 141 (0, 0)) • F) := H.of_eq (by unfold tC; simp only [dY])
 have hback : ∀ {W : World}, V w0 W (gJ pm (.cells #[mv] 66 (0, 0)) • gJ pw (.cells #[.bool t] 4 (0, 0)) • gJ pb (.cells #[.bool b] 4 (0, 0)) • gJ ps (.cells #[sv] 141 (0, 0)) • F) → V w0 W (tC ⟨ps, pb, pw, pm⟩ sv b t mv • F) := fun h => h.of_eq (by unfold tC; simp only [dY])
 simp only [List.nil_append, List.cons_append]
 refine xqR func89 ntmps89 ?_
 dsimp only [Dv, Nat.reduceAdd]
 refine jg (kV (kK (l := [_]) H0 O (by first | rfl | exact IJ (by first | rfl | exact Rd.one (hr _ (H0.right.right.right.right))))) ?_)
 rintro _ w1 ⟨b1, rfl, H1⟩
 refine gW O (gW O (tX O (jg (eH underlying66 O (H1.f2).get.2 O (eH ah O (H1).get.2 O (bW O (kV (uF O O (hm.2 _ _ _ l _ H1 (fun W HW => hr _ (HW.right.right.right.right.right)))) ?_)))))))
 rintro _ w2 ⟨rfl, H2⟩
 refine aV (jR O) (iW O (fun h1 => ?_) (fun h1 => ?_))
 ·(try simp only [Z] at h1)
  have hno : ¬ m l x = true := by have h9 := h1; simpa using h9
  refine jg (gW O (gW O (fP O (aC ?_))))
  refine dU (.inl O) results89 O O O ?_
  exact ⟨by rw [if_neg hno]; rfl, hback H2.right.f4.f4.f4.f4⟩
 ·(try simp only [Z] at h1)
  have hyes : m l x = true := by have h9 := h1; simpa using h9
  refine gy (aI ?_)
  have ED := H2.drew
  have jh := V.kp (ED.f5.f5.f5.f5.f5)
  refine nG [4] jh O (fD 0 O jh O (fD 1 O jh O (dS 2 O jh (fun _ => Dw O O) (fM 4 O jh (fun W hW => fQ bJ O ((Kp.h hW).f3).get.2 O) (ny 3 O (wM O func90 (Zl (g := fun y => g l y b) (I := I l) ED (fun W y HW hy => ⟨_, [], _, _, _, O, func91, O, O, (Zm (F := gJ pm (.cells #[mv] 66 (0, 0)) • gJ pw (.cells #[.bool t] 4 (0, 0)) • F) (HW.of_eq (by ac_rfl)) hf (fun W HW => hr W HW.right.right) hl hy).mono fun u W2 h => ⟨h.1, h.2.of_eq (by ac_rfl)⟩⟩) (hI x hyes hx) hn)) ?_)))))
  rintro _ w3 ⟨rfl, H3⟩
  have uQ := V.kp (H3.f5.f5.f5.f5.f5)
  refine dK uQ (fun W hW => (Kp.h hW).f5.f5.f5.f5.f5) ?_
  refine dS 5 O uQ (fun _ => aW O) (dS 6 O uQ (fun _ => aW O) (dS 7 O uQ (fun _ => aW O) (lJ (aU (iL ?_)))))
  refine dU (.inl O) results89 O O O ?_
  exact ⟨by rw [if_pos hyes]; rfl, hback H3.right.f4.f4.f4.f4⟩
end
def wo (k : Nat) : Value := .func (.func k) #[] #[]
def Nv (q1 q2 q3 q4 q5 q6 : MP) : HP := tC q6 (wo 97) true true (wo 94) • tC q5 (wo 97) false true (wo 94) • tC q4 (wo 96) true false (wo 93) • tC q3 (wo 96) false false (wo 93) • tC q2 (wo 95) true false (wo 92) • tC q1 (wo 95) false false (wo 92)
def Iq (q1 q2 q3 q4 q5 q6 : MP) : Int → Option Value := upd (upd (upd (upd (upd (upd (fun _ => none) 119 (Xt q1)) 87 (Xt q2)) 98 (Xt q3)) 66 (Xt q4)) 101 (Xt q5)) 69 (Xt q6)
section
variable {w0 w : World} {F : HP} {v sv mv : Value} {l : List Int} {x n key : Int} {b t : Bool} {q1 q2 q3 q4 q5 q6 : MP}
theorem MG {k1 k2 : Nat} (H : V w0 w F) : zo prog (wo 88) [wo k1, .bool b, .bool t, wo k2] w fun u w' => ∃ p, u = Xt p ∧ V w0 w' (tC p (wo k1) b t (wo k2) • F) := by
  refine ⟨_, [], [], _, _, O, func88, O, O, ?_⟩
  simp only [List.nil_append, List.append_nil]
  refine Ug func88 ntmps88 ?_
  refine jg (kV (kK (l := [_]) H O O) ?_)
  rintro _ w1 ⟨b1, rfl, H1⟩
  refine kV (kK (l := [_]) H1 O O) ?_
  rintro _ w2 ⟨b2, rfl, H2⟩
  refine kV (kK (l := [_]) H2 O O) ?_
  rintro _ w3 ⟨b3, rfl, H3⟩
  refine kV (kK (l := [_]) H3 O O) ?_
  rintro _ w4 ⟨b4, rfl, H4⟩
  refine fO O (jg (aV (Dw O O) (fP O (dL results88 O ?_))))
  exact ⟨⟨_, _, _, _⟩, O, (H4).of_eq (by unfold tC; simp only [dY])⟩
theorem zo.mono {P : Program} {fv : Value} {vs : List Value} {w : World} {T T' : Value → World → Prop} (h : zo P fv vs w T) (k : ∀ v w', T v w' → T' v w') : zo P fv vs w T' := by
  obtain ⟨f, a, c, fn, b, h1, h2, h3, h4, h5⟩ := h
  exact ⟨f, a, c, fn, b, h1, h2, h3, h4, h5.mono k⟩
theorem Zn (H : V w0 w F) : jf prog 39 #[] w fun u w' => ∃ b q1 q2 q3 q4 q5 q6, u = .map (some b) ∧ V w0 w' (jv (DN .i32) b (Iq q1 q2 q3 q4 q5 q6) • Nv q1 q2 q3 q4 q5 q6 • F) := by
  refine aaY func39 ntmps39 ?_
  refine kH O (kH O (kH O (kH O (kH O (jg (kV (mY (DN .i32) H) ?_))))))
  rintro _ w1 ⟨b1, rfl, H1⟩
  refine jU O O (kV (uF O O (MG (k1 := 95) (k2 := 92) H1)) ?_)
  rintro _ w2 ⟨q1, rfl, H2⟩
  refine aQ (Fh H2.f2 tH bC O O O) ?_
  rintro _ w3 H3
  refine jU O O (kV (uF O O (MG (k1 := 95) (k2 := 92) H3)) ?_)
  rintro _ w4 ⟨q2, rfl, H4⟩
  refine aQ (Fh H4.f2 tH bC O O O) ?_
  rintro _ w5 H5
  refine jU O O (kV (uF O O (MG (k1 := 96) (k2 := 93) H5)) ?_)
  rintro _ w6 ⟨q3, rfl, H6⟩
  refine aQ (Fh H6.f2 tH bC O O O) ?_
  rintro _ w7 H7
  refine jU O O (kV (uF O O (MG (k1 := 96) (k2 := 93) H7)) ?_)
  rintro _ w8 ⟨q4, rfl, H8⟩
  refine aQ (Fh H8.f2 tH bC O O O) ?_
  rintro _ w9 H9
  refine jU O O (kV (uF O O (MG (k1 := 97) (k2 := 94) H9)) ?_)
  rintro _ w10 ⟨q5, rfl, pG⟩
  refine aQ (Fh pG.f2 tH bC O O O) ?_
  rintro _ FK ru
  refine jU O O (kV (uF O O (MG (k1 := 97) (k2 := 94) ru)) ?_)
  rintro _ w12 ⟨q6, rfl, wQ⟩
  refine aQ (Fh wQ.f2 tH bC O O O) ?_
  rintro _ OL wB
  refine bW O (fP O (dL results39 O ?_))
  exact ⟨_, q1, q2, q3, q4, q5, q6, O, (wB).of_eq (by unfold Nv; simp only [dY]; rfl)⟩
theorem Xu (h : ¬ (key = 119 ∨ key = 87 ∨ key = 98 ∨ key = 66 ∨ key = 101 ∨ key = 69)) : Iq q1 q2 q3 q4 q5 q6 key = none := by
  unfold Iq upd
  rw [if_neg (by omega), if_neg (by omega), if_neg (by omega), if_neg (by omega), if_neg (by omega), if_neg (by omega)]
theorem Xv (h : key = 119 ∨ key = 87 ∨ key = 98 ∨ key = 66 ∨ key = 101 ∨ key = 69) : (Iq q1 q2 q3 q4 q5 q6 key).isSome = true := by
  rcases h with rfl | rfl | rfl | rfl | rfl | rfl <;> rfl
theorem Xw (H : V w0 w (Nv q1 q2 q3 q4 q5 q6 • F)) (hk : key = 119 ∨ key = 87 ∨ key = 98 ∨ key = 66 ∨ key = 101 ∨ key = 69) (hT : Bq w0) (hr : jO w0 F .i32 v l) (hl : l.length ≤ 4611686018427387904) (hx : inL l x) (hn : n ≤ 9223372036854775807) (z : Value) :
    zo prog ((Iq q1 q2 q3 q4 q5 q6 key).getD z) [v, .int .i64 x, .int .i64 n] w fun u w' => u = abF (DV l x key n) ∧ V w0 w' (Nv q1 q2 q3 q4 q5 q6 • F) := by
  unfold Nv at H ⊢
  have hI1 : ∀ y, decide (y < (l.length : Int) - 1) = true → inL l y → ajP l y := fun y h1 h2 => ⟨h2.1, by have := of_decide_eq_true h1; omega⟩
  rcases hk with rfl | rfl | rfl | rfl | rfl | rfl
  · refine zo.mono (Fv (p := q1) (F := tC q6 (wo 97) true true (wo 94) • tC q5 (wo 97) false true (wo 94) • tC q4 (wo 96) true false (wo 93) • tC q3 (wo 96) false false (wo 93) • tC q2 (wo 95) true false (wo 92) • F) (H.of_eq (by ac_rfl)) (TK hT) Qp (fun y h1 h2 => h2) (fun W HW => hr W HW.right.right.right.right.right) hl hx hn) fun u W h => ⟨h.1.trans (by unfold DV; simp), h.2.of_eq (by ac_rfl)⟩
  · refine zo.mono (Fv (p := q2) (F := tC q6 (wo 97) true true (wo 94) • tC q5 (wo 97) false true (wo 94) • tC q4 (wo 96) true false (wo 93) • tC q3 (wo 96) false false (wo 93) • tC q1 (wo 95) false false (wo 92) • F) (H.of_eq (by ac_rfl)) (TK hT) Qp (fun y h1 h2 => h2) (fun W HW => hr W HW.right.right.right.right.right) hl hx hn) fun u W h => ⟨h.1.trans (by unfold DV; simp), h.2.of_eq (by ac_rfl)⟩
  · refine zo.mono (Fv (p := q3) (F := tC q6 (wo 97) true true (wo 94) • tC q5 (wo 97) false true (wo 94) • tC q4 (wo 96) true false (wo 93) • tC q2 (wo 95) true false (wo 92) • tC q1 (wo 95) false false (wo 92) • F) (H.of_eq (by ac_rfl)) (TL hT) TM (fun y h1 h2 => h2) (fun W HW => hr W HW.right.right.right.right.right) hl hx hn) fun u W h => ⟨h.1.trans (by unfold DV; simp), h.2.of_eq (by ac_rfl)⟩
  · refine zo.mono (Fv (p := q4) (F := tC q6 (wo 97) true true (wo 94) • tC q5 (wo 97) false true (wo 94) • tC q3 (wo 96) false false (wo 93) • tC q2 (wo 95) true false (wo 92) • tC q1 (wo 95) false false (wo 92) • F) (H.of_eq (by ac_rfl)) (TL hT) TM (fun y h1 h2 => h2) (fun W HW => hr W HW.right.right.right.right.right) hl hx hn) fun u W h => ⟨h.1.trans (by unfold DV; simp), h.2.of_eq (by ac_rfl)⟩
  · refine zo.mono (Fv (p := q5) (F := tC q6 (wo 97) true true (wo 94) • tC q4 (wo 96) true false (wo 93) • tC q3 (wo 96) false false (wo 93) • tC q2 (wo 95) true false (wo 92) • tC q1 (wo 95) false false (wo 92) • F) (H.of_eq (by ac_rfl)) (step_end hT) Qq (fun y h1 h2 => hI1 y h1 h2) (fun W HW => hr W HW.right.right.right.right.right) hl hx hn) fun u W h => ⟨h.1.trans (by unfold DV; simp), h.2.of_eq (by ac_rfl)⟩
  · refine zo.mono (Fv (p := q6) (F := tC q5 (wo 97) false true (wo 94) • tC q4 (wo 96) true false (wo 93) • tC q3 (wo 96) false false (wo 93) • tC q2 (wo 95) true false (wo 92) • tC q1 (wo 95) false false (wo 92) • F) (H.of_eq (by ac_rfl)) (step_end hT) Qq (fun y h1 h2 => hI1 y h1 h2) (fun W HW => hr W HW.right.right.right.right.right) hl hx hn) fun u W h => ⟨h.1.trans (by unfold DV; simp), h.2.of_eq (by ac_rfl)⟩
end
end Go.Proofs.YtpdeedplgmbopaaGreatDoor
end
