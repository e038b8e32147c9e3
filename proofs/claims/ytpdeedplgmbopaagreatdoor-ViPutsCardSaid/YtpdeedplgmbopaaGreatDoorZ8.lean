import Derived.Test.YtpdeedplgmbopaaGreatDoorZ4
import Derived.Test.YtpdeedplgmbopaaGreatDoorZ7
set_option linter.unusedSimpArgs false
set_option linter.unusedVariables false
/- Texts of mine, joined, their names in short: UList Range UList2 UList3 UList4 UList5 UList6. -/
section
namespace Go.Proofs.YtpdeedplgmbopaaGreatDoor
open Go.RowKit
open _root_.Go.Proofs.Tryz
abbrev jm := Int × List Int × List Int
def gV (G : List (List jm)) (N : List jm) : Nat := (G.map List.length).sum + N.length
def EB (e : jm) : Prop := e.2.1.length ≤ 35184372087808 ∧ e.2.2.length ≤ 35184372087808
theorem abb {N : List jm} {x : jm} (h : ∀ e ∈ N, EB e) (hx : EB x) : ∀ e ∈ N ++ [x], EB e := fun e he => by
  rcases List.mem_append.1 he with he | he
  · exact h e he
  · rw [List.mem_singleton.1 he]; exact hx
theorem QK {G : List (List jm)} {N : List jm} (h : ∀ g ∈ G, ∀ e ∈ g, EB e) (hx : ∀ e ∈ N, EB e) : ∀ g ∈ G ++ [N], ∀ e ∈ g, EB e := fun g hg => by
  rcases List.mem_append.1 hg with hg | hg
  · exact h g hg
  · rw [List.mem_singleton.1 hg]; exact hx
theorem VE {G : List (List jm)} {N : List jm} (h : ∀ g ∈ G, g ≠ []) (hx : N ≠ []) : ∀ g ∈ G ++ [N], g ≠ [] := fun g hg => by
  rcases List.mem_append.1 hg with hg | hg
  · exact h g hg
  · rw [List.mem_singleton.1 hg]; exact hx
def UOk (G : List (List jm)) (N : List jm) (op : Int) : Prop := (∀ g ∈ G, g ≠ []) ∧ gV G N ≤ 16384 ∧ 0 ≤ op ∧ op ≤ 4611686018427387904 ∧ (∀ g ∈ G, ∀ e ∈ g, EB e) ∧ ∀ e ∈ N, EB e
theorem TV {G : List (List jm)} (h : ∀ g ∈ G, g ≠ []) : G.length ≤ (G.map List.length).sum := by
  induction G with
  | nil => simp
  | cons g G ih =>
    have h1 := ih fun x hx => h x (by simp [hx])
    have h2 : 0 < g.length := List.length_pos_iff.2 (h g (by simp))
    simp; omega
theorem UOk.len {G : List (List jm)} {N : List jm} {op : Int} (h : UOk G N op) : G.length + N.length ≤ 16384 := by
  have := TV h.1
  have := h.2.1
  unfold gV at this
  omega
def jo (p : Nat) (G : List (List jm)) (N : List jm) (op : Int) : HP := wE fun (x : Value × Value × List (Value × List fA) × List fA) =>
  fact (UOk G N op ∧ x.2.2.1.map (fun g => g.2.map fA.says) = G ∧ x.2.2.2.map fA.says = N) • dW p (.cells #[x.1, x.2.1, .int .i64 op, .int .i64 (gV G N : Nat), .bool true] 235 (0, 0)) • FB x.1 x.2.2.1 • L6 x.2.1 x.2.2.2
section
variable {w0 w : World} {F : HP} {p : Nat} {G : List (List jm)} {N : List jm} {op : Int} {gv nv : Value} {gs : List (Value × List fA)} {now : List fA} {a : Int} {d z : Value} {dl il : List Int}
theorem V.zu (H : V w0 w (jo p G N op • F)) : ∃ gv nv gs now, UOk G N op ∧ gs.map (fun g => g.2.map fA.says) = G ∧ now.map fA.says = N ∧ gs.length = G.length ∧ now.length = N.length ∧ G.length + N.length ≤ 16384 ∧
    V w0 w (dW p (.cells #[gv, nv, .int .i64 op, .int .i64 (gV G N : Nat), .bool true] 235 (0, 0)) • Row 80 1 gv gs.length (gs.map (·.1)) • pY gs • Row 189 3 nv now.length (now.flatMap fA.enc) • lW now • F) := by
  obtain ⟨⟨gv, nv, gs, now⟩, H⟩ := H.nX
  obtain ⟨⟨h1, h2, h3⟩, H⟩ := H.flat.fact
  refine ⟨gv, nv, gs, now, h1, h2, h3, ?_, ?_, h1.len, ?_⟩
  · rw [← h2]; simp
  · rw [← h3]; simp
  · have := H.flat
    unfold FB L6 at this
    exact this.of_eq (by ac_rfl)
theorem V.xH (h1 : UOk G N op) (h2 : gs.map (fun g => g.2.map fA.says) = G) (h3 : now.map fA.says = N) {ed : Int} (he : ed = (gV G N : Nat))
    (H : V w0 w (dW p (.cells #[gv, nv, .int .i64 op, .int .i64 ed, .bool true] 235 (0, 0)) • FB gv gs • L6 nv now • F)) : V w0 w (jo p G N op • F) := by
  subst he
  exact V.jw (gv, nv, gs, now) (V.deep (V.lK ⟨h1, h2, h3⟩ (H.of_eq (by ac_rfl))))
theorem V.oM (h1 : UOk G N op) (h2 : gs.map (fun g => g.2.map fA.says) = G) (h3 : now.map fA.says = N) {ed : Int} (he : ed = (gV G N : Nat))
    (H : V w0 w (dW p (.cells #[gv, nv, .int .i64 op, .int .i64 ed, .bool true] 235 (0, 0)) • Row 80 1 gv gs.length (gs.map (·.1)) • pY gs • Row 189 3 nv now.length (now.flatMap fA.enc) • lW now • F)) : V w0 w (jo p G N op • F) :=
  V.xH h1 h2 h3 he (H.of_eq (by unfold FB L6; ac_rfl))
theorem lQ (H : V w0 w (jo p G N op • F)) : iE prog 158 #[.pointer (some ⟨p, 0, none⟩)] w fun v w' => v = .bool false ∧ w = w' := by
 refine iZ func158 ntmps158 ?_
 refine jQ O (aN ?_)
 obtain ⟨Dc, AA, oW, nY, lX, wL, vk, Ib, Ic, MK, rH⟩ := (H).zu
 refine aC (bT O (Z (jy underlying184 O O) (jG O (fun h1 => ?_) (fun h1 => ?_))))
 ·(try simp only [aA] at h1)
  exfalso; first | contradiction | omega
 ·(try simp only [aA] at h1)
  refine bg (bT O (bg (dK O (bg (bJ 4 bM O aP O (bg (fM bY O (rH).get.2 O (bg (Z (lJ O) (iH O O (fB O (dL results158 O ?_))))))))))))
  exact ⟨O, O⟩
theorem O5 (H : V w0 w F) : iE prog 174 #[] w fun v w' => ∃ p, v = .pointer (some ⟨p, 0, none⟩) ∧ V w0 w' (jo p [] [] 0 • F) := by
  refine WM func174 ntmps174 ?_
  refine jQ O (iR (Z (mJ (pl := #[(0, 4), (4, 1)]) (#[_, _, _, _, _]) bM zeroValue235 (fun w => by kernel_rfl) O (O)) (kD (jL (l := [_, _, _, _, _]) H O O) ?_)))
  rintro _ w1 ⟨b1, rfl, H1⟩
  refine fB O (dL results174 O ?_)
  refine ⟨_, O, V.xH (gv := .slice none 0 0) (nv := .slice none 0 0) (gs := []) (now := []) ⟨by simp, by decide, by decide, by decide, by simp, by simp⟩ O O O ?_⟩
  exact (((H1).uG none).Gu none).of_eq (by ac_rfl)
theorem O6 (H : V w0 w (jo p G N op • F)) : iE prog 120 #[.pointer (some ⟨p, 0, none⟩)] w fun v w' => v = .int .i64 ((G.length : Int) + min 1 N.length) ∧ V w0 w' (jo p G N op • F) := by
 refine iZ func120 ntmps120 ?_
 refine jQ O (aN (bQ O (dS O func158 (lQ H) ?_)))
 rintro _ _ ⟨rfl, rfl⟩
 refine iJ (qo (gG (aN ?_)))
 obtain ⟨Dc, AA, oW, nY, lX, wL, vk, Ib, Ic, MK, rH⟩ := (H).zu
 have EI := rH.drew
 have jf := V.kp (EI.f5.f5.f5.f5.f5)
 refine yH [4, 10] jf O (iQ 0 O jf O (jU 1 O jf O (gU 2 O jf 0 bM O dJ O (gU 3 O jf 0 bV O gq O (jO 4 O jf (fun W hW => jV bK O ((Kp.h hW)).get.2 O) (jC 5 O jf (fun _ => kK ((EI.f2).aS) bK O) (iQ 6 O jf O (jU 7 O jf O (gU 8 O jf 0 bM O dJ O (gU 9 O jf 1 bV O bP O (jO 10 O jf (fun W hW => jV aW O ((Kp.h hW)).get.2 O) (jC 11 O jf (fun _ => kK ((EI.f4).aS) aW O) (jC 12 O jf (fun _ => zZ O O) (jC 13 O jf (fun _ => fJ O O (by omega)) (jC 14 O jf (fun _ => dR O) (qV (aX (nI (dL results120 O ?_)))))))))))))))))))
 have QL := EI.f5.f5.f5.f5.f5
 have Qi := V.oM lX wL vk rfl QL
 exact ⟨by rw [Ib, Ic]; congr 1; omega, Qi⟩
theorem Kr (H : V w0 w (jo p G N op • F)) : iE prog 203 #[.pointer (some ⟨p, 0, none⟩)] w fun v w' => v = .int .i64 (gV G N : Nat) ∧ V w0 w' (jo p G N op • F) := by
 refine iZ func203 ntmps203 ?_
 refine jQ O (aN (bQ O (dS O func158 (lQ H) ?_)))
 rintro _ _ ⟨rfl, rfl⟩
 refine iJ (qo (gG (aN ?_)))
 obtain ⟨Dc, AA, oW, nY, lX, wL, vk, Ib, Ic, MK, rH⟩ := (H).zu
 refine aC (nG O O (bJ 0 bM O dJ O (bJ 3 bV O ay O (fM aH O (rH).get.2 O (fB O (dL results203 O ?_))))))
 have QL := rH.f5.f5.f5.f5.f5
 have Qi := V.oM lX wL vk rfl QL
 exact ⟨O, Qi⟩
theorem zx (H : V w0 w (jo p G N op • F)) (hb : op < 4611686018427387904) : iE prog 137 #[.pointer (some ⟨p, 0, none⟩)] w fun v w' => v = .int .i64 0 ∧ V w0 w' (jo p G N (op + 1) • F) := by
 have hop : 0 ≤ op := by obtain ⟨gv, nv, gs, now, k1, _⟩ := H.zu; exact k1.2.2.1
 refine iZ func137 ntmps137 ?_
 refine jQ O (aN (bQ O (dS O func158 (lQ H) ?_)))
 rintro _ _ ⟨rfl, rfl⟩
 refine iJ (qo (gG (aN ?_)))
 obtain ⟨Dc, AA, oW, nY, lX, wL, vk, Ib, Ic, MK, rH⟩ := (H).zu
 refine aC (nG O O (bJ 0 bM O dJ O (bJ 2 bV O ay O (fM aH O (rH).get.2 O (Z (fJ O O (by omega)) (dK O (bJ 0 bM O dJ O (bJ 2 bV O ay O (aJ (st5 2 rH ay) ?_)))))))))
 rintro _ w3 H3
 refine iJ (jM O (dL results137 O ?_))
 exact ⟨O, V.oM ⟨lX.1, lX.2.1, by omega, by omega, lX.2.2.2.2⟩ wL vk O H3.f5.f5.f5.f5.f5⟩
def yh (G : List (List jm)) (N : List jm) (a : Int) (dl il : List Int) : Int := if dl.length + il.length = 0 ∨ a < 0 then 1 else if 16384 ≤ gV G N then 3 else 0
def TW (G : List (List jm)) (N : List jm) (op a : Int) (dl il : List Int) : List (List jm) := if yh G N a dl il = 0 then (if 0 < op then G else G ++ [[(a, dl, il)]]) else G
def TY (G : List (List jm)) (N : List jm) (op a : Int) (dl il : List Int) : List jm := if yh G N a dl il = 0 then (if 0 < op then N ++ [(a, dl, il)] else N) else N
theorem O7 {x : jm} : gV G (N ++ [x]) = gV G N + 1 := by simp [gV]; omega
theorem QM {x : jm} : gV (G ++ [[x]]) N = gV G N + 1 := by simp [gV]; omega
theorem Kt (h : yh G N a dl il ≠ 0) : TW G N op a dl il = G := by unfold TW; rw [if_neg h]
theorem Ku (h : yh G N a dl il ≠ 0) : TY G N op a dl il = N := by unfold TY; rw [if_neg h]
theorem Jw (h : yh G N a dl il = 0) (ho : 0 < op) : TW G N op a dl il = G := by unfold TW; rw [if_pos h, if_pos ho]
theorem Jy (h : yh G N a dl il = 0) (ho : 0 < op) : TY G N op a dl il = N ++ [(a, dl, il)] := by unfold TY; rw [if_pos h, if_pos ho]
theorem YR (h : yh G N a dl il = 0) (ho : ¬ 0 < op) : TW G N op a dl il = G ++ [[(a, dl, il)]] := by unfold TW; rw [if_pos h, if_neg ho]
theorem YS (h : yh G N a dl il = 0) (ho : ¬ 0 < op) : TY G N op a dl il = N := by unfold TY; rw [if_pos h, if_neg ho]
theorem BL (H : V w0 w (jo p G N op • F)) (hd : jF w0 F .i32 d dl) (hi : jF w0 F .i32 z il) (b2 : dl.length ≤ 35184372087808) (b3 : il.length ≤ 35184372087808) :
  iE prog 138 #[.pointer (some ⟨p, 0, none⟩), edV a d z] w fun v w' => v = .int .i64 (yh G N a dl il) ∧ V w0 w' (jo p (TW G N op a dl il) (TY G N op a dl il) op • F) := by
 refine oV func138 ntmps138 ?_
 refine iR (kD (jL (l := [_, _, _]) H O O) ?_)
 rintro _ w1 ⟨b1, rfl, H1⟩
 refine uZ O (bQ O (dS O func158 (lQ H1.f2) ?_))
 rintro _ _ ⟨rfl, rfl⟩
 refine iJ (qo (gG (aN (iR (bJ 1 bf O dh O (fM aj O (H1).get.2 O (Z (iM (hd _ (H1.right.right)) aj O) (bJ 2 bf O dh O (fM aj O (H1).get.2 O (Z (iM (hi _ (H1.right.right)) aj O) (Z (fJ O O (by omega)) (Z (dX O O) (jG O (fun h1 => ?_) (fun h1 => ?_))))))))))))))
 ·(try simp only [aA] at h1)
  refine bF (bF (bF (iU O O (iJ (CP (jM O (aB (dL results138 O ?_))))))))
  have e : yh G N a dl il = 1 := by unfold yh; rw [if_pos (by omega)]
  rw [Kt (by rw [e]; decide), Ku (by rw [e]; decide), e]
  exact ⟨O, H1.right⟩
 ·(try simp only [aA] at h1)
  refine bg (bJ 0 bf O ay O (bg (fM aH O (H1).get.2 O (bg (Z (fZ O O) (iH O O (jB O (fun h2 => ?_) (fun h2 => ?_))))))))
  ·(try simp only [aA] at h2)
   refine jM O (aB (dL results138 O ?_))
   have e : yh G N a dl il = 1 := by unfold yh; rw [if_pos (by omega)]
   rw [Kt (by rw [e]; decide), Ku (by rw [e]; decide), e]
   exact ⟨O, H1.right⟩
  ·(try simp only [aA] at h2)
   refine gG (aN (aN ?_))
   obtain ⟨Dc, AA, oW, nY, lX, wL, vk, Ib, Ic, MK, rH⟩ := (H1.f2).zu
   refine aC (nG O O (bJ 0 bM O dJ O (bJ 3 bV O ay O (fM aH O (rH).get.2 O (Z (lV O O) (jB O (fun h3 => ?_) (fun h3 => ?_)))))))
   ·(try simp only [aA] at h3)
    refine jM O (aB (dL results138 O ?_))
    have e : yh G N a dl il = 3 := by unfold yh; rw [if_neg (by omega), if_pos (by omega)]
    have Ho5 := rH.f5.f5.f5.f5.f5
    have Hc6 := V.oM lX wL vk rfl Ho5
    rw [Kt (by rw [e]; decide), Ku (by rw [e]; decide), e]
    exact ⟨O, Hc6.f2.right⟩
   ·(try simp only [aA] at h3)
    refine gG (bQ O (dK O (bJ 0 bM O dJ O (bJ 3 bV O ay O (fM aH O (rH).get.2 O (Z (fJ O O (by omega)) (dK O (bJ 0 bM O dJ O (bJ 3 bV O ay O (aJ (st5 3 rH ay) ?_))))))))))
    rintro _ w7 H7
    refine qQ (bQ O (dK O (bJ 0 bM O dJ O (bJ 2 bV O ay O (fM aH O (H7).get.2 O (Z (dY O O) (jB O (fun h4 => ?_) (fun h4 => ?_))))))))
    ·(try simp only [aA] at h4)
     have aem := H7.drew
     have IX := V.kp (aem.f6.f6.f6.f6.f6.f6)
     refine yH [5, 6] IX O (iQ 0 O IX O (iQ 1 O IX O (jU 2 O IX O (gU 3 O IX 0 bM O dJ O (gU 4 O IX 1 bV O bP O (jO 5 O IX (fun W hW => jV aW O ((Kp.h hW)).get.2 O) (jO 6 O IX (fun W hW => dM bf O cO O O ((Kp.h hW).f6).get.2) (mZ 7 O (xq O func179 (yM aem (fun W HW => hd _ (HW.right.right.right.right.right.right)) (fun W HW => hi _ (HW.right.right.right.right.right.right)) (by omega) (by omega))) ?_))))))))
     rintro _ w8 ⟨d8, s8, rfl, H8⟩
     have Ie := V.kp (H8.f8.f8.f8.f8.f8.f8.f8.f8)
     refine eF Ie (fun W hW => (Kp.h hW).right.right.f6.f6.f6.f6.f6.f6) ?_
     refine mZ 8 O (uQ H8 aW cO dQ O O O (by decide) (by decide)) ?_
     rintro l9 w9 H9
     have Ua := V.kp (H9.f9.f9.f9.f9.f9.f9.f9.f9.f9)
     refine eF Ua (fun W hW => (Kp.h hW).right.f8.f8.f8.f8.f8.f8.f8.f8) ?_
     refine mZ 9 O (iy H9.f7 aW AB O O O ((H9).aS) (aG (aZ (by first | rfl | exact Rd.one ((H9.f2).aS)) (aZ (by first | rfl | exact Rd.one ((H9.f3).aS)) bU))) (by omega) (by omega)) ?_
     rintro l10 w10 pR
     have Ub := pR.f2.right
     have CV := V.kp (Ub.f8.f8.f8.f8.f8.f8.f8.f8)
     refine iG CV (by kernel_rfl) ?_
     refine jU 10 O CV O (gU 11 O CV 0 bM O dJ O (gU 12 O CV 1 bV O bP O ?_))
     refine gB 13 O (by kernel_rfl) (fP 1 (l' := [_, _, _, _, _]) Ub.f4 bP O O (by first | rfl | exact Rd.one ((Ub).aS)) O O) ?_
     rintro _ w12 vZ
     have Kv := V.kp (vZ.f8.f8.f8.f8.f8.f8.f8.f8)
     refine iG Kv (by kernel_rfl) ?_
     have hadd : 0 < op := by omega
     refine qV (aX (jM O (dL results138 O ?_)))
     have e : yh G N a dl il = 0 := by unfold yh; rw [if_neg (by omega), if_neg (by omega)]
     rw [Jw e hadd, Jy e hadd, e]
     have X := (vZ.f8.right.f6.f6.f3.f7.f5.f7.f7).lN.swap.lN.swap
     have X2 := V.Bf X.f3
     refine ⟨O, V.xH (gv := Dc) (nv := l10) (gs := oW) (now := nY ++ [⟨a, d8, dl, s8, il⟩]) (ed := (gV G N : Nat) + 1) ⟨lX.1, by rw [O7]; omega, lX.2.2.1, lX.2.2.2.1, lX.2.2.2.2.1, abb lX.2.2.2.2.2 ⟨b2, b3⟩⟩ wL (by rw [List.map_append, vk]; rfl) (by rw [O7]; rfl) (X2.of_eq (by unfold FB; ac_rfl))⟩
    ·(try simp only [aA] at h4)
     have YT := H7.drew
     have Ae := V.kp (YT.f6.f6.f6.f6.f6.f6)
     refine yH [5, 6] Ae O (iQ 0 O Ae O (iQ 1 O Ae O (jU 2 O Ae O (gU 3 O Ae 0 bM O dJ O (gU 4 O Ae 0 bV O gq O (jO 5 O Ae (fun W hW => jV bK O ((Kp.h hW)).get.2 O) (jO 6 O Ae (fun W hW => dM bf O cO O O ((Kp.h hW).f6).get.2) (mZ 7 O (xq O func179 (yM YT (fun W HW => hd _ (HW.right.right.right.right.right.right)) (fun W HW => hi _ (HW.right.right.right.right.right.right)) (by omega) (by omega))) ?_))))))))
     rintro _ Qh ⟨d13, s13, rfl, wo⟩
     have yB := V.kp (wo.f8.f8.f8.f8.f8.f8.f8.f8)
     refine eF yB (fun W hW => (Kp.h hW).right.right.f6.f6.f6.f6.f6.f6) ?_
     refine mZ 8 O (uQ wo aW cO dQ O O O (by decide) (by decide)) ?_
     rintro l14 OQ AZ
     have Gv := V.kp (AZ.f9.f9.f9.f9.f9.f9.f9.f9.f9)
     refine eF Gv (fun W hW => (Kp.h hW).right.f8.f8.f8.f8.f8.f8.f8.f8) ?_
     refine mZ 9 O (lq (vs := [_]) AZ bK bP nJ O O O (by decide) (aZ (by first | rfl | exact Rd.one ((AZ).aS)) bU)) ?_
     rintro l15 QE zU
     have yC := V.kp (zU.f10.f10.f10.f10.f10.f10.f10.f10.f10.f10)
     refine eF yC (fun W hW => (Kp.h hW).right.f9.f9.f9.f9.f9.f9.f9.f9.f9) ?_
     refine mZ 10 O (iy zU.f6 bK IY O O O ((zU).aS) (aZ (by first | rfl | exact Rd.one ((zU.f2).aS)) bU) (by omega) (by omega)) ?_
     rintro l16 w16 vw
     have Uc := vw.f2.right
     have IZ := V.kp (Uc.f9.f9.f9.f9.f9.f9.f9.f9.f9)
     refine iG IZ (by kernel_rfl) ?_
     refine jU 11 O IZ O (gU 12 O IZ 0 bM O dJ O (gU 13 O IZ 0 bV O gq O ?_))
     refine gB 14 O (by kernel_rfl) (fP 0 (l' := [_, _, _, _, _]) Uc.f5 gq O O (by first | rfl | exact Rd.one ((Uc).aS)) O O) ?_
     rintro _ YD EN
     have Kw := V.kp (EN.f9.f9.f9.f9.f9.f9.f9.f9.f9)
     refine iG Kw (by kernel_rfl) ?_
     have hadd : ¬ 0 < op := by omega
     refine qV (aX (jM O (dL results138 O ?_)))
     have e : yh G N a dl il = 0 := by unfold yh; rw [if_neg (by omega), if_neg (by omega)]
     rw [YR e hadd, YS e hadd, e]
     have X := (EN.f9.right.f8.f8.f3.f8.f5.f6.f8.f8).lN.swap.lN.swap
     have X2 := V.Bf (es := []) X.Ko.f3.f3.f4
     have X4 := V.uT X2.rU.swap
     refine ⟨O, V.xH (gv := l16) (nv := AA) (gs := oW ++ [(l14, [⟨a, d13, dl, s13, il⟩])]) (now := nY) (ed := (gV G N : Nat) + 1) ⟨VE lX.1 (List.cons_ne_nil _ _), by rw [QM]; omega, lX.2.2.1, lX.2.2.2.1, QK lX.2.2.2.2.1 (by intro e he; rw [List.mem_singleton.1 he]; exact ⟨b2, b3⟩), lX.2.2.2.2.2⟩ (by rw [List.map_append, wL]; rfl) vk (by rw [QM]; rfl) (X4.of_eq (by unfold L6; ac_rfl))⟩
end
end Go.Proofs.YtpdeedplgmbopaaGreatDoor
end
section
namespace Go.Proofs.YtpdeedplgmbopaaGreatDoor
open Go.RowKit
def O8 (P : Program) (l : Nat) (vs : List Value) (w : World) (T : Value → World → Prop) : Prop :=
  ∃ f tmps c d, (Instr.yield l vs.toArray).run P w = .ok (.round l f tmps c d) w ∧ RoundIn Fence.wide 0 P l f tmps c d w fun e w' => ∃ v, e = .returned v ∧ T v w'
theorem O8.mono {P : Program} {l : Nat} {vs : List Value} {w : World} {T T' : Value → World → Prop} (h : O8 P l vs w T) (k : ∀ v w', T v w' → T' v w') : O8 P l vs w T' :=
  let ⟨f, tmps, c, d, h1, h2⟩ := h; ⟨f, tmps, c, d, h1, RoundIn.mono h2 fun _ _ ⟨v, e, t⟩ => ⟨v, e, k _ _ t⟩⟩
theorem O8.bool {P : Program} {l : Nat} {vs : List Value} {w : World} {A B : World → Prop} (h : O8 P l vs w fun v W' => (v = .bool true ∧ A W') ∨ (v = .bool false ∧ B W')) : O8 P l vs w fun v W' => ∃ t, v = .bool t ∧ (t = true → A W') ∧ (t = false → B W') :=
  h.mono fun v W' hv => by
    rcases hv with ⟨rfl, h⟩ | ⟨rfl, h⟩
    · exact ⟨true, rfl, fun _ => h, fun e => by cases e⟩
    · exact ⟨false, rfl, (fun e => by cases e), fun _ => h⟩
theorem O9 {P : Program} {L : List (Nat × Value)} {w : World} {ty : TypeId} {x : Operand} {args : List Operand} {ts : Array TypeId} {l : Nat} {vs : List Value} {T : Value → World → Prop} (hx : ev L x = some (.func (.yield l) #[] #[])) (ha : F8 L args = some vs) (h : O8 P l vs w T) :
    xk P L (.call ⟨.value x, args.toArray, ts⟩) ty w T := by
  obtain ⟨f, tmps, c, d, hy, hr⟩ := h
  refine aaM (fun ρ hρ dd pos pK g => ?_) hr
  have hg := hρ _ _ hx
  simp [execOp, resolve, invoke, evs hρ _ _ ha, hg, Deferred.ofValue, hy]
def Iter (P : Program) (w0 : World) (fv : Value) (R : HP) (n : Nat) (E : Nat → List Value → HP → Prop) : Prop :=
  ∀ (l : Nat) (J : Nat → HP) (X : HP) (w : World),
    (∀ k, k < n → ∀ vs A, E k vs A → ∀ G W, V w0 W (A • J k • G) → O8 P l vs W fun v W' => (v = .bool true ∧ V w0 W' (J (k + 1) • G)) ∨ (v = .bool false ∧ V w0 W' (X • G))) →
    V w0 w (J 0 • R) → vK P fv [.func (.yield l) #[] #[]] w fun _ W' => V w0 W' (J n • R) ∨ V w0 W' (X • R)
def QN (w0 : World) (I : HP) (Xr : HP) (Xe : Nat → HP) (G : HP) : Exit → Act → World → Prop
  | .normal, _, W => V w0 W (I • G)
  | .ret, _, W => V w0 W (Xr • G)
  | .exit id, _, W => V w0 W (Xe id • G)
  | _, _, _ => False
def VF (P : Program) (N : Sh) (w0 : World) (body : Code) (I : HP) (Xr : HP) (Xe : Nat → HP) (G : HP) (a : Act) (W : World) : Prop :=
  ∃ (L : List (Nat × Value)) (B : HP), Fits N L a ∧ V w0 W (B • G) ∧ ∀ G' W', V w0 W' (B • G') → WC P N body (QN w0 I Xr Xe G') L W'
def YU : Exit → Act → World → Prop := fun _ _ _ => False
theorem Ud {P : Program} {N : Sh} {w0 w : World} {body : Code} {I Xr : HP} {Xe : Nat → HP} {G B : HP} {L : List (Nat × Value)} (H : V w0 w (B • G)) (h : ∀ G' W', V w0 W' (B • G') → WC P N body (QN w0 I Xr Xe G') L W') :
    WQ N (Exit.then (VF P N w0 body I Xr Xe G) YU) .normal L w := fun _ a ha => ⟨L, B, ha, H, h⟩
theorem Ky {N : Sh} {w0 w : World} {I Xr : HP} {Xe : Nat → HP} {G : HP} {L : List (Nat × Value)} (H : V w0 w (I • G)) : WQ N (QN w0 I Xr Xe G) .normal L w := fun _ _ _ => H
theorem YV {N : Sh} {w0 w : World} {I Xr : HP} {Xe : Nat → HP} {G : HP} {id : Nat} {L : List (Nat × Value)} (H : V w0 w (Xe id • G)) : WQ N (QN w0 I Xr Xe G) (.exit id) L w := fun _ _ _ => H
theorem YW {w0 : World} {I Xr : HP} {Xe : Nat → HP} {G : HP} : NP (QN w0 I Xr Xe G) := fun _ _ _ h => h
def Ue : List Nat → List Value → List (Nat × Value) → List (Nat × Value)
  | [], _, L => L
  | _ :: _, [], L => L
  | p :: ps, v :: vs, L => Ue ps vs ((p, v) :: L)
theorem QO {n l : Nat} : ∀ (ps : List Nat) (vs : List Value) (L : List (Nat × Value)) (tmps : Array Value), (∀ p ∈ ps, p < n) → Fits ⟨n, [], some l⟩ L { tmps := tmps, defers := [] } →
    Fits ⟨n, [], some l⟩ (Ue ps vs L) { tmps := (ps.zip vs).foldl (fun t (p : Nat × Value) => t.setIfInBounds p.1 p.2) tmps, defers := [] }
  | [], _, _, _, _, h => h
  | _ :: _, [], _, _, _, h => h
  | p :: ps, v :: vs, L, tmps, hp, h => QO ps vs _ _ (fun q hq => hp q (by simp [hq])) (h.put (hp p (by simp)) v)
section
variable {P : Program} {N : Sh} {Q : Exit → Act → World → Prop} {L : List (Nat × Value)} {w0 w : World}
theorem BM {g : Operand} {ps : List Nat} {assign body : Code} {fv : Value} {R : HP} {n : Nat} {E : Nat → List Value → HP → Prop} (hg : ev L g = some fv) (hit : Iter P w0 fv R n E) (I : Nat → HP) (Xr : HP) (Xe : Nat → HP) (H : V w0 w (I 0 • R))
    (hps : ps.all (· < N.n) = true)
    (hbody : ∀ l k, k < n → ∀ vs A, E k vs A → ∀ G W, V w0 W (A • I k • G) → vs.length = ps.length ∧ WC P ⟨N.n, [], some l⟩ assign (Exit.then (VF P ⟨N.n, [], some l⟩ w0 body (I (k + 1)) Xr Xe G) YU) (Ue ps vs L) W)
    (hdone : ∀ D W, V w0 W (dW D (.deferred (some [])) • I n • R) → WQ ⟨N.n, D :: N.ds, none⟩ Q .normal L W)
    (hret : ∀ D W, V w0 W (dW D (.deferred (some [])) • Xr • R) → WQ ⟨N.n, D :: N.ds, none⟩ Q .ret L W)
    (aen : ∀ id D W, V w0 W (dW D (.deferred (some [])) • Xe id • R) → WQ ⟨N.n, D :: N.ds, none⟩ Q (.exit id) L W)
    (hro : N.ro = none := by rfl) : WC P N (.rangeFunc g ps.toArray assign body) Q L w := fun np a ha => by
  rw [hro]
  refine wpIn_rangeFunc fun fn _ => ?_
  let wu : LoopState → Option Code → Loop := fun s j => { state := s, pending := j, fn, tmps := a.tmps, params := ps.toArray, assign, body, defers := w.heap.size }
  have afI := run_enterLoop_outer (P := P) (w := w) fn a.tmps ps.toArray assign body
  have H1 : V w0 ((w.alloc (.deferred (some []))).alloc (.loop (wu .ready none))) (dW (w.heap.size + 1) (.loop (wu .ready none)) • dW w.heap.size (.deferred (some [])) • I 0 • R) := by
    have := (H.alloc (.deferred (some []))).alloc (.loop (wu .ready none))
    rw [World.size_alloc] at this
    exact this
  let Lk : LoopState → Option Code → HP := fun s j => dW (w.heap.size + 1) (.loop (wu s j)) • dW w.heap.size (.deferred (some []))
  have acT : ∀ k, k < n → ∀ vs A, E k vs A → ∀ G W, V w0 W (A • (Lk .ready none • I k) • G) → O8 P (w.heap.size + 1) vs W fun v W' => (v = .bool true ∧ V w0 W' ((Lk .ready none • I (k + 1)) • G)) ∨
      (v = .bool false ∧ V w0 W' (wE (fun c : Code => Lk .done (some c) • (match c with | .ret => Xr | .exit id => Xe id | _ => fact False)) • G)) := by
    intro k hk vs A hE G W HW
    have e1 : (A • (Lk .ready none • I k) • G) = (dW (w.heap.size + 1) (.loop (wu .ready none)) • A • I k • dW w.heap.size (.deferred (some [])) • G) := by
      show (A • ((dW (w.heap.size + 1) (.loop (wu .ready none)) • dW w.heap.size (.deferred (some []))) • I k) • G) = _
      ac_rfl
    have HW1 := HW.of_eq e1
    have hl := HW1.get.2
    have hlen := (hbody (w.heap.size + 1) k hk vs A hE _ W (HW1.of_eq (show _ = (A • I k • dW (w.heap.size + 1) (.loop (wu .ready none)) • dW w.heap.size (.deferred (some [])) • G) by ac_rfl))).1
    refine ⟨fn, _, assign, body, run_yield hl (by rw [List.size_toArray, hlen]; exact List.size_toArray.symm), ?_⟩
    have hfit : Fits ⟨N.n, [], some (w.heap.size + 1)⟩ (Ue ps vs L) { tmps := (ps.toArray.zip vs.toArray).foldl (fun tmps (t, a) => tmps.setIfInBounds t a) a.tmps, defers := [] } := by
      have := QO (n := N.n) (l := w.heap.size + 1) ps vs L a.tmps (fun p hp => by simpa using List.all_eq_true.1 hps p hp) ⟨ha.size, rfl, ha.at_⟩
      simpa using this
    refine roundIn_of_wpIn trivial ?_
    have HW2 : V w0 W (A • I k • dW (w.heap.size + 1) (.loop (wu .ready none)) • dW w.heap.size (.deferred (some [])) • G) := HW1.of_eq (by ac_rfl)
    have hb := (hbody (w.heap.size + 1) k hk vs A hE _ W HW2).2 (fun c a w h => h) _ hfit
    refine wpIn_mono hb ?_
    rintro e a1 W1 hq
    cases e with
    | exit id => exact hq.elim
    | goto l => exact hq.elim
    | ret => exact hq.elim
    | panic c => exact hq.elim
    | outgrown => exact hq.elim
    | normal =>
      obtain ⟨L1, B, hf1, HB, hgo⟩ := hq
      have HB1 : V w0 W1 (dW (w.heap.size + 1) (.loop (wu .ready none)) • B • dW w.heap.size (.deferred (some [])) • G) := HB.of_eq (by ac_rfl)
      have hl1 := HB1.get.2
      refine ⟨_, run_beginRound hl1 rfl, ?_⟩
      have HB2 : V w0 (W1.putObj (w.heap.size + 1) (.loop (wu .busy none))) (dW (w.heap.size + 1) (.loop (wu .busy none)) • B • dW w.heap.size (.deferred (some [])) • G) := HB1.turn rfl rfl rfl (by simp) (World.putObj_heap_same HB1.lt) fun k hk _ => World.putObj_heap_other hk
      have hbd := hgo (dW (w.heap.size + 1) (.loop (wu .busy none)) • dW w.heap.size (.deferred (some [])) • G) _ (HB2.of_eq (by ac_rfl)) YW a1 hf1
      refine wpIn_mono hbd ?_
      have fin : ∀ (j : Option Code) (W3 : World) (A3 : HP), V w0 W3 (A3 • dW (w.heap.size + 1) (.loop (wu .busy none)) • dW w.heap.size (.deferred (some [])) • G) →
          (Instr.endRound (w.heap.size + 1) j).run P W3 = .ok (.bool j.isNone) (W3.putObj (w.heap.size + 1) (.loop (wu (if j.isNone then .ready else .done) j))) ∧
          V w0 (W3.putObj (w.heap.size + 1) (.loop (wu (if j.isNone then .ready else .done) j))) ((Lk (if j.isNone then .ready else .done) j • A3) • G) := by
        intro j W3 A3 H3
        have H4 := H3.swap
        refine ⟨run_endRound j H4.get.2, ?_⟩
        have H5 : V w0 (W3.putObj (w.heap.size + 1) (.loop (wu (if j.isNone then .ready else .done) j))) (dW (w.heap.size + 1) (.loop (wu (if j.isNone then .ready else .done) j)) • A3 • dW w.heap.size (.deferred (some [])) • G) := H4.turn rfl rfl rfl (by simp) (World.putObj_heap_same H4.lt) fun k hk _ => World.putObj_heap_other hk
        refine H5.of_eq ?_
        show _ = (((dW (w.heap.size + 1) (.loop (wu (if j.isNone then .ready else .done) j)) • dW w.heap.size (.deferred (some []))) • A3) • G)
        ac_rfl
      rintro e a3 W3 hp
      cases e with
      | normal => obtain ⟨h1, h2⟩ := fin none W3 _ hp; exact ⟨_, _, h1, _, rfl, .inl ⟨rfl, h2⟩⟩
      | ret => obtain ⟨h1, h2⟩ := fin (some .ret) W3 _ hp; exact ⟨_, _, h1, _, rfl, .inr ⟨rfl, V.jw .ret h2⟩⟩
      | exit id => obtain ⟨h1, h2⟩ := fin (some (.exit id)) W3 _ hp; exact ⟨_, _, h1, _, rfl, .inr ⟨rfl, V.jw (.exit id) h2⟩⟩
      | goto l => exact hp.elim
      | panic c => exact hp.elim
      | outgrown => exact hp.elim
  have hcall := hit (w.heap.size + 1) (fun k => Lk .ready none • I k) _ _ acT (H1.of_eq (by
    show _ = (((dW (w.heap.size + 1) (.loop (wu .ready none)) • dW w.heap.size (.deferred (some []))) • I 0) • R)
    ac_rfl))
  obtain ⟨f, first, cap, fn', c, rfl, hf, hn, hb, aeo⟩ := hcall
  refine ⟨w.heap.size + 1, _, _, { target := .fn (.func f) cap.toArray, args := (first ++ [Value.func (.yield (w.heap.size + 1)) #[] #[]]).toArray }, (w.alloc (.deferred (some []))).alloc (.loop (wu .ready none)), f, _, (w.alloc (.deferred (some []))).alloc (.loop (wu .ready none)), afI, ?_, fun _ _ => trivial, ?_, (fun h => by cases h), Yq.2 (Calls.mono aeo ?_)⟩
  · have he := ha.ev hg
    have he2 : a.eval (.const (.func (.yield (w.heap.size + 1)) #[] #[])) = .func (.yield (w.heap.size + 1)) #[] #[] := rfl
    simp [resolve, rangeCall, he, he2, Deferred.ofValue, wu]
  · simp [invoke, callFunc, hf, hb]
    simpa using hn
  · rintro e W2 ⟨v, rfl, hv⟩
    have fin : ∀ (s : LoopState) (j : Option Code) (A : HP), s ≠ .busy → V w0 W2 ((Lk s j • A) • R) → (Instr.endLoop (w.heap.size + 1)).run P W2 = .ok j (W2.putObj (w.heap.size + 1) (.loop (wu .exhausted j))) ∧
        V w0 (W2.putObj (w.heap.size + 1) (.loop (wu .exhausted j))) (dW w.heap.size (.deferred (some [])) • A • R) := by
      intro s j A hs H3
      have H4 : V w0 W2 (dW (w.heap.size + 1) (.loop (wu s j)) • dW w.heap.size (.deferred (some [])) • A • R) := H3.of_eq (by
        show (((dW (w.heap.size + 1) (.loop (wu s j)) • dW w.heap.size (.deferred (some []))) • A) • R) = _
        ac_rfl)
      refine ⟨run_endLoop H4.get.2 hs, ?_⟩
      have H5 : V w0 (W2.putObj (w.heap.size + 1) (.loop (wu .exhausted j))) (dW (w.heap.size + 1) (.loop (wu .exhausted j)) • dW w.heap.size (.deferred (some [])) • A • R) := H4.turn rfl rfl rfl (by simp) (World.putObj_heap_same H4.lt) fun k hk _ => World.putObj_heap_other hk
      exact H5.right
    have hfit : Fits ⟨N.n, w.heap.size :: N.ds, none⟩ L { a with defers := [{ target := .collected w.heap.size, args := #[] }] ++ a.defers } := ⟨ha.size, by simp [ha.defers, Yp], ha.at_⟩
    rcases hv with hv | hv
    · obtain ⟨h1, h2⟩ := fin _ _ _ (by decide) hv
      exact ⟨none, _, h1, hdone _ _ h2 np _ hfit⟩
    · obtain ⟨c, hv⟩ := hv.nX
      obtain ⟨h1, h2⟩ := fin _ _ _ (by decide) hv
      cases c with
      | ret => exact ⟨some .ret, _, h1, wpIn_ret (hret _ _ h2 np _ hfit)⟩
      | exit id => exact ⟨some (.exit id), _, h1, wpIn_exit (aen id _ _ h2 np _ hfit)⟩
      | _ => exact absurd h2.swap.fact.1 id
end
end Go.Proofs.YtpdeedplgmbopaaGreatDoor
end
section
namespace Go.Proofs.YtpdeedplgmbopaaGreatDoor
open Go.RowKit
open _root_.Go.Proofs.Tryz
def oH (G : List (List jm)) (N : List jm) : List (List jm) := if N = [] then G else G ++ [N]
theorem Uf {G : List (List jm)} {N : List jm} (h : N = []) : oH G N = G := by unfold oH; rw [if_pos h]
theorem uU {G : List (List jm)} {N : List jm} (h : N ≠ []) : oH G N = G ++ [N] := by unfold oH; rw [if_neg h]
theorem Kz {G : List (List jm)} {N : List jm} : gV (oH G N) [] = gV G N := by
  unfold oH; split
  · rename_i h; rw [h]
  · simp [gV]
section
variable {w0 w : World} {F : HP} {p : Nat} {G : List (List jm)} {N : List jm} {op : Int} {gv nv v : Value} {gs : List (Value × List fA)} {now es : List fA} {a : Int} {d z : Value} {dl il : List Int}
theorem DF (H : V w0 w (jo p G N op • F)) : iE prog 177 #[.pointer (some ⟨p, 0, none⟩)] w fun _ w' => V w0 w' (jo p (oH G N) [] 0 • F) := by
 refine iZ func177 ntmps177 ?_
 refine aN (aN ?_)
 obtain ⟨Dc, AA, oW, nY, lX, wL, vk, Ib, Ic, MK, rH⟩ := (H).zu
 refine aC (nG O O (bJ 0 bM O dJ O (bJ 1 bV O bP O (fM aW O (rH).get.2 O (Z (kK ((rH.f4).aS) aW O) (Z (dY O O) (jB O (fun h1 => ?_) (fun h1 => ?_))))))))
 ·(try simp only [aA] at h1)
  have aep : 0 < nY.length := by omega
  have Ug := rH.drew
  have qC := V.kp (Ug.f5.f5.f5.f5.f5)
  refine yH [5, 10] qC O (iQ 0 O qC O (iQ 1 O qC O (jU 2 O qC O (gU 3 O qC 0 bM O dJ O (gU 4 O qC 0 bV O gq O (jO 5 O qC (fun W hW => jV bK O ((Kp.h hW)).get.2 O) (iQ 6 O qC O (jU 7 O qC O (gU 8 O qC 0 bM O dJ O (gU 9 O qC 1 bV O bP O (jO 10 O qC (fun W hW => jV aW O ((Kp.h hW)).get.2 O) (mZ 11 O (lq (vs := [_]) Ug bK bP nJ O O O (by decide) (aZ (by first | rfl | exact Rd.one ((Ug.f4).aS)) bU)) ?_))))))))))))
  rintro l2 w2 H2
  have AL := V.kp (H2.f6.f6.f6.f6.f6.f6)
  refine eF AL (fun W hW => (Kp.h hW).right.f5.f5.f5.f5.f5) ?_
  refine mZ 12 O (iy H2.f3 bK IY O O O ((H2).aS) (aZ (by first | rfl | exact Rd.one ((H2.f5).aS)) bU) (by omega) (by omega)) ?_
  rintro l3 w3 H3
  have Hd4 := H3.f2.right
  have zq := V.kp (Hd4.f5.f5.f5.f5.f5)
  refine iG zq (by kernel_rfl) ?_
  refine jU 13 O zq O (gU 14 O zq 0 bM O dJ O (gU 15 O zq 0 bV O gq O ?_))
  refine gB 16 O (by kernel_rfl) (fP 0 (l' := [_, _, _, _, _]) Hd4.f2 gq O O (by first | rfl | exact Rd.one ((Hd4).aS)) O O) ?_
  rintro _ w5 H5
  have FC := V.kp (H5.f5.f5.f5.f5.f5)
  refine iG FC (by kernel_rfl) ?_
  refine qV (aX (aC (jR O O (dK O (bJ 0 bM O dJ O (bJ 1 bV O bP O (aJ (st5 1 H5 bP) ?_)))))))
  rintro _ w6 H6
  refine dK O (bJ 0 bM O dJ O (bJ 2 bV O ay O (aJ (st5 2 H6 ay) ?_)))
  rintro _ w7 H7
  refine bW (lM (.inr O) results177 ?_)
  have hN : N ≠ [] := by rintro rfl; exact absurd Ic (by simp only [List.length_nil]; omega)
  rw [uU hN]
  have X := V.rU (v := AA) (es := nY) (H7.f3.f3.f5.f5).deep
  have X4 := V.uT X.swap
  refine V.xH (gv := l3) (nv := .slice none 0 0) (gs := oW ++ [(AA, nY)]) (now := []) (ed := (gV G N : Nat)) ⟨VE lX.1 hN, by rw [← uU hN, Kz]; exact lX.2.1, by decide, by decide, QK lX.2.2.2.2.1 lX.2.2.2.2.2, by simp⟩ (by rw [List.map_append, wL, ← vk]; rfl) O (by rw [← uU hN, Kz]) ((X4.uG none).of_eq (by ac_rfl))
 ·(try simp only [aA] at h1)
  have aep : nY.length = 0 := by omega
  refine gG (aC (jR O O (dK O (bJ 0 bM O dJ O (bJ 1 bV O bP O (aJ (st5 1 rH bP) ?_))))))
  rintro _ w8 H8
  refine dK O (bJ 0 bM O dJ O (bJ 2 bV O ay O (aJ (st5 2 H8 ay) ?_)))
  rintro _ w9 H9
  refine bW (lM (.inr O) results177 ?_)
  have hN : N = [] := by rw [← vk, List.eq_nil_of_length_eq_zero aep]; rfl
  subst hN
  rw [Uf rfl]
  refine V.xH (gv := Dc) (nv := .slice none 0 0) (gs := oW) (now := []) (ed := (gV G [] : Nat)) ⟨lX.1, lX.2.1, by decide, by decide, lX.2.2.2.2⟩ wL O O (((H9.f4.right.f4.right.f3.f3).uG none).of_eq (by unfold FB; ac_rfl))
theorem V.Pe (H : V w0 w (EP v es • F)) : V w0 w (EP v es • EP v es • F) := H.vF
theorem Xa (b : Nat) : Iter prog w0 (.func (.func 210) #[] #[.pointer (some ⟨b, 0, none⟩)]) (dW b (.cells #[v] 80 (0, 0)) • EP v es) es.length
  (fun k vs A => vs = [.int .i64 ((es.length - (k + 1) : Nat) : Int), .agg (es.getD (es.length - (k + 1)) default).enc.toArray] ∧ A = EP v es) := by
 intro l J X w hy H
 refine ⟨210, [], [.pointer (some ⟨b, 0, none⟩)], _, _, O, func210, O, O, ?_⟩
 have H1 : V w0 w (dW b (.cells #[v] 80 (0, 0)) • EP v es • J 0) := H.of_eq (by ac_rfl)
 obtain ⟨a, c, hv, hc1, hc2, _⟩ := (H1.swap.yg).form
 subst hv
 simp only [List.nil_append, List.cons_append]
 refine Ye func210 ntmps210 ?_
 dsimp only [y8, Nat.reduceAdd]
 refine iR (fM aW O (H1).get.2 O (Z (kK ((H1.f2).yg) aW O) (Z (iV O O (by omega)) (fG O (aY ?_)))))
 refine gW [(0, _), (1, _)] (fun (k : Nat) => [(3, .int .i64 ((k : Int) - 1))]) (fun (k : Nat) W => k ≤ es.length ∧ V w0 W (dW b (.cells #[.slice a es.length c] 80 (0, 0)) • EP (.slice a es.length c) es • J (es.length - k))) (fun (k : Nat) => k) (es.length) uJ lU ⟨by omega, by rw [Nat.sub_self]; exact H1⟩ ?_
 rintro k w1 ⟨hk, HL⟩
 dsimp only [List.cons_append, List.nil_append]
 refine aN (bQ O (Z (lV O O) (jB O (fun h1 => ?_) (fun h1 => ?_))))
 ·(try simp only [aA] at h1)
  refine gG (aN (aY (aN ?_)))
  obtain ⟨m, rfl⟩ : ∃ m, k = m + 1 := ⟨k - 1, by omega⟩
  rw [show (((m + 1 : Nat) : Int) - 1) = (m : Int) from by omega]
  refine aC (jR O O (fM aW O (HL).get.2 O (bT O ?_)))
  obtain ⟨bv, ov, cv, ev⟩ := Rd.rM ((HL.f2).yg) (by omega)
  cases ev
  refine Z (dP aW cO O O (by omega)) (Z (uS (ys := [_, _, _]) ((HL.f2).yg) (by omega) bf O cO O (wK fA.Gt (by omega) default) O) (kD (O9 O O (hy (es.length - (m + 1)) (by omega) _ _ ⟨by rw [show es.length - (es.length - (m + 1) + 1) = m from by omega]; rfl, O⟩ (EP (.slice (some ⟨bv, ov, none⟩) es.length c) es • dW b (.cells #[.slice (some ⟨bv, ov, none⟩) es.length c] 80 (0, 0))) _ (HL.swap.Pe.of_eq (by ac_rfl))).bool) ?_))
  rintro _ w2 ⟨t, rfl, ht1, ht2⟩
  refine Z (lJ O) (jB O (fun h2 => ?_) (fun h2 => ?_))
  ·(try simp only [aA] at h2)
   have HX := ht2 (by simpa using h2)
   refine nI (aT (aB (aB (aT (we0 results210 ?_)))))
   exact .inr (HX.of_eq (by ac_rfl))
  ·(try simp only [aA] at h2)
   have HN : V w0 w2 (dW b (.cells #[.slice (some ⟨bv, ov, none⟩) es.length c] 80 (0, 0)) • EP (.slice (some ⟨bv, ov, none⟩) es.length c) es • J (es.length - m)) := by
    have h9 := ht1 (by simpa using h2)
    rw [show es.length - (m + 1) + 1 = es.length - m from by omega] at h9
    exact h9.of_eq (by ac_rfl)
   refine cZ (aK (aX (aC (bT O (Z (iV O O (by omega)) (iK O (bW ?_)))))))
   refine dV (m) ?_ ?_ ?_ ?_
   ·exact lU
   ·exact uJ
   ·(try dsimp only)
    first | done | exact ⟨by omega, HN.f2.f2⟩
   ·(try dsimp only); omega
 ·(try simp only [aA] at h1)
  refine dO (aO (aO (bI (lM (.inr O) results210 ?_))))
  obtain rfl : k = 0 := by omega
  rw [Nat.sub_zero] at HL
  exact .inl (HL.of_eq (by ac_rfl))
end
def KA (e : jm) : jm := (e.1, e.2.2, e.2.1)
def YX (c : Nat) (es : List fA) (k : Nat) : HP := wE fun (x : Value × List fA) => fact (x.2.map fA.says = ((es.map fA.says).reverse.take k).map KA) • dW c (.cells #[x.1] 80 (0, 0)) • L6 x.1 x.2
theorem YZ {es : List fA} {k : Nat} (hk : k < es.length) : ((es.map fA.says).reverse.take (k + 1)).map KA = ((es.map fA.says).reverse.take k).map KA ++ [KA (es.getD (es.length - (k + 1)) default).says] := by
  rw [List.take_succ_eq_append_getElem (by simpa using hk), List.map_append]
  congr 1
  simp only [List.map_cons, List.map_nil, List.getElem_reverse, List.getElem_map, List.length_map]
  rw [List.getD_eq_getElem?_getD, List.getElem?_eq_getElem (by omega)]
  have e : es.length - 1 - k = es.length - (k + 1) := by omega
  simp only [Option.getD_some, e]
section
variable {w0 w : World} {F : HP} {p : Nat} {G : List (List jm)} {N : List jm} {op : Int} {gv nv v : Value} {gs : List (Value × List fA)} {now es : List fA} {a : Int} {d z : Value} {dl il : List Int}
theorem V.QS {c k : Nat} (H : V w0 w (YX c es k • F)) : ∃ u fs, fs.map fA.says = ((es.map fA.says).reverse.take k).map KA ∧ fs.length ≤ es.length ∧ V w0 w (dW c (.cells #[u] 80 (0, 0)) • Row 189 3 u fs.length (fs.flatMap fA.enc) • lW fs • F) := by
  obtain ⟨⟨u, fs⟩, H⟩ := H.nX
  obtain ⟨h, H⟩ := H.flat.fact
  refine ⟨u, fs, h, ?_, ?_⟩
  · have := congrArg List.length h
    simp at this
    omega
  · have := H.flat
    unfold L6 at this
    exact this.of_eq (by ac_rfl)
theorem V.Y0 {c k : Nat} {u : Value} {fs : List fA} (h : fs.map fA.says = ((es.map fA.says).reverse.take k).map KA) (H : V w0 w (dW c (.cells #[u] 80 (0, 0)) • L6 u fs • F)) : V w0 w (YX c es k • F) :=
  V.jw (u, fs) (V.deep (V.lK h H.deep))
theorem V.acU (H : V w0 w (EP v es • F)) {k : Nat} (hk : k < es.length) : V w0 w (oP .i32 (es.getD k default).d (es.getD k default).dl • oP .i32 (es.getD k default).i (es.getD k default).il • EP v es • F) := by
  have h1 : V w0 w (oP .i32 (es.getD k default).d (es.getD k default).dl • EP v es • EP v es • F) := H.Pe.Pe.F7 (qN (fun I h => (h.2 k hk).1) _)
  have h2 : V w0 w (oP .i32 (es.getD k default).i (es.getD k default).il • oP .i32 (es.getD k default).d (es.getD k default).dl • EP v es • F) := h1.swap.F7 (qN (fun I h => (h.2 k hk).2) _)
  exact h2.swap
theorem Xb (H : V w0 w F) (hv : v.oneCell' = true) : iE prog 197 #[v] w fun v' w' => ∃ b, v' = .func (.func 210) #[] #[.pointer (some ⟨b, 0, none⟩)] ∧ V w0 w' (dW b (.cells #[v] 80 (0, 0)) • F) := by
  refine iZ func197 ntmps197 ?_
  refine iR (kD (jL (l := [_]) H O (by first | rfl | exact Em (by first | rfl | assumption))) ?_)
  rintro _ w1 ⟨b1, rfl, H1⟩
  refine fG O (iR (Z (zf O O) (fB O (dL results197 O ?_))))
  exact ⟨_, O, H1⟩
theorem Gw (H : V w0 w (EP v es • F)) (hB : ∀ k, k < es.length → EB (es.getD k default).says) (hL : es.length ≤ 16384) :
  iE prog 178 #[v] w fun v' w' => ∃ fs : List fA, fs.map fA.says = (es.map fA.says).reverse.map KA ∧ V w0 w' (Row 189 3 v' fs.length (fs.flatMap fA.enc) • lW fs • EP v es • F) := by
 refine iZ func178 ntmps178 ?_
 refine jQ O (iR (kD (iC (l := [_]) H nJ O) ?_))
 rintro _ w1 ⟨b1, rfl, H1⟩
 refine qQ (bQ O (dS O func197 (Xb H1 (Rd.one ((H1.f2).yg))) ?_))
 rintro _ w2 ⟨bB2, rfl, H2⟩
 refine iJ (aY ?_)
 have Xc := H2.f2
 have VG := V.Y0 (es := es) (k := 0) (fs := []) rfl (Xc.uG none).swap
 refine BM O (Xa bB2) (fun k => YX b1 es k • F) (fact False) (fun _ => fact False) (VG.f3.f3.f3.f3.f3.g2.comm) (by rfl) ?_ ?_ ?_ ?_
 ·rintro l5 k acV vs5 A5 ⟨rfl, rfl⟩ G5 w5 H5
  try simp only [dG, pO, yG] at H5
  refine ⟨O, ?_⟩
  dsimp only [Ue]
  have Hq := (H5).acU (k := es.length - (k + 1)) (by omega)
  obtain ⟨hb1, hb2⟩ := hB (es.length - (k + 1)) (by omega)
  have hb1 : (es.getD (es.length - (k + 1)) default).dl.length ≤ 35184372087808 := hb1
  have hb2 : (es.getD (es.length - (k + 1)) default).il.length ≤ 35184372087808 := hb2
  obtain ⟨u, fs, hfs, hfl, HI⟩ := (Hq.f4).QS
  refine aC (kD (iC (l := [_, _, _]) HI dQ O) ?_)
  rintro _ w6 ⟨b6, rfl, H6⟩
  refine aJ (dB 0 (l' := [_, _, _]) (us := [_, _, _]) H6 cO O O O (aG (aZ (by first | rfl | exact Rd.one ((H6.f5).kR)) (aZ (by first | rfl | exact Rd.one ((H6.f6).kR)) bU))) O O) ?_
  rintro _ w7 H7
  refine bW ?_
  refine Ud (H7.g8) ?_
  intro G8 w8 H8
  try simp only [dG] at H8
  refine aY ?_
  have aeq := H8.drew
  have Y1 := V.kp (aeq.f7.f7.f7.f7.f7.f7.f7)
  refine yH [0, 1] Y1 O (jO 0 O Y1 (fun W hW => jV aW O ((Kp.h hW).f2).get.2 O) (jO 1 O Y1 (fun W hW => dM bf O cO O O ((Kp.h hW)).get.2) (mZ 2 O (xq O func198 (Ia aeq (fun W HW => (HW.f5).kR) (fun W HW => (HW.f6).kR) (by omega) (by omega))) ?_)))
  rintro _ w9 ⟨d9, s9, rfl, H9⟩
  have Ua := V.kp (H9.f9.f9.f9.f9.f9.f9.f9.f9.f9)
  refine eF Ua (fun W hW => (Kp.h hW).right.right.f7.f7.f7.f7.f7.f7.f7) ?_
  refine mZ 3 O (uQ H9 aW cO dQ O O O (by decide) (by decide)) ?_
  rintro l10 w10 pR
  have Y2 := V.kp (pR.f10.f10.f10.f10.f10.f10.f10.f10.f10.f10)
  refine eF Y2 (fun W hW => (Kp.h hW).right.f9.f9.f9.f9.f9.f9.f9.f9.f9) ?_
  refine mZ 4 O (iy pR.f6 aW AB O O O ((pR).aS) (aG (aZ (by first | rfl | exact Rd.one ((pR.f2).aS)) (aZ (by first | rfl | exact Rd.one ((pR.f3).aS)) bU))) (by omega) (by omega)) ?_
  rintro l11 Fv tq
  have ML := tq.f2.right
  have Kv := V.kp (ML.f9.f9.f9.f9.f9.f9.f9.f9.f9)
  refine iG Kv (by kernel_rfl) ?_
  refine gB 5 O (by kernel_rfl) (fP 0 (l' := [_]) ML.f5 bP O O (by first | rfl | exact Rd.one ((ML).aS)) O O) ?_
  rintro _ Qh wo
  have yB := V.kp (wo.f9.f9.f9.f9.f9.f9.f9.f9.f9)
  refine iG yB (by kernel_rfl) ?_
  refine qV (aK ?_)
  refine Ky ?_
  have X := (wo.f5.right.f6.right.f6.right.f6.right.f6.f2.f6.f4.f6.f6).lN.swap.lN.swap
  have X2 := V.Bf X.f3
  exact (V.Y0 (es := es) (k := k + 1) (by rw [List.map_append, hfs, YZ (by omega)]; rfl) X2.swap).deep
 ·rintro D14 OQ AZ
  have QG := AZ.ed
  try simp only [dG, pO, yG] at QG
  have acW := QG.Vq
  obtain ⟨u, fs, hfs, hfl, HI⟩ := (acW.f4).QS
  refine aK (aX (iR (fM aW O (HI).get.2 O (fB O ?_))))
  refine Jt (.inl O) (HI.f4) (fun QE zU => ?_)
  refine ⟨_, acH results178 O, ?_⟩
  rw [List.take_of_length_le (by simp)] at hfs
  exact ⟨_, hfs, zU.right.f3.right.f3.f3.f3⟩
 ·rintro D w H; exact absurd H.swap.fact.1 id
 ·rintro id D w H; exact absurd H.swap.fact.1 fun h => h
end
def Y3 (G : List (List jm)) (N : List jm) : Int := if G.length + N.length = 0 then 6 else 0
def VH (G : List (List jm)) (N : List jm) : List (List jm) := if G.length + N.length = 0 then G else (oH G N).dropLast
def VI (G : List (List jm)) (N : List jm) : List jm := if G.length + N.length = 0 then N else []
def VJ (G : List (List jm)) (N : List jm) (op : Int) : Int := if G.length + N.length = 0 then op else 0
def ab9 (G : List (List jm)) (N : List jm) : List jm := if G.length + N.length = 0 then [] else ((oH G N).getLastD []).reverse.map KA
theorem NY {G : List (List jm)} {g N : List jm} : gV (G ++ [g]) N = gV G N + g.length := by simp [gV]; omega
section
variable {w0 w : World} {F : HP} {p : Nat} {G : List (List jm)} {N : List jm} {op : Int} {gv nv v : Value} {gs : List (Value × List fA)} {now es : List fA} {a : Int} {d z : Value} {dl il : List Int}
theorem Uh (h : ¬ G.length + N.length = 0) : oH G N ≠ [] := by
  unfold oH; split
  · rename_i hN; rintro rfl; subst hN; exact h rfl
  · simp
theorem V.Ui (H : V w0 w (jo p G [] op • F)) (hG : G ≠ []) : ∃ gv nv hs gl zQ, G = hs.map (fun g => g.2.map fA.says) ++ [zQ.map fA.says] ∧ UOk G [] op ∧ G.length = hs.length + 1 ∧ hs.length ≤ 16384 ∧ zQ.length ≤ 16384 ∧ (∀ k, k < zQ.length → EB (zQ.getD k default).says) ∧
    V w0 w (dW p (.cells #[gv, nv, .int .i64 op, .int .i64 (gV G [] : Nat), .bool true] 235 (0, 0)) • Row 80 1 gv (hs.length + 1) (hs.map (·.1) ++ [gl]) • pY hs • EP gl zQ • L6 nv [] • F) := by
  obtain ⟨gv, nv, gs, now, h1, h2, h3, h4, h5, h6, H⟩ := H.zu
  obtain rfl : now = [] := List.eq_nil_of_length_eq_zero (by simpa using h5)
  rcases List.eq_nil_or_concat gs with rfl | ⟨hs, ⟨gl, zQ⟩, rfl⟩
  · exact absurd h2.symm hG
  · have hG2 : G = hs.map (fun g => g.2.map fA.says) ++ [zQ.map fA.says] := by rw [← h2]; simp
    have hle : zQ.length ≤ 16384 := by
      have := h1.2.1
      rw [hG2, NY] at this
      simp at this
      omega
    refine ⟨gv, nv, hs, gl, zQ, hG2, h1, ?_, ?_, hle, fun k hk => ?_, ?_⟩
    · rw [hG2]; simp
    · rw [hG2] at h6; simp at h6; omega
    · refine h1.2.2.2.2.1 (zQ.map fA.says) (by rw [hG2]; simp) _ ?_
      rw [List.getD_eq_getElem?_getD, List.getElem?_eq_getElem hk]
      exact List.mem_map_of_mem (List.getElem_mem hk)
    · rw [List.concat_eq_append, List.length_append, List.map_append] at H
      have H1 := (H.f3.QI (k := hs.length) (by simp)).swap
      rw [show (hs ++ [(gl, zQ)]).getD hs.length default = (gl, zQ) from by simp [List.getD_eq_getElem?_getD]] at H1
      have H2 := H1.QJ hs.length
      rw [List.take_left' rfl] at H2
      exact H2.of_eq (by unfold L6; ac_rfl)
theorem ER (H : V w0 w (jo p G N op • F)) : iE prog 136 #[.pointer (some ⟨p, 0, none⟩)] w fun v w' => ∃ u, ∃ fs : List fA, v = .tuple #[u, .int .i64 (Y3 G N)] ∧ fs.map fA.says = ab9 G N ∧
  V w0 w' (Row 189 3 u fs.length (fs.flatMap fA.enc) • lW fs • jo p (VH G N) (VI G N) (VJ G N op) • F) := by
 unfold Y3 ab9 VH VI VJ
 refine iZ func136 ntmps136 ?_
 refine iR (iK O (uZ O (bQ O (dS O func158 (lQ H) ?_))))
 rintro _ _ ⟨rfl, rfl⟩
 refine iJ (qo (gG (aN (aN ?_))))
 obtain ⟨Dc, AA, oW, nY, lX, wL, vk, Ib, Ic, MK, rH⟩ := (H).zu
 have EI := rH.drew
 have jf := V.kp (EI.f5.f5.f5.f5.f5)
 refine yH [4, 10] jf O (iQ 0 O jf O (jU 1 O jf O (gU 2 O jf 0 bM O dJ O (gU 3 O jf 0 bV O gq O (jO 4 O jf (fun W hW => jV bK O ((Kp.h hW)).get.2 O) (jC 5 O jf (fun _ => kK ((EI.f2).aS) bK O) (iQ 6 O jf O (jU 7 O jf O (gU 8 O jf 0 bM O dJ O (gU 9 O jf 1 bV O bP O (jO 10 O jf (fun W hW => jV aW O ((Kp.h hW)).get.2 O) (jC 11 O jf (fun _ => kK ((EI.f4).aS) aW O) (jC 12 O jf (fun _ => fJ O O (by omega)) (jC 13 O jf (fun _ => dX O O) (qV (aX (bD O (fun h1 => ?_) (fun h1 => ?_))))))))))))))))))
 ·(try simp only [aA] at h1)
  have hGN : G.length + N.length = 0 := by omega
  have QL := EI.f5.f5.f5.f5.f5
  have Qi := V.oM lX wL vk rfl QL
  refine iR (iK O (fB O (aB (NR results136 O O ?_))))
  simp only [if_pos hGN]
  exact ⟨_, [], O, O, ((Qi).uG none).edL⟩
 ·(try simp only [aA] at h1)
  have hGN : ¬ G.length + N.length = 0 := by omega
  have Y4 := EI.f5.f5.f5.f5.f5
  have Y5 := V.oM lX wL vk rfl Y4
  refine gG (bQ O (dS O func177 (DF Y5) ?_))
  rintro _ w9 H9
  refine qQ ?_
  obtain ⟨gv, nv, hs, gl, zQ, hG, hok, hl1, hl2, hl3, hEB, HU⟩ := (H9).Ui (Uh hGN)
  have htot := hok.2.1
  refine aC (nG O O (bJ 0 bM O dJ O (bJ 0 bV O gq O (fM bK O (HU).get.2 O (Z (kK ((HU.f2).aS) bK O) (Z (iV O O (by omega)) (fG O (bQ O (dK O (bJ 0 bM O dJ O (bJ 0 bV O gq O (fM bK O (HU).get.2 O (bT O ?_)))))))))))))
  obtain ⟨bgv, ogv, cgv, egv⟩ := Rd.rM ((HU.f2).aS) (by omega)
  cases egv
  refine Z (dP bK bP O O (by omega)) ?_
  refine Z (fK (dA aW O) O (by first | exact Rd.ni ((HU.f2).aS) (by omega) | exact Rd.yc ((HU.f2).aS) (by omega) | exact Rd.yx ((HU.f2).aS) (by omega))) ?_
  rw [show (hs.map (·.1) ++ [gl]).getD ((((hs.length + 1 : Nat)) : Int) - 1).toNat undef = gl from by rw [show ((((hs.length + 1 : Nat)) : Int) - 1).toNat = hs.length from by omega]; simp [List.getD_eq_getElem?_getD]]
  refine fG O (bQ O (nG O O (bJ 0 bM O dJ O (bJ 0 bV O gq O (fM bK O (HU).get.2 O (bT O (Z (zn ((HU.f2).aS) bK bP O O O (by omega)) ?_)))))))
  refine dK O (bJ 0 bM O dJ O (bJ 0 bV O gq O (aJ (fP 0 (l' := [_, _, _, _, _]) HU gq O O (by first | rfl | exact Rd.one (Rd.aej ((HU.f2).aS) (by omega))) O O) ?_)))
  rintro _ w10 pR
  refine rG O (dK O (bJ 0 bM O dJ O (bJ 3 bV O ay O (fM aH O (pR).get.2 O (bT O (Z (kK ((pR.f4).yg) aW O) (Z (iV O O (by omega)) (dK O (bJ 0 bM O dJ O (bJ 3 bV O ay O (aJ (st5 3 pR ay) ?_)))))))))))
  rintro _ Fv tq
  refine rG O (dS O func178 (Gw tq.f4 hEB hl3) ?_)
  rintro u12 w12 ⟨Y6, aca, vZ⟩
  refine iK O (fB O (NR results136 O O ?_))
  simp only [if_neg hGN]
  have hdl : (oH G N).dropLast = hs.map (fun g => g.2.map fA.says) := by rw [hG]; simp
  have hlast : (oH G N).getLastD [] = zQ.map fA.says := by rw [hG]; simp
  have hX := (vZ.f3.right.f6.f6.f5.f5.f5.f6).Yz (h := hs.length) (by omega)
  rw [hdl, hlast]
  rw [Nat.mul_one, List.take_left' (by simp), show (((hs.length + 1 : Nat) : Int) - 1).toNat = hs.length from by omega, show Int.toNat 0 = 0 from rfl] at hX
  have hT : gV (oH G N) [] = gV (hs.map (fun g => g.2.map fA.says)) [] + zQ.length := by rw [hG, NY, List.length_map]
  have hok2 : UOk (hs.map (fun g => g.2.map fA.says)) [] 0 := ⟨fun g hg => hok.1 g (by rw [hG]; exact List.mem_append_left _ hg), by omega, by decide, by decide, fun g hg => hok.2.2.2.2.1 g (by rw [hG]; exact List.mem_append_left _ hg), by simp⟩
  refine ⟨_, _, O, (by assumption), ?_⟩
  have hU := V.xH (gv := vJ 1 0 hs.length (.slice (some ⟨bgv, ogv, none⟩) (hs.length + 1) cgv)) (nv := nv) (gs := hs) (now := []) (ed := (gV (oH G N) [] : Nat) - (zQ.length : Int)) (F := Row 189 3 u12 Y6.length (Y6.flatMap fA.enc) • lW Y6 • F) hok2 rfl rfl (by omega) (hX.of_eq (by unfold FB; ac_rfl))
  exact hU.of_eq (by ac_rfl)
end
def AO (op : Int) : Int := if op = 0 then 1 else 0
def acX (G : List (List jm)) (N : List jm) (op : Int) : List (List jm) := if op = 1 then oH G N else G
def acY (N : List jm) (op : Int) : List jm := if op = 1 then [] else N
def abd (op : Int) : Int := if op = 0 then 0 else op - 1
theorem Xd {es : List fA} {k : Nat} (hk : k < es.length) : (es.take (k + 1)).map fA.says = (es.take k).map fA.says ++ [(es.getD k default).says] := by
  rw [List.take_succ_eq_append_getElem hk, List.map_append, List.getD_eq_getElem?_getD, List.getElem?_eq_getElem hk]
  rfl
section
variable {w0 w : World} {F : HP} {p : Nat} {G : List (List jm)} {N : List jm} {op : Int} {gv nv v : Value} {gs : List (Value × List fA)} {now es : List fA} {a : Int} {d z : Value} {dl il : List Int}
theorem BN (H : V w0 w (jo p G N op • F)) : iE prog 139 #[.pointer (some ⟨p, 0, none⟩)] w fun v w' => v = .int .i64 (AO op) ∧ V w0 w' (jo p (acX G N op) (acY N op) (abd op) • F) := by
 unfold AO acX acY abd
 refine iZ func139 ntmps139 ?_
 refine jQ O (aN (bQ O (dS O func158 (lQ H) ?_)))
 rintro _ _ ⟨rfl, rfl⟩
 refine iJ (qo (gG (aN (aN ?_))))
 obtain ⟨Dc, AA, oW, nY, lX, wL, vk, Ib, Ic, MK, rH⟩ := (H).zu
 have hop := lX.2.2.1
 have hop2 := lX.2.2.2.1
 refine aC (nG O O (bJ 0 bM O dJ O (bJ 2 bV O ay O (fM aH O (rH).get.2 O (Z (dX O O) (jB O (fun h1 => ?_) (fun h1 => ?_)))))))
 ·(try simp only [aA] at h1)
  have h0 : op = 0 := by omega
  refine jM O (aB (dL results139 O ?_))
  have QL := rH.f5.f5.f5.f5.f5
  have Qi := V.oM lX wL vk rfl QL
  subst h0
  exact ⟨O, Qi⟩
 ·(try simp only [aA] at h1)
  have h0 : ¬ op = 0 := by omega
  refine gG (aN (bQ O (dK O (bJ 0 bM O dJ O (bJ 2 bV O ay O (fM aH O (rH).get.2 O (Z (iV O O (by omega)) (dK O (bJ 0 bM O dJ O (bJ 2 bV O ay O (aJ (st5 2 rH ay) ?_)))))))))))
  rintro _ w6 H6
  refine rG O (dK O (bJ 0 bM O dJ O (bJ 2 bV O ay O (fM aH O (H6).get.2 O (Z (dX O O) (jB O (fun h2 => ?_) (fun h2 => ?_)))))))
  ·(try simp only [aA] at h2)
   have h1 : op = 1 := by omega
   have Y4 := H6.f5.f5.f5.f5.f5
   have Y5 := V.oM (op := op - 1) ⟨lX.1, lX.2.1, by omega, by omega, lX.2.2.2.2⟩ wL vk rfl Y4
   refine aC (bT O (dS O func177 (DF Y5) ?_))
   rintro _ w9 H9
   refine iJ (jM O (dL results139 O ?_))
   subst h1
   exact ⟨O, H9⟩
  ·(try simp only [aA] at h2)
   have h1 : ¬ op = 1 := by omega
   refine gG (jM O (dL results139 O ?_))
   rw [if_neg h0, if_neg h1, if_neg h1, if_neg h0]
   exact ⟨O, V.oM ⟨lX.1, lX.2.1, by omega, by omega, lX.2.2.2.2⟩ wL vk O H6.f5.f5.f5.f5.f5⟩
theorem KC (H : V w0 w F) (hv : WI w0 F 3 v es.length (es.flatMap fA.enc)) (he : ∀ k, k < es.length → jF w0 F .i32 (es.getD k default).d (es.getD k default).dl ∧ jF w0 F .i32 (es.getD k default).i (es.getD k default).il)
  (hB : ∀ k, k < es.length → EB (es.getD k default).says) (hL : es.length ≤ 16384) :
  iE prog 173 #[v] w fun v' w' => ∃ fs : List fA, fs.map fA.says = es.map fA.says ∧ V w0 w' (Row 189 3 v' fs.length (fs.flatMap fA.enc) • lW fs • F) := by
 refine iZ func173 ntmps173 ?_
 refine jQ O (jQ O (aN (bQ O (Z (kK (hv _ (H)) aW O) (bT O (iJ (aY ?_)))))))
 refine gW [(6, _), (7, _)] (fun (⟨k, u⟩ : Nat × Value) => [(3, u), (8, .int .i64 (k : Int))]) (fun (⟨k, u⟩ : Nat × Value) W => k ≤ es.length ∧ ∃ fs : List fA, fs.map fA.says = (es.take k).map fA.says ∧ V w0 W (Row 189 3 u fs.length (fs.flatMap fA.enc) • lW fs • F)) (fun (⟨k, u⟩ : Nat × Value) => es.length - k) ((0, .slice none 0 0)) uJ uJ ⟨by omega, [], O, (H.uG none).edL⟩ ?_
 rintro ⟨k, u⟩ w1 ⟨hk, fs, hfs, HL⟩
 dsimp only [List.cons_append, List.nil_append]
 refine iR (Z (fZ O O) (qQ (bD O (fun h1 => ?_) (fun h1 => ?_))))
 ·(try simp only [aA] at h1)
  refine gG (aN (aY (iR ?_)))
  obtain ⟨bv, ov, cv, ev⟩ := Rd.rM (hv _ (HL.right.right)) (by omega)
  cases ev
  refine Z (dP aW cO O O (by omega)) (Z (uS (ys := [_, _, _]) (hv _ (HL.right.right)) (by omega) bf O cO O (wK fA.Gt (by omega) default) O) ?_)
  have hkl : k < es.length := by omega
  obtain ⟨f1, f2⟩ := he k hkl
  obtain ⟨hb1, hb2⟩ := hB k hkl
  have hb1 : (es.getD k default).dl.length ≤ 35184372087808 := hb1
  have hb2 : (es.getD k default).il.length ≤ 35184372087808 := hb2
  have hfl : fs.length = k := by have h9 := congrArg List.length hfs; simp at h9; omega
  refine kD (iC (l := [_, _, _]) HL dQ O) ?_
  rintro _ w2 ⟨b2, rfl, H2⟩
  refine aJ (dB 0 (l' := [_, _, _]) (us := [_, _, _]) H2 cO O O O (aG (aZ (by first | rfl | exact Rd.one (f1 _ (H2.right.right.right))) (aZ (by first | rfl | exact Rd.one (f2 _ (H2.right.right.right))) bU))) O O) ?_
  rintro _ w3 H3
  refine iJ (aC (bT O (Z (dM bf O cO O O (H3).get.2) (dS O func179 (yM H3 (fun W HW => f1 _ (HW.right.right.right)) (fun W HW => f2 _ (HW.right.right.right)) (by omega) (by omega)) ?_))))
  rintro _ w4 ⟨d4, s4, rfl, H4⟩
  refine kD (uQ H4 aW cO dQ O O O (by decide) (by decide)) ?_
  rintro l5 w5 H5
  refine kD (iy H5.f5 aW AB O O O ((H5).aS) (aG (aZ (by first | rfl | exact Rd.one ((H5.f2).aS)) (aZ (by first | rfl | exact Rd.one ((H5.f3).aS)) bU))) (by omega) (by omega)) ?_
  rintro l6 w6 H6
  have Hd7 := H6.f2.right
  refine iK O (bW (aK (aX (aC (Z (fJ O O (by omega)) (bT O (bW ?_)))))))
  refine dV ((k + 1, l6)) ?_ ?_ ?_ ?_
  ·exact uJ
  ·exact uJ
  ·(try dsimp only)
   first | done | exact ⟨by omega, _, by rw [List.map_append, hfs, Xd (by omega)]; rfl, (V.Bf (Hd7.f4.right.f4.f2.f4.f4).lN.swap.lN.swap.f3).edL⟩
  ·(try dsimp only); omega
 ·(try simp only [aA] at h1)
  refine dO (aO (aO (bI (aX (bQ O (fB O (dL results173 O ?_)))))))
  rw [List.take_of_length_le (by omega)] at hfs
  exact ⟨_, hfs, HL.f2.f2⟩
theorem V.qZ {es : List fA} (H : V w0 w (lW es • F)) {k : Nat} (hk : k < es.length) : gJ w .i32 (es.getD k default).d (es.getD k default).dl ∧ gJ w .i32 (es.getD k default).i (es.getD k default).il := let ⟨I, h, hI⟩ := H.uF; ⟨(h k hk).1.rd hI, (h k hk).2.rd hI⟩
theorem DI (H : V w0 w (Row 189 3 v es.length (es.flatMap fA.enc) • lW es • F)) (hB : ∀ k, k < es.length → EB (es.getD k default).says) (hL : es.length ≤ 16384) :
    iE prog 173 #[v] w fun v' w' => ∃ fs : List fA, fs.map fA.says = es.map fA.says ∧ V w0 w' (Row 189 3 v' fs.length (fs.flatMap fA.enc) • lW fs • Row 189 3 v es.length (es.flatMap fA.enc) • lW es • F) :=
  KC H (fun W HW => HW.aS) (fun k hk => ⟨fun W HW => (HW.right.qZ hk).1, fun W HW => (HW.right.qZ hk).2⟩) hB hL
theorem AP (H : V w0 w (EP v es • F)) (hB : ∀ k, k < es.length → EB (es.getD k default).says) (hL : es.length ≤ 16384) :
    iE prog 173 #[v] w fun v' w' => ∃ fs : List fA, fs.map fA.says = es.map fA.says ∧ V w0 w' (Row 189 3 v' fs.length (fs.flatMap fA.enc) • lW fs • EP v es • F) :=
  KC H (fun W HW => HW.yg) (fun k hk => ⟨fun W HW => HW.aek hk, fun W HW => HW.ael hk⟩) hB hL
end
def ahm (G : List (List jm)) (N : List jm) : List jm := (oH G N).flatten.reverse.map KA
section
variable {w0 w : World} {F : HP} {p : Nat} {G : List (List jm)} {N : List jm} {op : Int} {gv nv v u : Value} {gs : List (Value × List fA)} {now es fs : List fA} {a : Int} {d z : Value} {dl il : List Int}
theorem KD (H : V w0 w (jo p G N op • F)) : iE prog 204 #[.pointer (some ⟨p, 0, none⟩)] w fun _ w' => V w0 w' (jo p [] [] 0 • F) := by
 refine iZ func204 ntmps204 ?_
 refine bQ O (dS O func158 (lQ H) ?_)
 rintro _ _ ⟨rfl, rfl⟩
 refine Z (lJ O) (iJ (wcE O (fun h1 => ?_)))
 (try simp only [aA] at h1)
 obtain ⟨Dc, AA, oW, nY, lX, wL, vk, Ib, Ic, MK, rH⟩ := (H).zu
 refine aC (bT O (Z (mJ (pl := #[(0, 4), (4, 1)]) (#[_, _, _, _, _]) bM zeroValue235 (fun w => by kernel_rfl) O (O)) (dK O (aJ (dB 0 (l' := [_, _, _, _, _]) (us := [_, _, _, _, _]) rH sizeOf235 O O O (aG (aG (aG (aG (aG bU))))) O O) ?_))))
 rintro _ w3 H3
 refine bW (lM (.inr O) results204 ?_)
 refine V.xH (gv := .slice none 0 0) (nv := .slice none 0 0) (gs := []) (now := []) ⟨by simp, by decide, by decide, by decide, by simp, by simp⟩ O O O ?_
 exact (((H3.f2.right.f2.right.f2.right.f2.right).uG none).Gu none).of_eq (by ac_rfl)
theorem V.Y7 (H : V w0 w (EP v es • F)) : ∀ x ∈ es.flatMap fA.enc, x.oneCell' = true :=
  V.DC (es := es) (w0 := w0) (w := w) (F := F) (H.F7 (qN (fun I h => h.2) F))
theorem V.Jz (H : V w0 w (pY gs • F)) {k : Nat} {gl : Value} {zQ : List fA} (hk : k < gs.length) (hg : gs.getD k default = (gl, zQ)) : V w0 w (EP gl zQ • pY gs • F) := by
  have := H.QI hk
  rwa [hg] at this
end
end Go.Proofs.YtpdeedplgmbopaaGreatDoor
end
