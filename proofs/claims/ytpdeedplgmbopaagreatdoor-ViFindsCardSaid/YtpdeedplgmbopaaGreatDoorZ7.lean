import Derived.Test.YtpdeedplgmbopaaGreatDoorZ4
import Derived.Test.YtpdeedplgmbopaaGreatDoorZ6
set_option linter.unusedSimpArgs false
set_option linter.unusedVariables false
/- Texts of mine, joined, their names in short: UList Range UList2 UList3 UList4 UList5 UList6. -/
section
namespace Go.Proofs.YtpdeedplgmbopaaGreatDoor
open Go.RowKit
open _root_.Go.Proofs.Tryz
abbrev iT := Int × List Int × List Int
def iE (G : List (List iT)) (N : List iT) : Nat := (G.map List.length).sum + N.length
def EB (e : iT) : Prop := e.2.1.length ≤ 35184372087808 ∧ e.2.2.length ≤ 35184372087808
theorem XM {N : List iT} {x : iT} (h : ∀ e ∈ N, EB e) (hx : EB x) : ∀ e ∈ N ++ [x], EB e := fun e he => by
  rcases List.mem_append.1 he with he | he
  · exact h e he
  · rw [List.mem_singleton.1 he]; exact hx
theorem MG {G : List (List iT)} {N : List iT} (h : ∀ g ∈ G, ∀ e ∈ g, EB e) (hx : ∀ e ∈ N, EB e) : ∀ g ∈ G ++ [N], ∀ e ∈ g, EB e := fun g hg => by
  rcases List.mem_append.1 hg with hg | hg
  · exact h g hg
  · rw [List.mem_singleton.1 hg]; exact hx
theorem QH {G : List (List iT)} {N : List iT} (h : ∀ g ∈ G, g ≠ []) (hx : N ≠ []) : ∀ g ∈ G ++ [N], g ≠ [] := fun g hg => by
  rcases List.mem_append.1 hg with hg | hg
  · exact h g hg
  · rw [List.mem_singleton.1 hg]; exact hx
def XO (G : List (List iT)) (N : List iT) (op : Int) : Prop := (∀ g ∈ G, g ≠ []) ∧ iE G N ≤ 16384 ∧ 0 ≤ op ∧ op ≤ 4611686018427387904 ∧ (∀ g ∈ G, ∀ e ∈ g, EB e) ∧ ∀ e ∈ N, EB e
theorem O6 {G : List (List iT)} (h : ∀ g ∈ G, g ≠ []) : G.length ≤ (G.map List.length).sum := by
  induction G with
  | nil => simp
  | cons g G ih =>
    have h1 := ih fun x hx => h x (by simp [hx])
    have h2 : 0 < g.length := List.length_pos_iff.2 (h g (by simp))
    simp; omega
theorem XO.len {G : List (List iT)} {N : List iT} {op : Int} (h : XO G N op) : G.length + N.length ≤ 16384 := by
  have := O6 h.1
  have := h.2.1
  unfold iE at this
  omega
def iP (p : Nat) (G : List (List iT)) (N : List iT) (op : Int) : HP := rQ fun (x : Value × Value × List (Value × List dQ) × List dQ) =>
  fact (XO G N op ∧ x.2.2.1.map (fun g => g.2.map dQ.says) = G ∧ x.2.2.2.map dQ.says = N) • dL p (.cells #[x.1, x.2.1, .int .i64 op, .int .i64 (iE G N : Nat), .bool true] 235 (0, 0)) • BG x.1 x.2.2.1 • Js x.2.1 x.2.2.2
section
variable {w0 w : World} {F : HP} {p : Nat} {G : List (List iT)} {N : List iT} {op : Int} {gv nv : Value} {gs : List (Value × List dQ)} {now : List dQ} {a : Int} {d z : Value} {dl il : List Int}
theorem V.yA (H : V w0 w (iP p G N op • F)) : ∃ gv nv gs now, XO G N op ∧ gs.map (fun g => g.2.map dQ.says) = G ∧ now.map dQ.says = N ∧ gs.length = G.length ∧ now.length = N.length ∧ G.length + N.length ≤ 16384 ∧
    V w0 w (dL p (.cells #[gv, nv, .int .i64 op, .int .i64 (iE G N : Nat), .bool true] 235 (0, 0)) • Row 80 1 gv gs.length (gs.map (·.1)) • nK gs • Row 189 3 nv now.length (now.flatMap dQ.enc) • kK now • F) := by
  obtain ⟨⟨gv, nv, gs, now⟩, H⟩ := H.lQ
  obtain ⟨⟨h1, h2, h3⟩, H⟩ := H.flat.fact
  refine ⟨gv, nv, gs, now, h1, h2, h3, ?_, ?_, h1.len, ?_⟩
  · rw [← h2]; simp
  · rw [← h3]; simp
  · have := H.flat
    unfold BG Js at this
    exact this.of_eq (by ac_rfl)
theorem V.wB (h1 : XO G N op) (h2 : gs.map (fun g => g.2.map dQ.says) = G) (h3 : now.map dQ.says = N) {ed : Int} (he : ed = (iE G N : Nat))
    (H : V w0 w (dL p (.cells #[gv, nv, .int .i64 op, .int .i64 ed, .bool true] 235 (0, 0)) • BG gv gs • Js nv now • F)) : V w0 w (iP p G N op • F) := by
  subst he
  exact V.iy (gv, nv, gs, now) (V.deep (V.kD ⟨h1, h2, h3⟩ (H.of_eq (by ac_rfl))))
theorem V.nM (h1 : XO G N op) (h2 : gs.map (fun g => g.2.map dQ.says) = G) (h3 : now.map dQ.says = N) {ed : Int} (he : ed = (iE G N : Nat))
    (H : V w0 w (dL p (.cells #[gv, nv, .int .i64 op, .int .i64 ed, .bool true] 235 (0, 0)) • Row 80 1 gv gs.length (gs.map (·.1)) • nK gs • Row 189 3 nv now.length (now.flatMap dQ.enc) • kK now • F)) : V w0 w (iP p G N op • F) :=
  V.wB h1 h2 h3 he (H.of_eq (by unfold BG Js; ac_rfl))
theorem mX (H : V w0 w (iP p G N op • F)) : gJ prog 158 #[.pointer (some ⟨p, 0, none⟩)] w fun v w' => v = .bool false ∧ w = w' := by
 refine iG func158 ntmps158 ?_
 refine jr O (aP ?_)
 obtain ⟨AV, yR, nN, mQ, lF, vw, rZ, F8, F9, MH, qH⟩ := (H).yA
 refine aC (bP O (aV (iR underlying184 O O) (jF O (fun h1 => ?_) (fun h1 => ?_))))
 ·(try simp only [Z] at h1)
  exfalso; first | contradiction | omega
 ·(try simp only [Z] at h1)
  refine bC (bP O (bC (dJ O (bC (bD 4 bn O aO O (bC (fZ bK O (qH).get.2 O (bC (aV (kT O) (iL O O (fC O (dH results158 O ?_))))))))))))
  exact ⟨O, O⟩
theorem Kw (H : V w0 w F) : gJ prog 174 #[] w fun v w' => ∃ p, v = .pointer (some ⟨p, 0, none⟩) ∧ V w0 w' (iP p [] [] 0 • F) := by
  refine RS func174 ntmps174 ?_
  refine jr O (iH (aV (pI (pl := #[(0, 4), (4, 1)]) (#[_, _, _, _, _]) bn zeroValue235 (fun w => by kernel_rfl) O (O)) (jv (iM (l := [_, _, _, _, _]) H O O) ?_)))
  rintro _ w1 ⟨b1, rfl, H1⟩
  refine fC O (dH results174 O ?_)
  refine ⟨_, O, V.wB (gv := .slice none 0 0) (nv := .slice none 0 0) (gs := []) (now := []) ⟨by simp, by decide, by decide, by decide, by simp, by simp⟩ O O O ?_⟩
  exact (((H1).rE none).F7 none).of_eq (by ac_rfl)
theorem Ky (H : V w0 w (iP p G N op • F)) : gJ prog 120 #[.pointer (some ⟨p, 0, none⟩)] w fun v w' => v = .int .i64 ((G.length : Int) + min 1 N.length) ∧ V w0 w' (iP p G N op • F) := by
 refine iG func120 ntmps120 ?_
 refine jr O (aP (bT O (dY O func158 (mX H) ?_)))
 rintro _ _ ⟨rfl, rfl⟩
 refine iJ (qF (gq (aP ?_)))
 obtain ⟨AV, yR, nN, mQ, lF, vw, rZ, F8, F9, MH, qH⟩ := (H).yA
 have AX := qH.drew
 have gW := V.kp (AX.f5.f5.f5.f5.f5)
 refine yw [4, 10] gW O (jB 0 O gW O (kJ 1 O gW O (gU 2 O gW 0 bn O dh O (gU 3 O gW 0 bG O eU O (jT 4 O gW (fun W hW => kC bg O ((Kp.h hW)).get.2 O) (ji 5 O gW (fun _ => jw ((AX.f2).aS) bg O) (jB 6 O gW O (kJ 7 O gW O (gU 8 O gW 0 bn O dh O (gU 9 O gW 1 bG O bH O (jT 10 O gW (fun W hW => kC aU O ((Kp.h hW)).get.2 O) (ji 11 O gW (fun _ => jw ((AX.f4).aS) aU O) (ji 12 O gW (fun _ => CB O O) (ji 13 O gW (fun _ => fQ O O (by omega)) (ji 14 O gW (fun _ => dN O) (qU (aX (lS (dH results120 O ?_)))))))))))))))))))
 have O7 := AX.f5.f5.f5.f5.f5
 have OB := V.nM lF vw rZ rfl O7
 exact ⟨by rw [F8, F9]; congr 1; omega, OB⟩
theorem wC (H : V w0 w (iP p G N op • F)) (hb : op < 4611686018427387904) : gJ prog 137 #[.pointer (some ⟨p, 0, none⟩)] w fun v w' => v = .int .i64 0 ∧ V w0 w' (iP p G N (op + 1) • F) := by
 have hop : 0 ≤ op := by obtain ⟨gv, nv, gs, now, k1, _⟩ := H.yA; exact k1.2.2.1
 refine iG func137 ntmps137 ?_
 refine jr O (aP (bT O (dY O func158 (mX H) ?_)))
 rintro _ _ ⟨rfl, rfl⟩
 refine iJ (qF (gq (aP ?_)))
 obtain ⟨AV, yR, nN, mQ, lF, vw, rZ, F8, F9, MH, qH⟩ := (H).yA
 refine aC (nD O O (bD 0 bn O dh O (bD 2 bG O aj O (fZ aK O (qH).get.2 O (aV (fQ O O (by omega)) (dJ O (bD 0 bn O dh O (bD 2 bG O aj O (aH (XC 2 qH aj) ?_)))))))))
 rintro _ w3 H3
 refine iJ (jL O (dH results137 O ?_))
 exact ⟨O, V.nM ⟨lF.1, lF.2.1, by omega, by omega, lF.2.2.2.2⟩ vw rZ O H3.f5.f5.f5.f5.f5⟩
def uK (G : List (List iT)) (N : List iT) (a : Int) (dl il : List Int) : Int := if dl.length + il.length = 0 ∨ a < 0 then 1 else if 16384 ≤ iE G N then 3 else 0
def O8 (G : List (List iT)) (N : List iT) (op a : Int) (dl il : List Int) : List (List iT) := if uK G N a dl il = 0 then (if 0 < op then G else G ++ [[(a, dl, il)]]) else G
def O9 (G : List (List iT)) (N : List iT) (op a : Int) (dl il : List Int) : List iT := if uK G N a dl il = 0 then (if 0 < op then N ++ [(a, dl, il)] else N) else N
theorem QI {x : iT} : iE G (N ++ [x]) = iE G N + 1 := by simp [iE]; omega
theorem MI {x : iT} : iE (G ++ [[x]]) N = iE G N + 1 := by simp [iE]; omega
theorem Gf (h : uK G N a dl il ≠ 0) : O8 G N op a dl il = G := by unfold O8; rw [if_neg h]
theorem Gg (h : uK G N a dl il ≠ 0) : O9 G N op a dl il = N := by unfold O9; rw [if_neg h]
theorem Fj (h : uK G N a dl il = 0) (ho : 0 < op) : O8 G N op a dl il = G := by unfold O8; rw [if_pos h, if_pos ho]
theorem Fp (h : uK G N a dl il = 0) (ho : 0 < op) : O9 G N op a dl il = N ++ [(a, dl, il)] := by unfold O9; rw [if_pos h, if_pos ho]
theorem UH (h : uK G N a dl il = 0) (ho : ¬ 0 < op) : O8 G N op a dl il = G ++ [[(a, dl, il)]] := by unfold O8; rw [if_pos h, if_neg ho]
theorem UJ (h : uK G N a dl il = 0) (ho : ¬ 0 < op) : O9 G N op a dl il = N := by unfold O9; rw [if_pos h, if_neg ho]
theorem yS (H : V w0 w (iP p G N op • F)) (hd : jq w0 F .i32 d dl) (hi : jq w0 F .i32 z il) (b2 : dl.length ≤ 35184372087808) (b3 : il.length ≤ 35184372087808) :
  gJ prog 138 #[.pointer (some ⟨p, 0, none⟩), edV a d z] w fun v w' => v = .int .i64 (uK G N a dl il) ∧ V w0 w' (iP p (O8 G N op a dl il) (O9 G N op a dl il) op • F) := by
 refine nT func138 ntmps138 ?_
 refine iH (jv (iM (l := [_, _, _]) H O O) ?_)
 rintro _ w1 ⟨b1, rfl, H1⟩
 refine wu O (bT O (dY O func158 (mX H1.f2) ?_))
 rintro _ _ ⟨rfl, rfl⟩
 refine iJ (qF (gq (aP (iH (bD 1 dA O dM O (fZ ay O (H1).get.2 O (aV (iQ (hd _ (H1.right.right)) ay O) (bD 2 dA O dM O (fZ ay O (H1).get.2 O (aV (iQ (hi _ (H1.right.right)) ay O) (aV (fQ O O (by omega)) (aV (dR O O) (jF O (fun h1 => ?_) (fun h1 => ?_))))))))))))))
 ·(try simp only [Z] at h1)
  refine bJ (bJ (bJ (jE O O (iJ (Il (jL O (aF (dH results138 O ?_))))))))
  have e : uK G N a dl il = 1 := by unfold uK; rw [if_pos (by omega)]
  rw [Gf (by rw [e]; decide), Gg (by rw [e]; decide), e]
  exact ⟨O, H1.right⟩
 ·(try simp only [Z] at h1)
  refine bC (bD 0 dA O aj O (bC (fZ aK O (H1).get.2 O (bC (aV (gY O O) (iL O O (je O (fun h2 => ?_) (fun h2 => ?_))))))))
  ·(try simp only [Z] at h2)
   refine jL O (aF (dH results138 O ?_))
   have e : uK G N a dl il = 1 := by unfold uK; rw [if_pos (by omega)]
   rw [Gf (by rw [e]; decide), Gg (by rw [e]; decide), e]
   exact ⟨O, H1.right⟩
  ·(try simp only [Z] at h2)
   refine gq (aP (aP ?_))
   obtain ⟨AV, yR, nN, mQ, lF, vw, rZ, F8, F9, MH, qH⟩ := (H1.f2).yA
   refine aC (nD O O (bD 0 bn O dh O (bD 3 bG O aj O (fZ aK O (qH).get.2 O (aV (ku O O) (je O (fun h3 => ?_) (fun h3 => ?_)))))))
   ·(try simp only [Z] at h3)
    refine jL O (aF (dH results138 O ?_))
    have e : uK G N a dl il = 3 := by unfold uK; rw [if_neg (by omega), if_pos (by omega)]
    have ZP := qH.f5.f5.f5.f5.f5
    have ZQ := V.nM lF vw rZ rfl ZP
    rw [Gf (by rw [e]; decide), Gg (by rw [e]; decide), e]
    exact ⟨O, ZQ.f2.right⟩
   ·(try simp only [Z] at h3)
    refine gq (bT O (dJ O (bD 0 bn O dh O (bD 3 bG O aj O (fZ aK O (qH).get.2 O (aV (fQ O O (by omega)) (dJ O (bD 0 bn O dh O (bD 3 bG O aj O (aH (XC 3 qH aj) ?_))))))))))
    rintro _ w7 H7
    refine pK (bT O (dJ O (bD 0 bn O dh O (bD 2 bG O aj O (fZ aK O (H7).get.2 O (aV (iV O O) (je O (fun h4 => ?_) (fun h4 => ?_))))))))
    ·(try simp only [Z] at h4)
     have abE := H7.drew
     have ED := V.kp (abE.f6.f6.f6.f6.f6.f6)
     refine yw [5, 6] ED O (jB 0 O ED O (jB 1 O ED O (kJ 2 O ED O (gU 3 O ED 0 bn O dh O (gU 4 O ED 1 bG O bH O (jT 5 O ED (fun W hW => kC aU O ((Kp.h hW)).get.2 O) (jT 6 O ED (fun W hW => eY dA O dW O O ((Kp.h hW).f6).get.2) (oq 7 O (yN O func179 (vk abE (fun W HW => hd _ (HW.right.right.right.right.right.right)) (fun W HW => hi _ (HW.right.right.right.right.right.right)) (by omega) (by omega))) ?_))))))))
     rintro _ w8 ⟨d8, s8, rfl, H8⟩
     have Pe := V.kp (H8.f8.f8.f8.f8.f8.f8.f8.f8)
     refine dV Pe (fun W hW => (Kp.h hW).right.right.f6.f6.f6.f6.f6.f6) ?_
     refine oq 8 O (vI H8 aU dW gZ O O O (by decide) (by decide)) ?_
     rintro l9 w9 H9
     have Pg := V.kp (H9.f9.f9.f9.f9.f9.f9.f9.f9.f9)
     refine dV Pg (fun W hW => (Kp.h hW).right.f8.f8.f8.f8.f8.f8.f8.f8) ?_
     refine oq 9 O (fU H9.f7 aU zS O O O ((H9).aS) (aA (aW (by first | rfl | exact Rd.one ((H9.f2).aS)) (aW (by first | rfl | exact Rd.one ((H9.f3).aS)) bF))) (by omega) (by omega)) ?_
     rintro l10 w10 ql
     have Ph := ql.f2.right
     have zo := V.kp (Ph.f8.f8.f8.f8.f8.f8.f8.f8)
     refine gV zo (by kernel_rfl) ?_
     refine kJ 10 O zo O (gU 11 O zo 0 bn O dh O (gU 12 O zo 1 bG O bH O ?_))
     refine fO 13 O (by kernel_rfl) (fA 1 (l' := [_, _, _, _, _]) Ph.f4 bH O O (by first | rfl | exact Rd.one ((Ph).aS)) O O) ?_
     rintro _ w12 uI
     have Gh := V.kp (uI.f8.f8.f8.f8.f8.f8.f8.f8)
     refine gV Gh (by kernel_rfl) ?_
     have hadd : 0 < op := by omega
     refine qU (aX (jL O (dH results138 O ?_)))
     have e : uK G N a dl il = 0 := by unfold uK; rw [if_neg (by omega), if_neg (by omega)]
     rw [Fj e hadd, Fp e hadd, e]
     have X := (uI.f8.right.f6.f6.f3.f7.f5.f7.f7).oK.swap.oK.swap
     have X2 := V.Dc X.f3
     refine ⟨O, V.wB (gv := AV) (nv := l10) (gs := nN) (now := mQ ++ [⟨a, d8, dl, s8, il⟩]) (ed := (iE G N : Nat) + 1) ⟨lF.1, by rw [QI]; omega, lF.2.2.1, lF.2.2.2.1, lF.2.2.2.2.1, XM lF.2.2.2.2.2 ⟨b2, b3⟩⟩ vw (by rw [List.map_append, rZ]; rfl) (by rw [QI]; rfl) (X2.of_eq (by unfold BG; ac_rfl))⟩
    ·(try simp only [Z] at h4)
     have UK := H7.drew
     have xg := V.kp (UK.f6.f6.f6.f6.f6.f6)
     refine yw [5, 6] xg O (jB 0 O xg O (jB 1 O xg O (kJ 2 O xg O (gU 3 O xg 0 bn O dh O (gU 4 O xg 0 bG O eU O (jT 5 O xg (fun W hW => kC bg O ((Kp.h hW)).get.2 O) (jT 6 O xg (fun W hW => eY dA O dW O O ((Kp.h hW).f6).get.2) (oq 7 O (yN O func179 (vk UK (fun W HW => hd _ (HW.right.right.right.right.right.right)) (fun W HW => hi _ (HW.right.right.right.right.right.right)) (by omega) (by omega))) ?_))))))))
     rintro _ Pj ⟨d13, s13, rfl, xk⟩
     have uT := V.kp (xk.f8.f8.f8.f8.f8.f8.f8.f8)
     refine dV uT (fun W hW => (Kp.h hW).right.right.f6.f6.f6.f6.f6.f6) ?_
     refine oq 8 O (vI xk aU dW gZ O O O (by decide) (by decide)) ?_
     rintro l14 RZ Ar
     have Df := V.kp (Ar.f9.f9.f9.f9.f9.f9.f9.f9.f9)
     refine dV Df (fun W hW => (Kp.h hW).right.f8.f8.f8.f8.f8.f8.f8.f8) ?_
     refine oq 9 O (jR (vs := [_]) Ar bg bH lH O O O (by decide) (aW (by first | rfl | exact Rd.one ((Ar).aS)) bF)) ?_
     rintro l15 Sz yT
     have uU := V.kp (yT.f10.f10.f10.f10.f10.f10.f10.f10.f10.f10)
     refine dV uU (fun W hW => (Kp.h hW).right.f9.f9.f9.f9.f9.f9.f9.f9.f9) ?_
     refine oq 10 O (fU yT.f6 bg EF O O O ((yT).aS) (aW (by first | rfl | exact Rd.one ((yT.f2).aS)) bF) (by omega) (by omega)) ?_
     rintro l16 w16 yO
     have Pm := yO.f2.right
     have EG := V.kp (Pm.f9.f9.f9.f9.f9.f9.f9.f9.f9)
     refine gV EG (by kernel_rfl) ?_
     refine kJ 11 O EG O (gU 12 O EG 0 bn O dh O (gU 13 O EG 0 bG O eU O ?_))
     refine fO 14 O (by kernel_rfl) (fA 0 (l' := [_, _, _, _, _]) Pm.f5 eU O O (by first | rfl | exact Rd.one ((Pm).aS)) O O) ?_
     rintro _ XF CV
     have UL := V.kp (CV.f9.f9.f9.f9.f9.f9.f9.f9.f9)
     refine gV UL (by kernel_rfl) ?_
     have hadd : ¬ 0 < op := by omega
     refine qU (aX (jL O (dH results138 O ?_)))
     have e : uK G N a dl il = 0 := by unfold uK; rw [if_neg (by omega), if_neg (by omega)]
     rw [UH e hadd, UJ e hadd, e]
     have X := (CV.f9.right.f8.f8.f3.f8.f5.f6.f8.f8).oK.swap.oK.swap
     have X2 := V.Dc (es := []) X.MB.f3.f3.f4
     have X4 := V.qM X2.oP.swap
     refine ⟨O, V.wB (gv := l16) (nv := yR) (gs := nN ++ [(l14, [⟨a, d13, dl, s13, il⟩])]) (now := mQ) (ed := (iE G N : Nat) + 1) ⟨QH lF.1 (List.cons_ne_nil _ _), by rw [MI]; omega, lF.2.2.1, lF.2.2.2.1, MG lF.2.2.2.2.1 (by intro e he; rw [List.mem_singleton.1 he]; exact ⟨b2, b3⟩), lF.2.2.2.2.2⟩ (by rw [List.map_append, vw]; rfl) rZ (by rw [MI]; rfl) (X4.of_eq (by unfold Js; ac_rfl))⟩
end
end Go.Proofs.YtpdeedplgmbopaaGreatDoor
end
section
namespace Go.Proofs.YtpdeedplgmbopaaGreatDoor
open Go.RowKit
def Kz (P : Program) (l : Nat) (vs : List Value) (w : World) (T : Value → World → Prop) : Prop :=
  ∃ f tmps c d, (Instr.yield l vs.toArray).run P w = .ok (.round l f tmps c d) w ∧ RoundIn Fence.wide 0 P l f tmps c d w fun e w' => ∃ v, e = .returned v ∧ T v w'
theorem Kz.mono {P : Program} {l : Nat} {vs : List Value} {w : World} {T T' : Value → World → Prop} (h : Kz P l vs w T) (k : ∀ v w', T v w' → T' v w') : Kz P l vs w T' :=
  let ⟨f, tmps, c, d, h1, h2⟩ := h; ⟨f, tmps, c, d, h1, RoundIn.mono h2 fun _ _ ⟨v, e, t⟩ => ⟨v, e, k _ _ t⟩⟩
theorem Kz.bool {P : Program} {l : Nat} {vs : List Value} {w : World} {A B : World → Prop} (h : Kz P l vs w fun v W' => (v = .bool true ∧ A W') ∨ (v = .bool false ∧ B W')) : Kz P l vs w fun v W' => ∃ t, v = .bool t ∧ (t = true → A W') ∧ (t = false → B W') :=
  h.mono fun v W' hv => by
    rcases hv with ⟨rfl, h⟩ | ⟨rfl, h⟩
    · exact ⟨true, rfl, fun _ => h, fun e => by cases e⟩
    · exact ⟨false, rfl, (fun e => by cases e), fun _ => h⟩
theorem KA {P : Program} {L : List (Nat × Value)} {w : World} {ty : TypeId} {x : Operand} {args : List Operand} {ts : Array TypeId} {l : Nat} {vs : List Value} {T : Value → World → Prop} (hx : ev L x = some (.func (.yield l) #[] #[])) (ha : DN L args = some vs) (h : Kz P l vs w T) :
    uz P L (.call ⟨.value x, args.toArray, ts⟩) ty w T := by
  obtain ⟨f, tmps, c, d, hy, hr⟩ := h
  refine Xq (fun ρ hρ dd pos nC g => ?_) hr
  have hg := hρ _ _ hx
  simp [execOp, resolve, invoke, ZC hρ _ _ ha, hg, Deferred.ofValue, hy]
def Iter (P : Program) (w0 : World) (fv : Value) (R : HP) (n : Nat) (E : Nat → List Value → HP → Prop) : Prop :=
  ∀ (l : Nat) (J : Nat → HP) (X : HP) (w : World),
    (∀ k, k < n → ∀ vs A, E k vs A → ∀ G W, V w0 W (A • J k • G) → Kz P l vs W fun v W' => (v = .bool true ∧ V w0 W' (J (k + 1) • G)) ∨ (v = .bool false ∧ V w0 W' (X • G))) →
    V w0 w (J 0 • R) → qZ P fv [.func (.yield l) #[] #[]] w fun _ W' => V w0 W' (J n • R) ∨ V w0 W' (X • R)
def MJ (w0 : World) (I : HP) (Xr : HP) (Xe : Nat → HP) (G : HP) : Exit → Act → World → Prop
  | .normal, _, W => V w0 W (I • G)
  | .ret, _, W => V w0 W (Xr • G)
  | .exit id, _, W => V w0 W (Xe id • G)
  | _, _, _ => False
def QJ (P : Program) (N : Sh) (w0 : World) (body : Code) (I : HP) (Xr : HP) (Xe : Nat → HP) (G : HP) (a : Act) (W : World) : Prop :=
  ∃ (L : List (Nat × Value)) (B : HP), Fits N L a ∧ V w0 W (B • G) ∧ ∀ G' W', V w0 W' (B • G') → WC P N body (MJ w0 I Xr Xe G') L W'
def UM : Exit → Act → World → Prop := fun _ _ _ => False
theorem Pn {P : Program} {N : Sh} {w0 w : World} {body : Code} {I Xr : HP} {Xe : Nat → HP} {G B : HP} {L : List (Nat × Value)} (H : V w0 w (B • G)) (h : ∀ G' W', V w0 W' (B • G') → WC P N body (MJ w0 I Xr Xe G') L W') :
    WQ N (Exit.then (QJ P N w0 body I Xr Xe G) UM) .normal L w := fun _ a ha => ⟨L, B, ha, H, h⟩
theorem Gi {N : Sh} {w0 w : World} {I Xr : HP} {Xe : Nat → HP} {G : HP} {L : List (Nat × Value)} (H : V w0 w (I • G)) : WQ N (MJ w0 I Xr Xe G) .normal L w := fun _ _ _ => H
theorem UN {N : Sh} {w0 w : World} {I Xr : HP} {Xe : Nat → HP} {G : HP} {id : Nat} {L : List (Nat × Value)} (H : V w0 w (Xe id • G)) : WQ N (MJ w0 I Xr Xe G) (.exit id) L w := fun _ _ _ => H
theorem UO {w0 : World} {I Xr : HP} {Xe : Nat → HP} {G : HP} : NP (MJ w0 I Xr Xe G) := fun _ _ _ h => h
def Po : List Nat → List Value → List (Nat × Value) → List (Nat × Value)
  | [], _, L => L
  | _ :: _, [], L => L
  | p :: ps, v :: vs, L => Po ps vs ((p, v) :: L)
theorem MK {n l : Nat} : ∀ (ps : List Nat) (vs : List Value) (L : List (Nat × Value)) (tmps : Array Value), (∀ p ∈ ps, p < n) → Fits ⟨n, [], some l⟩ L { tmps := tmps, defers := [] } →
    Fits ⟨n, [], some l⟩ (Po ps vs L) { tmps := (ps.zip vs).foldl (fun t (p : Nat × Value) => t.setIfInBounds p.1 p.2) tmps, defers := [] }
  | [], _, _, _, _, h => h
  | _ :: _, [], _, _, _, h => h
  | p :: ps, v :: vs, L, tmps, hp, h => MK ps vs _ _ (fun q hq => hp q (by simp [hq])) (h.put (hp p (by simp)) v)
section
variable {P : Program} {N : Sh} {Q : Exit → Act → World → Prop} {L : List (Nat × Value)} {w0 w : World}
theorem yU {g : Operand} {ps : List Nat} {assign body : Code} {fv : Value} {R : HP} {n : Nat} {E : Nat → List Value → HP → Prop} (hg : ev L g = some fv) (hit : Iter P w0 fv R n E) (I : Nat → HP) (Xr : HP) (Xe : Nat → HP) (H : V w0 w (I 0 • R))
    (hps : ps.all (· < N.n) = true)
    (hbody : ∀ l k, k < n → ∀ vs A, E k vs A → ∀ G W, V w0 W (A • I k • G) → vs.length = ps.length ∧ WC P ⟨N.n, [], some l⟩ assign (Exit.then (QJ P ⟨N.n, [], some l⟩ w0 body (I (k + 1)) Xr Xe G) UM) (Po ps vs L) W)
    (hdone : ∀ D W, V w0 W (dL D (.deferred (some [])) • I n • R) → WQ ⟨N.n, D :: N.ds, none⟩ Q .normal L W)
    (hret : ∀ D W, V w0 W (dL D (.deferred (some [])) • Xr • R) → WQ ⟨N.n, D :: N.ds, none⟩ Q .ret L W)
    (abF : ∀ id D W, V w0 W (dL D (.deferred (some [])) • Xe id • R) → WQ ⟨N.n, D :: N.ds, none⟩ Q (.exit id) L W)
    (hro : N.ro = none := by rfl) : WC P N (.rangeFunc g ps.toArray assign body) Q L w := fun np a ha => by
  rw [hro]
  refine wpIn_rangeFunc fun fn _ => ?_
  let rO : LoopState → Option Code → Loop := fun s j => { state := s, pending := j, fn, tmps := a.tmps, params := ps.toArray, assign, body, defers := w.heap.size }
  have ac1 := run_enterLoop_outer (P := P) (w := w) fn a.tmps ps.toArray assign body
  have H1 : V w0 ((w.alloc (.deferred (some []))).alloc (.loop (rO .ready none))) (dL (w.heap.size + 1) (.loop (rO .ready none)) • dL w.heap.size (.deferred (some [])) • I 0 • R) := by
    have := (H.alloc (.deferred (some []))).alloc (.loop (rO .ready none))
    rw [World.size_alloc] at this
    exact this
  let Lk : LoopState → Option Code → HP := fun s j => dL (w.heap.size + 1) (.loop (rO s j)) • dL w.heap.size (.deferred (some []))
  have ZR : ∀ k, k < n → ∀ vs A, E k vs A → ∀ G W, V w0 W (A • (Lk .ready none • I k) • G) → Kz P (w.heap.size + 1) vs W fun v W' => (v = .bool true ∧ V w0 W' ((Lk .ready none • I (k + 1)) • G)) ∨
      (v = .bool false ∧ V w0 W' (rQ (fun c : Code => Lk .done (some c) • (match c with | .ret => Xr | .exit id => Xe id | _ => fact False)) • G)) := by
    intro k hk vs A hE G W HW
    have e1 : (A • (Lk .ready none • I k) • G) = (dL (w.heap.size + 1) (.loop (rO .ready none)) • A • I k • dL w.heap.size (.deferred (some [])) • G) := by
      show (A • ((dL (w.heap.size + 1) (.loop (rO .ready none)) • dL w.heap.size (.deferred (some []))) • I k) • G) = _
      ac_rfl
    have HW1 := HW.of_eq e1
    have hl := HW1.get.2
    have hlen := (hbody (w.heap.size + 1) k hk vs A hE _ W (HW1.of_eq (show _ = (A • I k • dL (w.heap.size + 1) (.loop (rO .ready none)) • dL w.heap.size (.deferred (some [])) • G) by ac_rfl))).1
    refine ⟨fn, _, assign, body, run_yield hl (by rw [List.size_toArray, hlen]; exact List.size_toArray.symm), ?_⟩
    have hfit : Fits ⟨N.n, [], some (w.heap.size + 1)⟩ (Po ps vs L) { tmps := (ps.toArray.zip vs.toArray).foldl (fun tmps (t, a) => tmps.setIfInBounds t a) a.tmps, defers := [] } := by
      have := MK (n := N.n) (l := w.heap.size + 1) ps vs L a.tmps (fun p hp => by simpa using List.all_eq_true.1 hps p hp) ⟨ha.size, rfl, ha.at_⟩
      simpa using this
    refine roundIn_of_wpIn trivial ?_
    have HW2 : V w0 W (A • I k • dL (w.heap.size + 1) (.loop (rO .ready none)) • dL w.heap.size (.deferred (some [])) • G) := HW1.of_eq (by ac_rfl)
    have hb := (hbody (w.heap.size + 1) k hk vs A hE _ W HW2).2 (fun c a w h => h) _ hfit
    refine wpIn_mono hb ?_
    rintro e a1 W1 hq
    cases e with
    | exit id => exact hq.elim
    | goto l => exact hq.elim
    | ret => exact hq.elim
    | panic c => exact hq.elim
    | outgrown => exact hq.elim
    | normal =>
      obtain ⟨L1, B, hf1, HB, hgo⟩ := hq
      have HB1 : V w0 W1 (dL (w.heap.size + 1) (.loop (rO .ready none)) • B • dL w.heap.size (.deferred (some [])) • G) := HB.of_eq (by ac_rfl)
      have hl1 := HB1.get.2
      refine ⟨_, run_beginRound hl1 rfl, ?_⟩
      have HB2 : V w0 (W1.putObj (w.heap.size + 1) (.loop (rO .busy none))) (dL (w.heap.size + 1) (.loop (rO .busy none)) • B • dL w.heap.size (.deferred (some [])) • G) := HB1.turn rfl rfl rfl (by simp) (World.putObj_heap_same HB1.lt) fun k hk _ => World.putObj_heap_other hk
      have hbd := hgo (dL (w.heap.size + 1) (.loop (rO .busy none)) • dL w.heap.size (.deferred (some [])) • G) _ (HB2.of_eq (by ac_rfl)) UO a1 hf1
      refine wpIn_mono hbd ?_
      have fin : ∀ (j : Option Code) (W3 : World) (A3 : HP), V w0 W3 (A3 • dL (w.heap.size + 1) (.loop (rO .busy none)) • dL w.heap.size (.deferred (some [])) • G) →
          (Instr.endRound (w.heap.size + 1) j).run P W3 = .ok (.bool j.isNone) (W3.putObj (w.heap.size + 1) (.loop (rO (if j.isNone then .ready else .done) j))) ∧
          V w0 (W3.putObj (w.heap.size + 1) (.loop (rO (if j.isNone then .ready else .done) j))) ((Lk (if j.isNone then .ready else .done) j • A3) • G) := by
        intro j W3 A3 H3
        have H4 := H3.swap
        refine ⟨run_endRound j H4.get.2, ?_⟩
        have H5 : V w0 (W3.putObj (w.heap.size + 1) (.loop (rO (if j.isNone then .ready else .done) j))) (dL (w.heap.size + 1) (.loop (rO (if j.isNone then .ready else .done) j)) • A3 • dL w.heap.size (.deferred (some [])) • G) := H4.turn rfl rfl rfl (by simp) (World.putObj_heap_same H4.lt) fun k hk _ => World.putObj_heap_other hk
        refine H5.of_eq ?_
        show _ = (((dL (w.heap.size + 1) (.loop (rO (if j.isNone then .ready else .done) j)) • dL w.heap.size (.deferred (some []))) • A3) • G)
        ac_rfl
      rintro e a3 W3 hp
      cases e with
      | normal => obtain ⟨h1, h2⟩ := fin none W3 _ hp; exact ⟨_, _, h1, _, rfl, .inl ⟨rfl, h2⟩⟩
      | ret => obtain ⟨h1, h2⟩ := fin (some .ret) W3 _ hp; exact ⟨_, _, h1, _, rfl, .inr ⟨rfl, V.iy .ret h2⟩⟩
      | exit id => obtain ⟨h1, h2⟩ := fin (some (.exit id)) W3 _ hp; exact ⟨_, _, h1, _, rfl, .inr ⟨rfl, V.iy (.exit id) h2⟩⟩
      | goto l => exact hp.elim
      | panic c => exact hp.elim
      | outgrown => exact hp.elim
  have hcall := hit (w.heap.size + 1) (fun k => Lk .ready none • I k) _ _ ZR (H1.of_eq (by
    show _ = (((dL (w.heap.size + 1) (.loop (rO .ready none)) • dL w.heap.size (.deferred (some []))) • I 0) • R)
    ac_rfl))
  obtain ⟨f, first, cap, fn', c, rfl, hf, hn, hb, abG⟩ := hcall
  refine ⟨w.heap.size + 1, _, _, { target := .fn (.func f) cap.toArray, args := (first ++ [Value.func (.yield (w.heap.size + 1)) #[] #[]]).toArray }, (w.alloc (.deferred (some []))).alloc (.loop (rO .ready none)), f, _, (w.alloc (.deferred (some []))).alloc (.loop (rO .ready none)), ac1, ?_, fun _ _ => trivial, ?_, (fun h => by cases h), Ue.2 (Calls.mono abG ?_)⟩
  · have he := ha.ev hg
    have he2 : a.eval (.const (.func (.yield (w.heap.size + 1)) #[] #[])) = .func (.yield (w.heap.size + 1)) #[] #[] := rfl
    simp [resolve, rangeCall, he, he2, Deferred.ofValue, rO]
  · simp [invoke, callFunc, hf, hb]
    simpa using hn
  · rintro e W2 ⟨v, rfl, hv⟩
    have fin : ∀ (s : LoopState) (j : Option Code) (A : HP), s ≠ .busy → V w0 W2 ((Lk s j • A) • R) → (Instr.endLoop (w.heap.size + 1)).run P W2 = .ok j (W2.putObj (w.heap.size + 1) (.loop (rO .exhausted j))) ∧
        V w0 (W2.putObj (w.heap.size + 1) (.loop (rO .exhausted j))) (dL w.heap.size (.deferred (some [])) • A • R) := by
      intro s j A hs H3
      have H4 : V w0 W2 (dL (w.heap.size + 1) (.loop (rO s j)) • dL w.heap.size (.deferred (some [])) • A • R) := H3.of_eq (by
        show (((dL (w.heap.size + 1) (.loop (rO s j)) • dL w.heap.size (.deferred (some []))) • A) • R) = _
        ac_rfl)
      refine ⟨run_endLoop H4.get.2 hs, ?_⟩
      have H5 : V w0 (W2.putObj (w.heap.size + 1) (.loop (rO .exhausted j))) (dL (w.heap.size + 1) (.loop (rO .exhausted j)) • dL w.heap.size (.deferred (some [])) • A • R) := H4.turn rfl rfl rfl (by simp) (World.putObj_heap_same H4.lt) fun k hk _ => World.putObj_heap_other hk
      exact H5.right
    have hfit : Fits ⟨N.n, w.heap.size :: N.ds, none⟩ L { a with defers := [{ target := .collected w.heap.size, args := #[] }] ++ a.defers } := ⟨ha.size, by simp [ha.defers, Ud], ha.at_⟩
    rcases hv with hv | hv
    · obtain ⟨h1, h2⟩ := fin _ _ _ (by decide) hv
      exact ⟨none, _, h1, hdone _ _ h2 np _ hfit⟩
    · obtain ⟨c, hv⟩ := hv.lQ
      obtain ⟨h1, h2⟩ := fin _ _ _ (by decide) hv
      cases c with
      | ret => exact ⟨some .ret, _, h1, wpIn_ret (hret _ _ h2 np _ hfit)⟩
      | exit id => exact ⟨some (.exit id), _, h1, wpIn_exit (abF id _ _ h2 np _ hfit)⟩
      | _ => exact absurd h2.swap.fact.1 id
end
end Go.Proofs.YtpdeedplgmbopaaGreatDoor
end
section
namespace Go.Proofs.YtpdeedplgmbopaaGreatDoor
open Go.RowKit
open _root_.Go.Proofs.Tryz
def mG (G : List (List iT)) (N : List iT) : List (List iT) := if N = [] then G else G ++ [N]
theorem Pq {G : List (List iT)} {N : List iT} (h : N = []) : mG G N = G := by unfold mG; rw [if_pos h]
theorem qN {G : List (List iT)} {N : List iT} (h : N ≠ []) : mG G N = G ++ [N] := by unfold mG; rw [if_neg h]
theorem Gj {G : List (List iT)} {N : List iT} : iE (mG G N) [] = iE G N := by
  unfold mG; split
  · rename_i h; rw [h]
  · simp [iE]
section
variable {w0 w : World} {F : HP} {p : Nat} {G : List (List iT)} {N : List iT} {op : Int} {gv nv v : Value} {gs : List (Value × List dQ)} {now es : List dQ} {a : Int} {d z : Value} {dl il : List Int}
theorem zT (H : V w0 w (iP p G N op • F)) : gJ prog 177 #[.pointer (some ⟨p, 0, none⟩)] w fun _ w' => V w0 w' (iP p (mG G N) [] 0 • F) := by
 refine iG func177 ntmps177 ?_
 refine aP (aP ?_)
 obtain ⟨AV, yR, nN, mQ, lF, vw, rZ, F8, F9, MH, qH⟩ := (H).yA
 refine aC (nD O O (bD 0 bn O dh O (bD 1 bG O bH O (fZ aU O (qH).get.2 O (aV (jw ((qH.f4).aS) aU O) (aV (iV O O) (je O (fun h1 => ?_) (fun h1 => ?_))))))))
 ·(try simp only [Z] at h1)
  have abH : 0 < mQ.length := by omega
  have Pv := qH.drew
  have nV := V.kp (Pv.f5.f5.f5.f5.f5)
  refine yw [5, 10] nV O (jB 0 O nV O (jB 1 O nV O (kJ 2 O nV O (gU 3 O nV 0 bn O dh O (gU 4 O nV 0 bG O eU O (jT 5 O nV (fun W hW => kC bg O ((Kp.h hW)).get.2 O) (jB 6 O nV O (kJ 7 O nV O (gU 8 O nV 0 bn O dh O (gU 9 O nV 1 bG O bH O (jT 10 O nV (fun W hW => kC aU O ((Kp.h hW)).get.2 O) (oq 11 O (jR (vs := [_]) Pv bg bH lH O O O (by decide) (aW (by first | rfl | exact Rd.one ((Pv.f4).aS)) bF)) ?_))))))))))))
  rintro l2 w2 H2
  have xJ := V.kp (H2.f6.f6.f6.f6.f6.f6)
  refine dV xJ (fun W hW => (Kp.h hW).right.f5.f5.f5.f5.f5) ?_
  refine oq 12 O (fU H2.f3 bg EF O O O ((H2).aS) (aW (by first | rfl | exact Rd.one ((H2.f5).aS)) bF) (by omega) (by omega)) ?_
  rintro l3 w3 H3
  have Hd4 := H3.f2.right
  have xI := V.kp (Hd4.f5.f5.f5.f5.f5)
  refine gV xI (by kernel_rfl) ?_
  refine kJ 13 O xI O (gU 14 O xI 0 bn O dh O (gU 15 O xI 0 bG O eU O ?_))
  refine fO 16 O (by kernel_rfl) (fA 0 (l' := [_, _, _, _, _]) Hd4.f2 eU O O (by first | rfl | exact Rd.one ((Hd4).aS)) O O) ?_
  rintro _ w5 H5
  have BH := V.kp (H5.f5.f5.f5.f5.f5)
  refine gV BH (by kernel_rfl) ?_
  refine qU (aX (aC (jG O O (dJ O (bD 0 bn O dh O (bD 1 bG O bH O (aH (XC 1 H5 bH) ?_)))))))
  rintro _ w6 H6
  refine dJ O (bD 0 bn O dh O (bD 2 bG O aj O (aH (XC 2 H6 aj) ?_)))
  rintro _ w7 H7
  refine bM (lY (.inr O) results177 ?_)
  have hN : N ≠ [] := by rintro rfl; exact absurd F9 (by simp only [List.length_nil]; omega)
  rw [qN hN]
  have X := V.oP (v := yR) (es := mQ) (H7.f3.f3.f5.f5).deep
  have X4 := V.qM X.swap
  refine V.wB (gv := l3) (nv := .slice none 0 0) (gs := nN ++ [(yR, mQ)]) (now := []) (ed := (iE G N : Nat)) ⟨QH lF.1 hN, by rw [← qN hN, Gj]; exact lF.2.1, by decide, by decide, MG lF.2.2.2.2.1 lF.2.2.2.2.2, by simp⟩ (by rw [List.map_append, vw, ← rZ]; rfl) O (by rw [← qN hN, Gj]) ((X4.rE none).of_eq (by ac_rfl))
 ·(try simp only [Z] at h1)
  have abH : mQ.length = 0 := by omega
  refine gq (aC (jG O O (dJ O (bD 0 bn O dh O (bD 1 bG O bH O (aH (XC 1 qH bH) ?_))))))
  rintro _ w8 H8
  refine dJ O (bD 0 bn O dh O (bD 2 bG O aj O (aH (XC 2 H8 aj) ?_)))
  rintro _ w9 H9
  refine bM (lY (.inr O) results177 ?_)
  have hN : N = [] := by rw [← rZ, List.eq_nil_of_length_eq_zero abH]; rfl
  subst hN
  rw [Pq rfl]
  refine V.wB (gv := AV) (nv := .slice none 0 0) (gs := nN) (now := []) (ed := (iE G [] : Nat)) ⟨lF.1, lF.2.1, by decide, by decide, lF.2.2.2.2⟩ vw O O (((H9.f4.right.f4.right.f3.f3).rE none).of_eq (by unfold BG; ac_rfl))
theorem V.KC (H : V w0 w (Bc v es • F)) : V w0 w (Bc v es • Bc v es • F) := H.qW
theorem SA (b : Nat) : Iter prog w0 (.func (.func 210) #[] #[.pointer (some ⟨b, 0, none⟩)]) (dL b (.cells #[v] 80 (0, 0)) • Bc v es) es.length
  (fun k vs A => vs = [.int .i64 ((es.length - (k + 1) : Nat) : Int), .agg (es.getD (es.length - (k + 1)) default).enc.toArray] ∧ A = Bc v es) := by
 intro l J X w hy H
 refine ⟨210, [], [.pointer (some ⟨b, 0, none⟩)], _, _, O, func210, O, O, ?_⟩
 have H1 : V w0 w (dL b (.cells #[v] 80 (0, 0)) • Bc v es • J 0) := H.of_eq (by ac_rfl)
 obtain ⟨a, c, hv, hc1, hc2, _⟩ := (H1.swap.uJ).form
 subst hv
 simp only [List.nil_append, List.cons_append]
 refine TV func210 ntmps210 ?_
 dsimp only [vS, Nat.reduceAdd]
 refine iH (fZ aU O (H1).get.2 O (aV (jw ((H1.f2).uJ) aU O) (aV (kU O O (by omega)) (gI O (aY ?_)))))
 refine fF [(0, _), (1, _)] (fun (k : Nat) => [(3, .int .i64 ((k : Int) - 1))]) (fun (k : Nat) W => k ≤ es.length ∧ V w0 W (dL b (.cells #[.slice a es.length c] 80 (0, 0)) • Bc (.slice a es.length c) es • J (es.length - k))) (fun (k : Nat) => k) (es.length) qG lG ⟨by omega, by rw [Nat.sub_self]; exact H1⟩ ?_
 rintro k w1 ⟨hk, HL⟩
 dsimp only [List.cons_append, List.nil_append]
 refine aP (bT O (aV (ku O O) (je O (fun h1 => ?_) (fun h1 => ?_))))
 ·(try simp only [Z] at h1)
  refine gq (aP (aY (aP ?_)))
  obtain ⟨m, rfl⟩ : ∃ m, k = m + 1 := ⟨k - 1, by omega⟩
  rw [show (((m + 1 : Nat) : Int) - 1) = (m : Int) from by omega]
  refine aC (jG O O (fZ aU O (HL).get.2 O (bP O ?_)))
  obtain ⟨bv, ov, cv, ev⟩ := Rd.pJ ((HL.f2).uJ) (by omega)
  cases ev
  refine aV (dD aU dW O O (by omega)) (aV (qL (ys := [_, _, _]) ((HL.f2).uJ) (by omega) dA O dW O (rY dQ.C9 (by omega) default) O) (jv (KA O O (hy (es.length - (m + 1)) (by omega) _ _ ⟨by rw [show es.length - (es.length - (m + 1) + 1) = m from by omega]; rfl, O⟩ (Bc (.slice (some ⟨bv, ov, none⟩) es.length c) es • dL b (.cells #[.slice (some ⟨bv, ov, none⟩) es.length c] 80 (0, 0))) _ (HL.swap.KC.of_eq (by ac_rfl))).bool) ?_))
  rintro _ w2 ⟨t, rfl, ht1, ht2⟩
  refine aV (kT O) (je O (fun h2 => ?_) (fun h2 => ?_))
  ·(try simp only [Z] at h2)
   have HX := ht2 (by simpa using h2)
   refine lS (aT (aF (aF (aT (we0 results210 ?_)))))
   exact .inr (HX.of_eq (by ac_rfl))
  ·(try simp only [Z] at h2)
   have HN : V w0 w2 (dL b (.cells #[.slice (some ⟨bv, ov, none⟩) es.length c] 80 (0, 0)) • Bc (.slice (some ⟨bv, ov, none⟩) es.length c) es • J (es.length - m)) := by
    have h9 := ht1 (by simpa using h2)
    rw [show es.length - (m + 1) + 1 = es.length - m from by omega] at h9
    exact h9.of_eq (by ac_rfl)
   refine bZ (aJ (aX (aC (bP O (aV (kU O O (by omega)) (fV O (bM ?_)))))))
   refine dK (m) ?_ ?_ ?_ ?_
   ·exact lG
   ·exact qG
   ·(try dsimp only)
    first | done | exact ⟨by omega, HN.f2.f2⟩
   ·(try dsimp only); omega
 ·(try simp only [Z] at h1)
  refine dB (aI (aI (bf (lY (.inr O) results210 ?_))))
  obtain rfl : k = 0 := by omega
  rw [Nat.sub_zero] at HL
  exact .inl (HL.of_eq (by ac_rfl))
end
def Gl (e : iT) : iT := (e.1, e.2.2, e.2.1)
def UQ (c : Nat) (es : List dQ) (k : Nat) : HP := rQ fun (x : Value × List dQ) => fact (x.2.map dQ.says = ((es.map dQ.says).reverse.take k).map Gl) • dL c (.cells #[x.1] 80 (0, 0)) • Js x.1 x.2
theorem UR {es : List dQ} {k : Nat} (hk : k < es.length) : ((es.map dQ.says).reverse.take (k + 1)).map Gl = ((es.map dQ.says).reverse.take k).map Gl ++ [Gl (es.getD (es.length - (k + 1)) default).says] := by
  rw [List.take_succ_eq_append_getElem (by simpa using hk), List.map_append]
  congr 1
  simp only [List.map_cons, List.map_nil, List.getElem_reverse, List.getElem_map, List.length_map]
  rw [List.getD_eq_getElem?_getD, List.getElem?_eq_getElem (by omega)]
  have e : es.length - 1 - k = es.length - (k + 1) := by omega
  simp only [Option.getD_some, e]
section
variable {w0 w : World} {F : HP} {p : Nat} {G : List (List iT)} {N : List iT} {op : Int} {gv nv v : Value} {gs : List (Value × List dQ)} {now es : List dQ} {a : Int} {d z : Value} {dl il : List Int}
theorem V.ML {c k : Nat} (H : V w0 w (UQ c es k • F)) : ∃ u fs, fs.map dQ.says = ((es.map dQ.says).reverse.take k).map Gl ∧ fs.length ≤ es.length ∧ V w0 w (dL c (.cells #[u] 80 (0, 0)) • Row 189 3 u fs.length (fs.flatMap dQ.enc) • kK fs • F) := by
  obtain ⟨⟨u, fs⟩, H⟩ := H.lQ
  obtain ⟨h, H⟩ := H.flat.fact
  refine ⟨u, fs, h, ?_, ?_⟩
  · have := congrArg List.length h
    simp at this
    omega
  · have := H.flat
    unfold Js at this
    exact this.of_eq (by ac_rfl)
theorem V.UU {c k : Nat} {u : Value} {fs : List dQ} (h : fs.map dQ.says = ((es.map dQ.says).reverse.take k).map Gl) (H : V w0 w (dL c (.cells #[u] 80 (0, 0)) • Js u fs • F)) : V w0 w (UQ c es k • F) :=
  V.iy (u, fs) (V.deep (V.kD h H.deep))
theorem V.ZT (H : V w0 w (Bc v es • F)) {k : Nat} (hk : k < es.length) : V w0 w (mP .i32 (es.getD k default).d (es.getD k default).dl • mP .i32 (es.getD k default).i (es.getD k default).il • Bc v es • F) := by
  have h1 : V w0 w (mP .i32 (es.getD k default).d (es.getD k default).dl • Bc v es • Bc v es • F) := H.KC.KC.DR (oC (fun I h => (h.2 k hk).1) _)
  have h2 : V w0 w (mP .i32 (es.getD k default).i (es.getD k default).il • mP .i32 (es.getD k default).d (es.getD k default).dl • Bc v es • F) := h1.swap.DR (oC (fun I h => (h.2 k hk).2) _)
  exact h2.swap
theorem SB (H : V w0 w F) (hv : v.oneCell' = true) : gJ prog 197 #[v] w fun v' w' => ∃ b, v' = .func (.func 210) #[] #[.pointer (some ⟨b, 0, none⟩)] ∧ V w0 w' (dL b (.cells #[v] 80 (0, 0)) • F) := by
  refine iG func197 ntmps197 ?_
  refine iH (jv (iM (l := [_]) H O (by first | rfl | exact Aq (by first | rfl | assumption))) ?_)
  rintro _ w1 ⟨b1, rfl, H1⟩
  refine gI O (iH (aV (vV O O) (fC O (dH results197 O ?_))))
  exact ⟨_, O, H1⟩
theorem Dh (H : V w0 w (Bc v es • F)) (hB : ∀ k, k < es.length → EB (es.getD k default).says) (hL : es.length ≤ 16384) :
  gJ prog 178 #[v] w fun v' w' => ∃ fs : List dQ, fs.map dQ.says = (es.map dQ.says).reverse.map Gl ∧ V w0 w' (Row 189 3 v' fs.length (fs.flatMap dQ.enc) • kK fs • Bc v es • F) := by
 refine iG func178 ntmps178 ?_
 refine jr O (iH (jv (fJ (l := [_]) H lH O) ?_))
 rintro _ w1 ⟨b1, rfl, H1⟩
 refine pK (bT O (dY O func197 (SB H1 (Rd.one ((H1.f2).uJ))) ?_))
 rintro _ w2 ⟨bB2, rfl, H2⟩
 refine iJ (aY ?_)
 have SC := H2.f2
 have QK := V.UU (es := es) (k := 0) (fs := []) rfl (SC.rE none).swap
 refine yU O (SA bB2) (fun k => UQ b1 es k • F) (fact False) (fun _ => fact False) (QK.f3.f3.f3.f3.f3.g2.comm) (by rfl) ?_ ?_ ?_ ?_
 ·rintro l5 k ZU vs5 A5 ⟨rfl, rfl⟩ G5 w5 H5
  try simp only [bW, nG, uX] at H5
  refine ⟨O, ?_⟩
  dsimp only [Po]
  have Hq := (H5).ZT (k := es.length - (k + 1)) (by omega)
  obtain ⟨hb1, hb2⟩ := hB (es.length - (k + 1)) (by omega)
  have hb1 : (es.getD (es.length - (k + 1)) default).dl.length ≤ 35184372087808 := hb1
  have hb2 : (es.getD (es.length - (k + 1)) default).il.length ≤ 35184372087808 := hb2
  obtain ⟨u, fs, hfs, hfl, HI⟩ := (Hq.f4).ML
  refine aC (jv (fJ (l := [_, _, _]) HI gZ O) ?_)
  rintro _ w6 ⟨b6, rfl, H6⟩
  refine aH (bU 0 (l' := [_, _, _]) (us := [_, _, _]) H6 dW O O O (aA (aW (by first | rfl | exact Rd.one ((H6.f5).jy)) (aW (by first | rfl | exact Rd.one ((H6.f6).jy)) bF))) O O) ?_
  rintro _ w7 H7
  refine bM ?_
  refine Pn (H7.g8) ?_
  intro G8 w8 H8
  try simp only [bW] at H8
  refine aY ?_
  have abI := H8.drew
  have UW := V.kp (abI.f7.f7.f7.f7.f7.f7.f7)
  refine yw [0, 1] UW O (jT 0 O UW (fun W hW => kC aU O ((Kp.h hW).f2).get.2 O) (jT 1 O UW (fun W hW => eY dA O dW O O ((Kp.h hW)).get.2) (oq 2 O (yN O func198 (D6 abI (fun W HW => (HW.f5).jy) (fun W HW => (HW.f6).jy) (by omega) (by omega))) ?_)))
  rintro _ w9 ⟨d9, s9, rfl, H9⟩
  have Pg := V.kp (H9.f9.f9.f9.f9.f9.f9.f9.f9.f9)
  refine dV Pg (fun W hW => (Kp.h hW).right.right.f7.f7.f7.f7.f7.f7.f7) ?_
  refine oq 3 O (vI H9 aU dW gZ O O O (by decide) (by decide)) ?_
  rintro l10 w10 ql
  have UY := V.kp (ql.f10.f10.f10.f10.f10.f10.f10.f10.f10.f10)
  refine dV UY (fun W hW => (Kp.h hW).right.f9.f9.f9.f9.f9.f9.f9.f9.f9) ?_
  refine oq 4 O (fU ql.f6 aU zS O O O ((ql).aS) (aA (aW (by first | rfl | exact Rd.one ((ql.f2).aS)) (aW (by first | rfl | exact Rd.one ((ql.f3).aS)) bF))) (by omega) (by omega)) ?_
  rintro l11 EH rF
  have IB := rF.f2.right
  have Gh := V.kp (IB.f9.f9.f9.f9.f9.f9.f9.f9.f9)
  refine gV Gh (by kernel_rfl) ?_
  refine fO 5 O (by kernel_rfl) (fA 0 (l' := [_]) IB.f5 bH O O (by first | rfl | exact Rd.one ((IB).aS)) O O) ?_
  rintro _ Pj xk
  have uT := V.kp (xk.f9.f9.f9.f9.f9.f9.f9.f9.f9)
  refine gV uT (by kernel_rfl) ?_
  refine qU (aJ ?_)
  refine Gi ?_
  have X := (xk.f5.right.f6.right.f6.right.f6.right.f6.f2.f6.f4.f6.f6).oK.swap.oK.swap
  have X2 := V.Dc X.f3
  exact (V.UU (es := es) (k := k + 1) (by rw [List.map_append, hfs, UR (by omega)]; rfl) X2.swap).deep
 ·rintro D14 RZ Ar
  have UZ := Ar.ed
  try simp only [bW, nG, uX] at UZ
  have ZV := UZ.Qz
  obtain ⟨u, fs, hfs, hfl, HI⟩ := (ZV.f4).ML
  refine aJ (aX (iH (fZ aU O (HI).get.2 O (fC O ?_))))
  refine Fb (.inl O) (HI.f4) (fun Sz yT => ?_)
  refine ⟨_, Zy results178 O, ?_⟩
  rw [List.take_of_length_le (by simp)] at hfs
  exact ⟨_, hfs, yT.right.f3.right.f3.f3.f3⟩
 ·rintro D w H; exact absurd H.swap.fact.1 id
 ·rintro id D w H; exact absurd H.swap.fact.1 fun h => h
end
def U0 (G : List (List iT)) (N : List iT) : Int := if G.length + N.length = 0 then 6 else 0
def QL (G : List (List iT)) (N : List iT) : List (List iT) := if G.length + N.length = 0 then G else (mG G N).dropLast
def QM (G : List (List iT)) (N : List iT) : List iT := if G.length + N.length = 0 then N else []
def QN (G : List (List iT)) (N : List iT) (op : Int) : Int := if G.length + N.length = 0 then op else 0
def Y0 (G : List (List iT)) (N : List iT) : List iT := if G.length + N.length = 0 then [] else ((mG G N).getLastD []).reverse.map Gl
theorem Jt {G : List (List iT)} {g N : List iT} : iE (G ++ [g]) N = iE G N + g.length := by simp [iE]; omega
section
variable {w0 w : World} {F : HP} {p : Nat} {G : List (List iT)} {N : List iT} {op : Int} {gv nv v : Value} {gs : List (Value × List dQ)} {now es : List dQ} {a : Int} {d z : Value} {dl il : List Int}
theorem Px (h : ¬ G.length + N.length = 0) : mG G N ≠ [] := by
  unfold mG; split
  · rename_i hN; rintro rfl; subst hN; exact h rfl
  · simp
theorem V.Py (H : V w0 w (iP p G [] op • F)) (hG : G ≠ []) : ∃ gv nv hs gl wQ, G = hs.map (fun g => g.2.map dQ.says) ++ [wQ.map dQ.says] ∧ XO G [] op ∧ G.length = hs.length + 1 ∧ hs.length ≤ 16384 ∧ wQ.length ≤ 16384 ∧ (∀ k, k < wQ.length → EB (wQ.getD k default).says) ∧
    V w0 w (dL p (.cells #[gv, nv, .int .i64 op, .int .i64 (iE G [] : Nat), .bool true] 235 (0, 0)) • Row 80 1 gv (hs.length + 1) (hs.map (·.1) ++ [gl]) • nK hs • Bc gl wQ • Js nv [] • F) := by
  obtain ⟨gv, nv, gs, now, h1, h2, h3, h4, h5, h6, H⟩ := H.yA
  obtain rfl : now = [] := List.eq_nil_of_length_eq_zero (by simpa using h5)
  rcases List.eq_nil_or_concat gs with rfl | ⟨hs, ⟨gl, wQ⟩, rfl⟩
  · exact absurd h2.symm hG
  · have hG2 : G = hs.map (fun g => g.2.map dQ.says) ++ [wQ.map dQ.says] := by rw [← h2]; simp
    have hle : wQ.length ≤ 16384 := by
      have := h1.2.1
      rw [hG2, Jt] at this
      simp at this
      omega
    refine ⟨gv, nv, hs, gl, wQ, hG2, h1, ?_, ?_, hle, fun k hk => ?_, ?_⟩
    · rw [hG2]; simp
    · rw [hG2] at h6; simp at h6; omega
    · refine h1.2.2.2.2.1 (wQ.map dQ.says) (by rw [hG2]; simp) _ ?_
      rw [List.getD_eq_getElem?_getD, List.getElem?_eq_getElem hk]
      exact List.mem_map_of_mem (List.getElem_mem hk)
    · rw [List.concat_eq_append, List.length_append, List.map_append] at H
      have H1 := (H.f3.MC (k := hs.length) (by simp)).swap
      rw [show (hs ++ [(gl, wQ)]).getD hs.length default = (gl, wQ) from by simp [List.getD_eq_getElem?_getD]] at H1
      have H2 := H1.MF hs.length
      rw [List.take_left' rfl] at H2
      exact H2.of_eq (by unfold Js; ac_rfl)
theorem Bd (H : V w0 w (iP p G N op • F)) : gJ prog 136 #[.pointer (some ⟨p, 0, none⟩)] w fun v w' => ∃ u, ∃ fs : List dQ, v = .tuple #[u, .int .i64 (U0 G N)] ∧ fs.map dQ.says = Y0 G N ∧
  V w0 w' (Row 189 3 u fs.length (fs.flatMap dQ.enc) • kK fs • iP p (QL G N) (QM G N) (QN G N op) • F) := by
 unfold U0 Y0 QL QM QN
 refine iG func136 ntmps136 ?_
 refine iH (fV O (wu O (bT O (dY O func158 (mX H) ?_))))
 rintro _ _ ⟨rfl, rfl⟩
 refine iJ (qF (gq (aP (aP ?_))))
 obtain ⟨AV, yR, nN, mQ, lF, vw, rZ, F8, F9, MH, qH⟩ := (H).yA
 have AX := qH.drew
 have gW := V.kp (AX.f5.f5.f5.f5.f5)
 refine yw [4, 10] gW O (jB 0 O gW O (kJ 1 O gW O (gU 2 O gW 0 bn O dh O (gU 3 O gW 0 bG O eU O (jT 4 O gW (fun W hW => kC bg O ((Kp.h hW)).get.2 O) (ji 5 O gW (fun _ => jw ((AX.f2).aS) bg O) (jB 6 O gW O (kJ 7 O gW O (gU 8 O gW 0 bn O dh O (gU 9 O gW 1 bG O bH O (jT 10 O gW (fun W hW => kC aU O ((Kp.h hW)).get.2 O) (ji 11 O gW (fun _ => jw ((AX.f4).aS) aU O) (ji 12 O gW (fun _ => fQ O O (by omega)) (ji 13 O gW (fun _ => dR O O) (qU (aX (bI O (fun h1 => ?_) (fun h1 => ?_))))))))))))))))))
 ·(try simp only [Z] at h1)
  have hGN : G.length + N.length = 0 := by omega
  have O7 := AX.f5.f5.f5.f5.f5
  have OB := V.nM lF vw rZ rfl O7
  refine iH (fV O (fC O (aF (LC results136 O O ?_))))
  simp only [if_pos hGN]
  exact ⟨_, [], O, O, ((OB).rE none).ZO⟩
 ·(try simp only [Z] at h1)
  have hGN : ¬ G.length + N.length = 0 := by omega
  have U1 := AX.f5.f5.f5.f5.f5
  have U2 := V.nM lF vw rZ rfl U1
  refine gq (bT O (dY O func177 (zT U2) ?_))
  rintro _ w9 H9
  refine pK ?_
  obtain ⟨gv, nv, hs, gl, wQ, hG, hok, hl1, hl2, hl3, hEB, HU⟩ := (H9).Py (Px hGN)
  have htot := hok.2.1
  refine aC (nD O O (bD 0 bn O dh O (bD 0 bG O eU O (fZ bg O (HU).get.2 O (aV (jw ((HU.f2).aS) bg O) (aV (kU O O (by omega)) (gI O (bT O (dJ O (bD 0 bn O dh O (bD 0 bG O eU O (fZ bg O (HU).get.2 O (bP O ?_)))))))))))))
  obtain ⟨bgv, ogv, cgv, egv⟩ := Rd.pJ ((HU.f2).aS) (by omega)
  cases egv
  refine aV (dD bg bH O O (by omega)) ?_
  refine aV (eG (bY aU O) O (by first | exact Rd.kX ((HU.f2).aS) (by omega) | exact Rd.uQ ((HU.f2).aS) (by omega) | exact Rd.uG ((HU.f2).aS) (by omega))) ?_
  rw [show (hs.map (·.1) ++ [gl]).getD ((((hs.length + 1 : Nat)) : Int) - 1).toNat undef = gl from by rw [show ((((hs.length + 1 : Nat)) : Int) - 1).toNat = hs.length from by omega]; simp [List.getD_eq_getElem?_getD]]
  refine gI O (bT O (nD O O (bD 0 bn O dh O (bD 0 bG O eU O (fZ bg O (HU).get.2 O (bP O (aV (tN ((HU.f2).aS) bg bH O O O (by omega)) ?_)))))))
  refine dJ O (bD 0 bn O dh O (bD 0 bG O eU O (aH (fA 0 (l' := [_, _, _, _, _]) HU eU O O (by first | rfl | exact Rd.one (Rd.abB ((HU.f2).aS) (by omega))) O O) ?_)))
  rintro _ w10 ql
  refine qR O (dJ O (bD 0 bn O dh O (bD 3 bG O aj O (fZ aK O (ql).get.2 O (bP O (aV (jw ((ql.f4).uJ) aU O) (aV (kU O O (by omega)) (dJ O (bD 0 bn O dh O (bD 3 bG O aj O (aH (XC 3 ql aj) ?_)))))))))))
  rintro _ EH rF
  refine qR O (dY O func178 (Dh rF.f4 hEB hl3) ?_)
  rintro u12 w12 ⟨U3, Y1, uI⟩
  refine fV O (fC O (LC results136 O O ?_))
  simp only [if_neg hGN]
  have hdl : (mG G N).dropLast = hs.map (fun g => g.2.map dQ.says) := by rw [hG]; simp
  have hlast : (mG G N).getLastD [] = wQ.map dQ.says := by rw [hG]; simp
  have hX := (uI.f3.right.f6.f6.f5.f5.f5.f6).Ul (h := hs.length) (by omega)
  rw [hdl, hlast]
  rw [Nat.mul_one, List.take_left' (by simp), show (((hs.length + 1 : Nat) : Int) - 1).toNat = hs.length from by omega, show Int.toNat 0 = 0 from rfl] at hX
  have hT : iE (mG G N) [] = iE (hs.map (fun g => g.2.map dQ.says)) [] + wQ.length := by rw [hG, Jt, List.length_map]
  have hok2 : XO (hs.map (fun g => g.2.map dQ.says)) [] 0 := ⟨fun g hg => hok.1 g (by rw [hG]; exact List.mem_append_left _ hg), by omega, by decide, by decide, fun g hg => hok.2.2.2.2.1 g (by rw [hG]; exact List.mem_append_left _ hg), by simp⟩
  refine ⟨_, _, O, (by assumption), ?_⟩
  have hU := V.wB (gv := wR 1 0 hs.length (.slice (some ⟨bgv, ogv, none⟩) (hs.length + 1) cgv)) (nv := nv) (gs := hs) (now := []) (ed := (iE (mG G N) [] : Nat) - (wQ.length : Int)) (F := Row 189 3 u12 U3.length (U3.flatMap dQ.enc) • kK U3 • F) hok2 rfl rfl (by omega) (hX.of_eq (by unfold BG; ac_rfl))
  exact hU.of_eq (by ac_rfl)
end
def zU (op : Int) : Int := if op = 0 then 1 else 0
def ZW (G : List (List iT)) (N : List iT) (op : Int) : List (List iT) := if op = 1 then mG G N else G
def ZX (N : List iT) (op : Int) : List iT := if op = 1 then [] else N
def XP (op : Int) : Int := if op = 0 then 0 else op - 1
theorem SE {es : List dQ} {k : Nat} (hk : k < es.length) : (es.take (k + 1)).map dQ.says = (es.take k).map dQ.says ++ [(es.getD k default).says] := by
  rw [List.take_succ_eq_append_getElem hk, List.map_append, List.getD_eq_getElem?_getD, List.getElem?_eq_getElem hk]
  rfl
section
variable {w0 w : World} {F : HP} {p : Nat} {G : List (List iT)} {N : List iT} {op : Int} {gv nv v : Value} {gs : List (Value × List dQ)} {now es : List dQ} {a : Int} {d z : Value} {dl il : List Int}
theorem yV (H : V w0 w (iP p G N op • F)) : gJ prog 139 #[.pointer (some ⟨p, 0, none⟩)] w fun v w' => v = .int .i64 (zU op) ∧ V w0 w' (iP p (ZW G N op) (ZX N op) (XP op) • F) := by
 unfold zU ZW ZX XP
 refine iG func139 ntmps139 ?_
 refine jr O (aP (bT O (dY O func158 (mX H) ?_)))
 rintro _ _ ⟨rfl, rfl⟩
 refine iJ (qF (gq (aP (aP ?_))))
 obtain ⟨AV, yR, nN, mQ, lF, vw, rZ, F8, F9, MH, qH⟩ := (H).yA
 have hop := lF.2.2.1
 have hop2 := lF.2.2.2.1
 refine aC (nD O O (bD 0 bn O dh O (bD 2 bG O aj O (fZ aK O (qH).get.2 O (aV (dR O O) (je O (fun h1 => ?_) (fun h1 => ?_)))))))
 ·(try simp only [Z] at h1)
  have h0 : op = 0 := by omega
  refine jL O (aF (dH results139 O ?_))
  have O7 := qH.f5.f5.f5.f5.f5
  have OB := V.nM lF vw rZ rfl O7
  subst h0
  exact ⟨O, OB⟩
 ·(try simp only [Z] at h1)
  have h0 : ¬ op = 0 := by omega
  refine gq (aP (bT O (dJ O (bD 0 bn O dh O (bD 2 bG O aj O (fZ aK O (qH).get.2 O (aV (kU O O (by omega)) (dJ O (bD 0 bn O dh O (bD 2 bG O aj O (aH (XC 2 qH aj) ?_)))))))))))
  rintro _ w6 H6
  refine qR O (dJ O (bD 0 bn O dh O (bD 2 bG O aj O (fZ aK O (H6).get.2 O (aV (dR O O) (je O (fun h2 => ?_) (fun h2 => ?_)))))))
  ·(try simp only [Z] at h2)
   have h1 : op = 1 := by omega
   have U1 := H6.f5.f5.f5.f5.f5
   have U2 := V.nM (op := op - 1) ⟨lF.1, lF.2.1, by omega, by omega, lF.2.2.2.2⟩ vw rZ rfl U1
   refine aC (bP O (dY O func177 (zT U2) ?_))
   rintro _ w9 H9
   refine iJ (jL O (dH results139 O ?_))
   subst h1
   exact ⟨O, H9⟩
  ·(try simp only [Z] at h2)
   have h1 : ¬ op = 1 := by omega
   refine gq (jL O (dH results139 O ?_))
   rw [if_neg h0, if_neg h1, if_neg h1, if_neg h0]
   exact ⟨O, V.nM ⟨lF.1, lF.2.1, by omega, by omega, lF.2.2.2.2⟩ vw rZ O H6.f5.f5.f5.f5.f5⟩
theorem Gm (H : V w0 w F) (hv : RP w0 F 3 v es.length (es.flatMap dQ.enc)) (he : ∀ k, k < es.length → jq w0 F .i32 (es.getD k default).d (es.getD k default).dl ∧ jq w0 F .i32 (es.getD k default).i (es.getD k default).il)
  (hB : ∀ k, k < es.length → EB (es.getD k default).says) (hL : es.length ≤ 16384) :
  gJ prog 173 #[v] w fun v' w' => ∃ fs : List dQ, fs.map dQ.says = es.map dQ.says ∧ V w0 w' (Row 189 3 v' fs.length (fs.flatMap dQ.enc) • kK fs • F) := by
 refine iG func173 ntmps173 ?_
 refine jr O (jr O (aP (bT O (aV (jw (hv _ (H)) aU O) (bP O (iJ (aY ?_)))))))
 refine fF [(6, _), (7, _)] (fun (⟨k, u⟩ : Nat × Value) => [(3, u), (8, .int .i64 (k : Int))]) (fun (⟨k, u⟩ : Nat × Value) W => k ≤ es.length ∧ ∃ fs : List dQ, fs.map dQ.says = (es.take k).map dQ.says ∧ V w0 W (Row 189 3 u fs.length (fs.flatMap dQ.enc) • kK fs • F)) (fun (⟨k, u⟩ : Nat × Value) => es.length - k) ((0, .slice none 0 0)) qG qG ⟨by omega, [], O, (H.rE none).ZO⟩ ?_
 rintro ⟨k, u⟩ w1 ⟨hk, fs, hfs, HL⟩
 dsimp only [List.cons_append, List.nil_append]
 refine iH (aV (gY O O) (pK (bI O (fun h1 => ?_) (fun h1 => ?_))))
 ·(try simp only [Z] at h1)
  refine gq (aP (aY (iH ?_)))
  obtain ⟨bv, ov, cv, ev⟩ := Rd.pJ (hv _ (HL.right.right)) (by omega)
  cases ev
  refine aV (dD aU dW O O (by omega)) (aV (qL (ys := [_, _, _]) (hv _ (HL.right.right)) (by omega) dA O dW O (rY dQ.C9 (by omega) default) O) ?_)
  have hkl : k < es.length := by omega
  obtain ⟨f1, f2⟩ := he k hkl
  obtain ⟨hb1, hb2⟩ := hB k hkl
  have hb1 : (es.getD k default).dl.length ≤ 35184372087808 := hb1
  have hb2 : (es.getD k default).il.length ≤ 35184372087808 := hb2
  have hfl : fs.length = k := by have h9 := congrArg List.length hfs; simp at h9; omega
  refine jv (fJ (l := [_, _, _]) HL gZ O) ?_
  rintro _ w2 ⟨b2, rfl, H2⟩
  refine aH (bU 0 (l' := [_, _, _]) (us := [_, _, _]) H2 dW O O O (aA (aW (by first | rfl | exact Rd.one (f1 _ (H2.right.right.right))) (aW (by first | rfl | exact Rd.one (f2 _ (H2.right.right.right))) bF))) O O) ?_
  rintro _ w3 H3
  refine iJ (aC (bP O (aV (eY dA O dW O O (H3).get.2) (dY O func179 (vk H3 (fun W HW => f1 _ (HW.right.right.right)) (fun W HW => f2 _ (HW.right.right.right)) (by omega) (by omega)) ?_))))
  rintro _ w4 ⟨d4, s4, rfl, H4⟩
  refine jv (vI H4 aU dW gZ O O O (by decide) (by decide)) ?_
  rintro l5 w5 H5
  refine jv (fU H5.f5 aU zS O O O ((H5).aS) (aA (aW (by first | rfl | exact Rd.one ((H5.f2).aS)) (aW (by first | rfl | exact Rd.one ((H5.f3).aS)) bF))) (by omega) (by omega)) ?_
  rintro l6 w6 H6
  have ZY := H6.f2.right
  refine fV O (bM (aJ (aX (aC (aV (fQ O O (by omega)) (bP O (bM ?_)))))))
  refine dK ((k + 1, l6)) ?_ ?_ ?_ ?_
  ·exact qG
  ·exact qG
  ·(try dsimp only)
   first | done | exact ⟨by omega, _, by rw [List.map_append, hfs, SE (by omega)]; rfl, (V.Dc (ZY.f4.right.f4.f2.f4.f4).oK.swap.oK.swap.f3).ZO⟩
  ·(try dsimp only); omega
 ·(try simp only [Z] at h1)
  refine dB (aI (aI (bf (aX (bT O (fC O (dH results173 O ?_)))))))
  rw [List.take_of_length_le (by omega)] at hfs
  exact ⟨_, hfs, HL.f2.f2⟩
theorem V.oL {es : List dQ} (H : V w0 w (kK es • F)) {k : Nat} (hk : k < es.length) : fB w .i32 (es.getD k default).d (es.getD k default).dl ∧ fB w .i32 (es.getD k default).i (es.getD k default).il := let ⟨I, h, hI⟩ := H.qC; ⟨(h k hk).1.rd hI, (h k hk).2.rd hI⟩
theorem zV (H : V w0 w (Row 189 3 v es.length (es.flatMap dQ.enc) • kK es • F)) (hB : ∀ k, k < es.length → EB (es.getD k default).says) (hL : es.length ≤ 16384) :
    gJ prog 173 #[v] w fun v' w' => ∃ fs : List dQ, fs.map dQ.says = es.map dQ.says ∧ V w0 w' (Row 189 3 v' fs.length (fs.flatMap dQ.enc) • kK fs • Row 189 3 v es.length (es.flatMap dQ.enc) • kK es • F) :=
  Gm H (fun W HW => HW.aS) (fun k hk => ⟨fun W HW => (HW.right.oL hk).1, fun W HW => (HW.right.oL hk).2⟩) hB hL
theorem xK (H : V w0 w (Bc v es • F)) (hB : ∀ k, k < es.length → EB (es.getD k default).says) (hL : es.length ≤ 16384) :
    gJ prog 173 #[v] w fun v' w' => ∃ fs : List dQ, fs.map dQ.says = es.map dQ.says ∧ V w0 w' (Row 189 3 v' fs.length (fs.flatMap dQ.enc) • kK fs • Bc v es • F) :=
  Gm H (fun W HW => HW.uJ) (fun k hk => ⟨fun W HW => HW.abC hk, fun W HW => HW.abD hk⟩) hB hL
end
end Go.Proofs.YtpdeedplgmbopaaGreatDoor
end
section
namespace Go.Proofs.YtpdeedplgmbopaaGreatDoor
open Go.RowKit
def aeS (G : List (List iT)) (N : List iT) : List iT := (mG G N).flatten.reverse.map Gl
section
variable {w0 w : World} {F : HP} {p : Nat} {G : List (List iT)} {N : List iT} {op : Int} {gv nv v u : Value} {gs : List (Value × List dQ)} {now es fs : List dQ} {a : Int} {d z : Value} {dl il : List Int}
theorem V.U4 (H : V w0 w (Bc v es • F)) : ∀ x ∈ es.flatMap dQ.enc, x.oneCell' = true :=
  V.zQ (es := es) (w0 := w0) (w := w) (F := F) (H.DR (oC (fun I h => h.2) F))
theorem V.Fq (H : V w0 w (nK gs • F)) {k : Nat} {gl : Value} {wQ : List dQ} (hk : k < gs.length) (hg : gs.getD k default = (gl, wQ)) : V w0 w (Bc gl wQ • nK gs • F) := by
  have := H.MC hk
  rwa [hg] at this
end
end Go.Proofs.YtpdeedplgmbopaaGreatDoor
end
