import Derived.Test.YtpdeedplgmbopaaGreatDoorZ4
import Derived.Test.YtpdeedplgmbopaaGreatDoorZ6
set_option linter.unusedSimpArgs false
set_option linter.unusedVariables false
/- Texts of mine, joined, their names in short: UList Range UList2 UList3 UList4 UList5 UList6. -/
section
namespace Go.Proofs.YtpdeedplgmbopaaGreatDoor
open Go.RowKit
open _root_.Go.Proofs.Tryz
abbrev iR := Int × List Int × List Int
def iG (G : List (List iR)) (N : List iR) : Nat := (G.map List.length).sum + N.length
def EB (e : iR) : Prop := e.2.1.length ≤ 35184372087808 ∧ e.2.2.length ≤ 35184372087808
theorem XM {N : List iR} {x : iR} (h : ∀ e ∈ N, EB e) (hx : EB x) : ∀ e ∈ N ++ [x], EB e := fun e he => by
  rcases List.mem_append.1 he with he | he
  · exact h e he
  · rw [List.mem_singleton.1 he]; exact hx
theorem Mc {G : List (List iR)} {N : List iR} (h : ∀ g ∈ G, ∀ e ∈ g, EB e) (hx : ∀ e ∈ N, EB e) : ∀ g ∈ G ++ [N], ∀ e ∈ g, EB e := fun g hg => by
  rcases List.mem_append.1 hg with hg | hg
  · exact h g hg
  · rw [List.mem_singleton.1 hg]; exact hx
theorem QG {G : List (List iR)} {N : List iR} (h : ∀ g ∈ G, g ≠ []) (hx : N ≠ []) : ∀ g ∈ G ++ [N], g ≠ [] := fun g hg => by
  rcases List.mem_append.1 hg with hg | hg
  · exact h g hg
  · rw [List.mem_singleton.1 hg]; exact hx
def XO (G : List (List iR)) (N : List iR) (op : Int) : Prop := (∀ g ∈ G, g ≠ []) ∧ iG G N ≤ 16384 ∧ 0 ≤ op ∧ op ≤ 4611686018427387904 ∧ (∀ g ∈ G, ∀ e ∈ g, EB e) ∧ ∀ e ∈ N, EB e
theorem OZ {G : List (List iR)} (h : ∀ g ∈ G, g ≠ []) : G.length ≤ (G.map List.length).sum := by
  induction G with
  | nil => simp
  | cons g G ih =>
    have h1 := ih fun x hx => h x (by simp [hx])
    have h2 : 0 < g.length := List.length_pos_iff.2 (h g (by simp))
    simp; omega
theorem XO.len {G : List (List iR)} {N : List iR} {op : Int} (h : XO G N op) : G.length + N.length ≤ 16384 := by
  have := OZ h.1
  have := h.2.1
  unfold iG at this
  omega
def iQ (p : Nat) (G : List (List iR)) (N : List iR) (op : Int) : HP := rH fun (x : Value × Value × List (Value × List dQ) × List dQ) =>
  fact (XO G N op ∧ x.2.2.1.map (fun g => g.2.map dQ.says) = G ∧ x.2.2.2.map dQ.says = N) • dK p (.cells #[x.1, x.2.1, .int .i64 op, .int .i64 (iG G N : Nat), .bool true] 235 (0, 0)) • Bq x.1 x.2.2.1 • Jp x.2.1 x.2.2.2
section
variable {w0 w : World} {F : HP} {p : Nat} {G : List (List iR)} {N : List iR} {op : Int} {gv nv : Value} {gs : List (Value × List dQ)} {now : List dQ} {a : Int} {d z : Value} {dl il : List Int}
theorem V.xZ (H : V w0 w (iQ p G N op • F)) : ∃ gv nv gs now, XO G N op ∧ gs.map (fun g => g.2.map dQ.says) = G ∧ now.map dQ.says = N ∧ gs.length = G.length ∧ now.length = N.length ∧ G.length + N.length ≤ 16384 ∧
    V w0 w (dK p (.cells #[gv, nv, .int .i64 op, .int .i64 (iG G N : Nat), .bool true] 235 (0, 0)) • Row 80 1 gv gs.length (gs.map (·.1)) • nJ gs • Row 189 3 nv now.length (now.flatMap dQ.enc) • kE now • F) := by
  obtain ⟨⟨gv, nv, gs, now⟩, H⟩ := H.lJ
  obtain ⟨⟨h1, h2, h3⟩, H⟩ := H.flat.fact
  refine ⟨gv, nv, gs, now, h1, h2, h3, ?_, ?_, h1.len, ?_⟩
  · rw [← h2]; simp
  · rw [← h3]; simp
  · have := H.flat
    unfold Bq Jp at this
    exact this.of_eq (by ac_rfl)
theorem V.vV (h1 : XO G N op) (h2 : gs.map (fun g => g.2.map dQ.says) = G) (h3 : now.map dQ.says = N) {ed : Int} (he : ed = (iG G N : Nat))
    (H : V w0 w (dK p (.cells #[gv, nv, .int .i64 op, .int .i64 ed, .bool true] 235 (0, 0)) • Bq gv gs • Jp nv now • F)) : V w0 w (iQ p G N op • F) := by
  subst he
  exact V.iy (gv, nv, gs, now) (V.deep (V.jY ⟨h1, h2, h3⟩ (H.of_eq (by ac_rfl))))
theorem V.nK (h1 : XO G N op) (h2 : gs.map (fun g => g.2.map dQ.says) = G) (h3 : now.map dQ.says = N) {ed : Int} (he : ed = (iG G N : Nat))
    (H : V w0 w (dK p (.cells #[gv, nv, .int .i64 op, .int .i64 ed, .bool true] 235 (0, 0)) • Row 80 1 gv gs.length (gs.map (·.1)) • nJ gs • Row 189 3 nv now.length (now.flatMap dQ.enc) • kE now • F)) : V w0 w (iQ p G N op • F) :=
  V.vV h1 h2 h3 he (H.of_eq (by unfold Bq Jp; ac_rfl))
theorem mW (H : V w0 w (iQ p G N op • F)) : gI prog 158 #[.pointer (some ⟨p, 0, none⟩)] w fun v w' => v = .bool false ∧ w = w' := by
 refine gG func158 ntmps158 ?_
 refine jg O (aP ?_)
 obtain ⟨Az, yK, nM, mP, kZ, uQ, rU, FZ, F5, Md, qC⟩ := (H).xZ
 refine aC (bQ O (aV (fV underlying184 O O) (jP O (fun h1 => ?_) (fun h1 => ?_))))
 ·(try simp only [Z] at h1)
  exfalso; first | contradiction | omega
 ·(try simp only [Z] at h1)
  refine bC (bQ O (bC (dJ O (bC (bD 4 bn O aO O (bC (fG bK O (qC).get.2 O (bC (aV (lY O) (iM O O (eY O (dG results158 O ?_))))))))))))
  exact ⟨O, O⟩
theorem Kt (H : V w0 w F) : gI prog 174 #[] w fun v w' => ∃ p, v = .pointer (some ⟨p, 0, none⟩) ∧ V w0 w' (iQ p [] [] 0 • F) := by
  refine RQ func174 ntmps174 ?_
  refine jg O (iE (aV (oZ (pl := #[(0, 4), (4, 1)]) (#[_, _, _, _, _]) bn zeroValue235 (fun w => by kernel_rfl) O (O)) (jr (iD (l := [_, _, _, _, _]) H O O) ?_)))
  rintro _ w1 ⟨b1, rfl, H1⟩
  refine eY O (dG results174 O ?_)
  refine ⟨_, O, V.vV (gv := .slice none 0 0) (nv := .slice none 0 0) (gs := []) (now := []) ⟨by simp, by decide, by decide, by decide, by simp, by simp⟩ O O O ?_⟩
  exact (((H1).qY none).FY none).of_eq (by ac_rfl)
theorem Ku (H : V w0 w (iQ p G N op • F)) : gI prog 120 #[.pointer (some ⟨p, 0, none⟩)] w fun v w' => v = .int .i64 ((G.length : Int) + min 1 N.length) ∧ V w0 w' (iQ p G N op • F) := by
 refine gG func120 ntmps120 ?_
 refine jg O (aP (bP O (dS O func158 (mW H) ?_)))
 rintro _ _ ⟨rfl, rfl⟩
 refine iJ (qy (fZ (aP ?_)))
 obtain ⟨Az, yK, nM, mP, kZ, uQ, rU, FZ, F5, Md, qC⟩ := (H).xZ
 have AA := qC.drew
 have gX := V.kp (AA.f5.f5.f5.f5.f5)
 refine yC [4, 10] gX O (jG 0 O gX O (kD 1 O gX O (gV 2 O gX 0 bn O cZ O (gV 3 O gX 0 bG O eH O (jS 4 O gX (fun W hW => jX bf O ((Kp.h hW)).get.2 O) (jB 5 O gX (fun _ => jw ((AA.f2).aS) bf O) (jG 6 O gX O (kD 7 O gX O (gV 8 O gX 0 bn O cZ O (gV 9 O gX 1 bG O bH O (jS 10 O gX (fun W hW => jX aU O ((Kp.h hW)).get.2 O) (jB 11 O gX (fun _ => jw ((AA.f4).aS) aU O) (jB 12 O gX (fun _ => Cc O O) (jB 13 O gX (fun _ => gy O O (by omega)) (jB 14 O gX (fun _ => dN O) (qR (aX (mD (dG results120 O ?_)))))))))))))))))))
 have O4 := AA.f5.f5.f5.f5.f5
 have Oy := V.nK kZ uQ rU rfl O4
 exact ⟨by rw [FZ, F5]; congr 1; omega, Oy⟩
theorem vW (H : V w0 w (iQ p G N op • F)) (hb : op < 4611686018427387904) : gI prog 137 #[.pointer (some ⟨p, 0, none⟩)] w fun v w' => v = .int .i64 0 ∧ V w0 w' (iQ p G N (op + 1) • F) := by
 have hop : 0 ≤ op := by obtain ⟨gv, nv, gs, now, k1, _⟩ := H.xZ; exact k1.2.2.1
 refine gG func137 ntmps137 ?_
 refine jg O (aP (bP O (dS O func158 (mW H) ?_)))
 rintro _ _ ⟨rfl, rfl⟩
 refine iJ (qy (fZ (aP ?_)))
 obtain ⟨Az, yK, nM, mP, kZ, uQ, rU, FZ, F5, Md, qC⟩ := (H).xZ
 refine aC (nD O O (bD 0 bn O cZ O (bD 2 bG O aj O (fG aK O (qC).get.2 O (aV (gy O O (by omega)) (dJ O (bD 0 bn O cZ O (bD 2 bG O aj O (aH (XA 2 qC aj) ?_)))))))))
 rintro _ w3 H3
 refine iJ (jC O (dG results137 O ?_))
 exact ⟨O, V.nK ⟨kZ.1, kZ.2.1, by omega, by omega, kZ.2.2.2.2⟩ uQ rU O H3.f5.f5.f5.f5.f5⟩
def uq (G : List (List iR)) (N : List iR) (a : Int) (dl il : List Int) : Int := if dl.length + il.length = 0 ∨ a < 0 then 1 else if 16384 ≤ iG G N then 3 else 0
def O5 (G : List (List iR)) (N : List iR) (op a : Int) (dl il : List Int) : List (List iR) := if uq G N a dl il = 0 then (if 0 < op then G else G ++ [[(a, dl, il)]]) else G
def O6 (G : List (List iR)) (N : List iR) (op a : Int) (dl il : List Int) : List iR := if uq G N a dl il = 0 then (if 0 < op then N ++ [(a, dl, il)] else N) else N
theorem QH {x : iR} : iG G (N ++ [x]) = iG G N + 1 := by simp [iG]; omega
theorem Me {x : iR} : iG (G ++ [[x]]) N = iG G N + 1 := by simp [iG]; omega
theorem F6 (h : uq G N a dl il ≠ 0) : O5 G N op a dl il = G := by unfold O5; rw [if_neg h]
theorem F7 (h : uq G N a dl il ≠ 0) : O6 G N op a dl il = N := by unfold O6; rw [if_neg h]
theorem E5 (h : uq G N a dl il = 0) (ho : 0 < op) : O5 G N op a dl il = G := by unfold O5; rw [if_pos h, if_pos ho]
theorem E8 (h : uq G N a dl il = 0) (ho : 0 < op) : O6 G N op a dl il = N ++ [(a, dl, il)] := by unfold O6; rw [if_pos h, if_pos ho]
theorem UK (h : uq G N a dl il = 0) (ho : ¬ 0 < op) : O5 G N op a dl il = G ++ [[(a, dl, il)]] := by unfold O5; rw [if_pos h, if_neg ho]
theorem UL (h : uq G N a dl il = 0) (ho : ¬ 0 < op) : O6 G N op a dl il = N := by unfold O6; rw [if_pos h, if_neg ho]
theorem yL (H : V w0 w (iQ p G N op • F)) (hd : jZ w0 F .i32 d dl) (hi : jZ w0 F .i32 z il) (b2 : dl.length ≤ 35184372087808) (b3 : il.length ≤ 35184372087808) :
  gI prog 138 #[.pointer (some ⟨p, 0, none⟩), edV a d z] w fun v w' => v = .int .i64 (uq G N a dl il) ∧ V w0 w' (iQ p (O5 G N op a dl il) (O6 G N op a dl il) op • F) := by
 refine oq func138 ntmps138 ?_
 refine iE (jr (iD (l := [_, _, _]) H O O) ?_)
 rintro _ w1 ⟨b1, rfl, H1⟩
 refine vk O (bP O (dS O func158 (mW H1.f2) ?_))
 rintro _ _ ⟨rfl, rfl⟩
 refine iJ (qy (fZ (aP (iE (bD 1 dA O dH O (fG aB O (H1).get.2 O (aV (jk (hd _ (H1.right.right)) aB O) (bD 2 dA O dH O (fG aB O (H1).get.2 O (aV (jk (hi _ (H1.right.right)) aB O) (aV (gy O O (by omega)) (aV (dV O O) (jP O (fun h1 => ?_) (fun h1 => ?_))))))))))))))
 ·(try simp only [Z] at h1)
  refine bI (bI (bI (jF O O (iJ (EK (jC O (aF (dG results138 O ?_))))))))
  have e : uq G N a dl il = 1 := by unfold uq; rw [if_pos (by omega)]
  rw [F6 (by rw [e]; decide), F7 (by rw [e]; decide), e]
  exact ⟨O, H1.right⟩
 ·(try simp only [Z] at h1)
  refine bC (bD 0 dA O aj O (bC (fG aK O (H1).get.2 O (bC (aV (iL O O) (iM O O (jh O (fun h2 => ?_) (fun h2 => ?_))))))))
  ·(try simp only [Z] at h2)
   refine jC O (aF (dG results138 O ?_))
   have e : uq G N a dl il = 1 := by unfold uq; rw [if_pos (by omega)]
   rw [F6 (by rw [e]; decide), F7 (by rw [e]; decide), e]
   exact ⟨O, H1.right⟩
  ·(try simp only [Z] at h2)
   refine fZ (aP (aP ?_))
   obtain ⟨Az, yK, nM, mP, kZ, uQ, rU, FZ, F5, Md, qC⟩ := (H1.f2).xZ
   refine aC (nD O O (bD 0 bn O cZ O (bD 3 bG O aj O (fG aK O (qC).get.2 O (aV (lK O O) (jh O (fun h3 => ?_) (fun h3 => ?_)))))))
   ·(try simp only [Z] at h3)
    refine jC O (aF (dG results138 O ?_))
    have e : uq G N a dl il = 3 := by unfold uq; rw [if_neg (by omega), if_pos (by omega)]
    have ZQ := qC.f5.f5.f5.f5.f5
    have ZR := V.nK kZ uQ rU rfl ZQ
    rw [F6 (by rw [e]; decide), F7 (by rw [e]; decide), e]
    exact ⟨O, ZR.f2.right⟩
   ·(try simp only [Z] at h3)
    refine fZ (bP O (dJ O (bD 0 bn O cZ O (bD 3 bG O aj O (fG aK O (qC).get.2 O (aV (gy O O (by omega)) (dJ O (bD 0 bn O cZ O (bD 3 bG O aj O (aH (XA 3 qC aj) ?_))))))))))
    rintro _ w7 H7
    refine pJ (bP O (dJ O (bD 0 bn O cZ O (bD 2 bG O aj O (fG aK O (H7).get.2 O (aV (iV O O) (jh O (fun h4 => ?_) (fun h4 => ?_))))))))
    ·(try simp only [Z] at h4)
     have abD := H7.drew
     have Ep := V.kp (abD.f6.f6.f6.f6.f6.f6)
     refine yC [5, 6] Ep O (jG 0 O Ep O (jG 1 O Ep O (kD 2 O Ep O (gV 3 O Ep 0 bn O cZ O (gV 4 O Ep 1 bG O bH O (jS 5 O Ep (fun W hW => jX aU O ((Kp.h hW)).get.2 O) (jS 6 O Ep (fun W hW => eU dA O dW O O ((Kp.h hW).f6).get.2) (og 7 O (yF O func179 (uP abD (fun W HW => hd _ (HW.right.right.right.right.right.right)) (fun W HW => hi _ (HW.right.right.right.right.right.right)) (by omega) (by omega))) ?_))))))))
     rintro _ w8 ⟨d8, s8, rfl, H8⟩
     have O7 := V.kp (H8.f8.f8.f8.f8.f8.f8.f8.f8)
     refine dU O7 (fun W hW => (Kp.h hW).right.right.f6.f6.f6.f6.f6.f6) ?_
     refine og 8 O (uZ H8 aU dW gZ O O O (by decide) (by decide)) ?_
     rintro l9 w9 H9
     have O8 := V.kp (H9.f9.f9.f9.f9.f9.f9.f9.f9.f9)
     refine dU O8 (fun W hW => (Kp.h hW).right.f8.f8.f8.f8.f8.f8.f8.f8) ?_
     refine og 9 O (fQ H9.f7 aU zI O O O ((H9).aS) (ay (aW (by first | rfl | exact Rd.one ((H9.f2).aS)) (aW (by first | rfl | exact Rd.one ((H9.f3).aS)) bF))) (by omega) (by omega)) ?_
     rintro l10 w10 pV
     have O9 := pV.f2.right
     have y7 := V.kp (O9.f8.f8.f8.f8.f8.f8.f8.f8)
     refine gW y7 (by kernel_rfl) ?_
     refine kD 10 O y7 O (gV 11 O y7 0 bn O cZ O (gV 12 O y7 1 bG O bH O ?_))
     refine fM 13 O (by kernel_rfl) (eX 1 (l' := [_, _, _, _, _]) O9.f4 bH O O (by first | rfl | exact Rd.one ((O9).aS)) O O) ?_
     rintro _ w12 um
     have F8 := V.kp (um.f8.f8.f8.f8.f8.f8.f8.f8)
     refine gW F8 (by kernel_rfl) ?_
     have hadd : 0 < op := by omega
     refine qR (aX (jC O (dG results138 O ?_)))
     have e : uq G N a dl il = 0 := by unfold uq; rw [if_neg (by omega), if_neg (by omega)]
     rw [E5 e hadd, E8 e hadd, e]
     have X := (um.f8.right.f6.f6.f3.f7.f5.f7.f7).oI.swap.oI.swap
     have X2 := V.CU X.f3
     refine ⟨O, V.vV (gv := Az) (nv := l10) (gs := nM) (now := mP ++ [⟨a, d8, dl, s8, il⟩]) (ed := (iG G N : Nat) + 1) ⟨kZ.1, by rw [QH]; omega, kZ.2.2.1, kZ.2.2.2.1, kZ.2.2.2.2.1, XM kZ.2.2.2.2.2 ⟨b2, b3⟩⟩ uQ (by rw [List.map_append, rU]; rfl) (by rw [QH]; rfl) (X2.of_eq (by unfold Bq; ac_rfl))⟩
    ·(try simp only [Z] at h4)
     have UM := H7.drew
     have wS := V.kp (UM.f6.f6.f6.f6.f6.f6)
     refine yC [5, 6] wS O (jG 0 O wS O (jG 1 O wS O (kD 2 O wS O (gV 3 O wS 0 bn O cZ O (gV 4 O wS 0 bG O eH O (jS 5 O wS (fun W hW => jX bf O ((Kp.h hW)).get.2 O) (jS 6 O wS (fun W hW => eU dA O dW O O ((Kp.h hW).f6).get.2) (og 7 O (yF O func179 (uP UM (fun W HW => hd _ (HW.right.right.right.right.right.right)) (fun W HW => hi _ (HW.right.right.right.right.right.right)) (by omega) (by omega))) ?_))))))))
     rintro _ Oz ⟨d13, s13, rfl, uS⟩
     have uG := V.kp (uS.f8.f8.f8.f8.f8.f8.f8.f8)
     refine dU uG (fun W hW => (Kp.h hW).right.right.f6.f6.f6.f6.f6.f6) ?_
     refine og 8 O (uZ uS aU dW gZ O O O (by decide) (by decide)) ?_
     rintro l14 RV Ag
     have CV := V.kp (Ag.f9.f9.f9.f9.f9.f9.f9.f9.f9)
     refine dU CV (fun W hW => (Kp.h hW).right.f8.f8.f8.f8.f8.f8.f8.f8) ?_
     refine og 9 O (jQ (vs := [_]) Ag bf bH lq O O O (by decide) (aW (by first | rfl | exact Rd.one ((Ag).aS)) bF)) ?_
     rintro l15 Sr yM
     have uH := V.kp (yM.f10.f10.f10.f10.f10.f10.f10.f10.f10.f10)
     refine dU uH (fun W hW => (Kp.h hW).right.f9.f9.f9.f9.f9.f9.f9.f9.f9) ?_
     refine og 10 O (fQ yM.f6 bf Es O O O ((yM).aS) (aW (by first | rfl | exact Rd.one ((yM.f2).aS)) bF) (by omega) (by omega)) ?_
     rintro l16 w16 yH
     have Pe := yH.f2.right
     have Et := V.kp (Pe.f9.f9.f9.f9.f9.f9.f9.f9.f9)
     refine gW Et (by kernel_rfl) ?_
     refine kD 11 O Et O (gV 12 O Et 0 bn O cZ O (gV 13 O Et 0 bG O eH O ?_))
     refine fM 14 O (by kernel_rfl) (eX 0 (l' := [_, _, _, _, _]) Pe.f5 eH O O (by first | rfl | exact Rd.one ((Pe).aS)) O O) ?_
     rintro _ XF CG
     have UN := V.kp (CG.f9.f9.f9.f9.f9.f9.f9.f9.f9)
     refine gW UN (by kernel_rfl) ?_
     have hadd : ¬ 0 < op := by omega
     refine qR (aX (jC O (dG results138 O ?_)))
     have e : uq G N a dl il = 0 := by unfold uq; rw [if_neg (by omega), if_neg (by omega)]
     rw [UK e hadd, UL e hadd, e]
     have X := (CG.f9.right.f8.f8.f3.f8.f5.f6.f8.f8).oI.swap.oI.swap
     have X2 := V.CU (es := []) X.L6.f3.f3.f4
     have X4 := V.qJ X2.oN.swap
     refine ⟨O, V.vV (gv := l16) (nv := yK) (gs := nM ++ [(l14, [⟨a, d13, dl, s13, il⟩])]) (now := mP) (ed := (iG G N : Nat) + 1) ⟨QG kZ.1 (List.cons_ne_nil _ _), by rw [Me]; omega, kZ.2.2.1, kZ.2.2.2.1, Mc kZ.2.2.2.2.1 (by intro e he; rw [List.mem_singleton.1 he]; exact ⟨b2, b3⟩), kZ.2.2.2.2.2⟩ (by rw [List.map_append, uQ]; rfl) rU (by rw [Me]; rfl) (X4.of_eq (by unfold Jp; ac_rfl))⟩
end
end Go.Proofs.YtpdeedplgmbopaaGreatDoor
end
section
namespace Go.Proofs.YtpdeedplgmbopaaGreatDoor
open Go.RowKit
def Kv (P : Program) (l : Nat) (vs : List Value) (w : World) (T : Value → World → Prop) : Prop :=
  ∃ f tmps c d, (Instr.yield l vs.toArray).run P w = .ok (.round l f tmps c d) w ∧ RoundIn Fence.wide 0 P l f tmps c d w fun e w' => ∃ v, e = .returned v ∧ T v w'
theorem Kv.mono {P : Program} {l : Nat} {vs : List Value} {w : World} {T T' : Value → World → Prop} (h : Kv P l vs w T) (k : ∀ v w', T v w' → T' v w') : Kv P l vs w T' :=
  let ⟨f, tmps, c, d, h1, h2⟩ := h; ⟨f, tmps, c, d, h1, RoundIn.mono h2 fun _ _ ⟨v, e, t⟩ => ⟨v, e, k _ _ t⟩⟩
theorem Kv.bool {P : Program} {l : Nat} {vs : List Value} {w : World} {A B : World → Prop} (h : Kv P l vs w fun v W' => (v = .bool true ∧ A W') ∨ (v = .bool false ∧ B W')) : Kv P l vs w fun v W' => ∃ t, v = .bool t ∧ (t = true → A W') ∧ (t = false → B W') :=
  h.mono fun v W' hv => by
    rcases hv with ⟨rfl, h⟩ | ⟨rfl, h⟩
    · exact ⟨true, rfl, fun _ => h, fun e => by cases e⟩
    · exact ⟨false, rfl, (fun e => by cases e), fun _ => h⟩
theorem Kw {P : Program} {L : List (Nat × Value)} {w : World} {ty : TypeId} {x : Operand} {args : List Operand} {ts : Array TypeId} {l : Nat} {vs : List Value} {T : Value → World → Prop} (hx : ev L x = some (.func (.yield l) #[] #[])) (ha : Dz L args = some vs) (h : Kv P l vs w T) :
    ug P L (.call ⟨.value x, args.toArray, ts⟩) ty w T := by
  obtain ⟨f, tmps, c, d, hy, hr⟩ := h
  refine Xp (fun ρ hρ dd pos nC g => ?_) hr
  have hg := hρ _ _ hx
  simp [execOp, resolve, invoke, ZE hρ _ _ ha, hg, Deferred.ofValue, hy]
def Iter (P : Program) (w0 : World) (fv : Value) (R : HP) (n : Nat) (E : Nat → List Value → HP → Prop) : Prop :=
  ∀ (l : Nat) (J : Nat → HP) (X : HP) (w : World),
    (∀ k, k < n → ∀ vs A, E k vs A → ∀ G W, V w0 W (A • J k • G) → Kv P l vs W fun v W' => (v = .bool true ∧ V w0 W' (J (k + 1) • G)) ∨ (v = .bool false ∧ V w0 W' (X • G))) →
    V w0 w (J 0 • R) → qU P fv [.func (.yield l) #[] #[]] w fun _ W' => V w0 W' (J n • R) ∨ V w0 W' (X • R)
def MB (w0 : World) (I : HP) (Xr : HP) (Xe : Nat → HP) (G : HP) : Exit → Act → World → Prop
  | .normal, _, W => V w0 W (I • G)
  | .ret, _, W => V w0 W (Xr • G)
  | .exit id, _, W => V w0 W (Xe id • G)
  | _, _, _ => False
def QI (P : Program) (N : Sh) (w0 : World) (body : Code) (I : HP) (Xr : HP) (Xe : Nat → HP) (G : HP) (a : Act) (W : World) : Prop :=
  ∃ (L : List (Nat × Value)) (B : HP), Fits N L a ∧ V w0 W (B • G) ∧ ∀ G' W', V w0 W' (B • G') → WC P N body (MB w0 I Xr Xe G') L W'
def UO : Exit → Act → World → Prop := fun _ _ _ => False
theorem Pg {P : Program} {N : Sh} {w0 w : World} {body : Code} {I Xr : HP} {Xe : Nat → HP} {G B : HP} {L : List (Nat × Value)} (H : V w0 w (B • G)) (h : ∀ G' W', V w0 W' (B • G') → WC P N body (MB w0 I Xr Xe G') L W') :
    WQ N (Exit.then (QI P N w0 body I Xr Xe G) UO) .normal L w := fun _ a ha => ⟨L, B, ha, H, h⟩
theorem F9 {N : Sh} {w0 w : World} {I Xr : HP} {Xe : Nat → HP} {G : HP} {L : List (Nat × Value)} (H : V w0 w (I • G)) : WQ N (MB w0 I Xr Xe G) .normal L w := fun _ _ _ => H
theorem UQ {N : Sh} {w0 w : World} {I Xr : HP} {Xe : Nat → HP} {G : HP} {id : Nat} {L : List (Nat × Value)} (H : V w0 w (Xe id • G)) : WQ N (MB w0 I Xr Xe G) (.exit id) L w := fun _ _ _ => H
theorem UR {w0 : World} {I Xr : HP} {Xe : Nat → HP} {G : HP} : NP (MB w0 I Xr Xe G) := fun _ _ _ h => h
def Ph : List Nat → List Value → List (Nat × Value) → List (Nat × Value)
  | [], _, L => L
  | _ :: _, [], L => L
  | p :: ps, v :: vs, L => Ph ps vs ((p, v) :: L)
theorem MC {n l : Nat} : ∀ (ps : List Nat) (vs : List Value) (L : List (Nat × Value)) (tmps : Array Value), (∀ p ∈ ps, p < n) → Fits ⟨n, [], some l⟩ L { tmps := tmps, defers := [] } →
    Fits ⟨n, [], some l⟩ (Ph ps vs L) { tmps := (ps.zip vs).foldl (fun t (p : Nat × Value) => t.setIfInBounds p.1 p.2) tmps, defers := [] }
  | [], _, _, _, _, h => h
  | _ :: _, [], _, _, _, h => h
  | p :: ps, v :: vs, L, tmps, hp, h => MC ps vs _ _ (fun q hq => hp q (by simp [hq])) (h.put (hp p (by simp)) v)
section
variable {P : Program} {N : Sh} {Q : Exit → Act → World → Prop} {L : List (Nat × Value)} {w0 w : World}
theorem yN {g : Operand} {ps : List Nat} {assign body : Code} {fv : Value} {R : HP} {n : Nat} {E : Nat → List Value → HP → Prop} (hg : ev L g = some fv) (hit : Iter P w0 fv R n E) (I : Nat → HP) (Xr : HP) (Xe : Nat → HP) (H : V w0 w (I 0 • R))
    (hps : ps.all (· < N.n) = true)
    (hbody : ∀ l k, k < n → ∀ vs A, E k vs A → ∀ G W, V w0 W (A • I k • G) → vs.length = ps.length ∧ WC P ⟨N.n, [], some l⟩ assign (Exit.then (QI P ⟨N.n, [], some l⟩ w0 body (I (k + 1)) Xr Xe G) UO) (Ph ps vs L) W)
    (hdone : ∀ D W, V w0 W (dK D (.deferred (some [])) • I n • R) → WQ ⟨N.n, D :: N.ds, none⟩ Q .normal L W)
    (hret : ∀ D W, V w0 W (dK D (.deferred (some [])) • Xr • R) → WQ ⟨N.n, D :: N.ds, none⟩ Q .ret L W)
    (abE : ∀ id D W, V w0 W (dK D (.deferred (some [])) • Xe id • R) → WQ ⟨N.n, D :: N.ds, none⟩ Q (.exit id) L W)
    (hro : N.ro = none := by rfl) : WC P N (.rangeFunc g ps.toArray assign body) Q L w := fun np a ha => by
  rw [hro]
  refine wpIn_rangeFunc fun fn _ => ?_
  let rE : LoopState → Option Code → Loop := fun s j => { state := s, pending := j, fn, tmps := a.tmps, params := ps.toArray, assign, body, defers := w.heap.size }
  have acW := run_enterLoop_outer (P := P) (w := w) fn a.tmps ps.toArray assign body
  have H1 : V w0 ((w.alloc (.deferred (some []))).alloc (.loop (rE .ready none))) (dK (w.heap.size + 1) (.loop (rE .ready none)) • dK w.heap.size (.deferred (some [])) • I 0 • R) := by
    have := (H.alloc (.deferred (some []))).alloc (.loop (rE .ready none))
    rw [World.size_alloc] at this
    exact this
  let Lk : LoopState → Option Code → HP := fun s j => dK (w.heap.size + 1) (.loop (rE s j)) • dK w.heap.size (.deferred (some []))
  have ZT : ∀ k, k < n → ∀ vs A, E k vs A → ∀ G W, V w0 W (A • (Lk .ready none • I k) • G) → Kv P (w.heap.size + 1) vs W fun v W' => (v = .bool true ∧ V w0 W' ((Lk .ready none • I (k + 1)) • G)) ∨
      (v = .bool false ∧ V w0 W' (rH (fun c : Code => Lk .done (some c) • (match c with | .ret => Xr | .exit id => Xe id | _ => fact False)) • G)) := by
    intro k hk vs A hE G W HW
    have e1 : (A • (Lk .ready none • I k) • G) = (dK (w.heap.size + 1) (.loop (rE .ready none)) • A • I k • dK w.heap.size (.deferred (some [])) • G) := by
      show (A • ((dK (w.heap.size + 1) (.loop (rE .ready none)) • dK w.heap.size (.deferred (some []))) • I k) • G) = _
      ac_rfl
    have HW1 := HW.of_eq e1
    have hl := HW1.get.2
    have hlen := (hbody (w.heap.size + 1) k hk vs A hE _ W (HW1.of_eq (show _ = (A • I k • dK (w.heap.size + 1) (.loop (rE .ready none)) • dK w.heap.size (.deferred (some [])) • G) by ac_rfl))).1
    refine ⟨fn, _, assign, body, run_yield hl (by rw [List.size_toArray, hlen]; exact List.size_toArray.symm), ?_⟩
    have hfit : Fits ⟨N.n, [], some (w.heap.size + 1)⟩ (Ph ps vs L) { tmps := (ps.toArray.zip vs.toArray).foldl (fun tmps (t, a) => tmps.setIfInBounds t a) a.tmps, defers := [] } := by
      have := MC (n := N.n) (l := w.heap.size + 1) ps vs L a.tmps (fun p hp => by simpa using List.all_eq_true.1 hps p hp) ⟨ha.size, rfl, ha.at_⟩
      simpa using this
    refine roundIn_of_wpIn trivial ?_
    have HW2 : V w0 W (A • I k • dK (w.heap.size + 1) (.loop (rE .ready none)) • dK w.heap.size (.deferred (some [])) • G) := HW1.of_eq (by ac_rfl)
    have hb := (hbody (w.heap.size + 1) k hk vs A hE _ W HW2).2 (fun c a w h => h) _ hfit
    refine wpIn_mono hb ?_
    rintro e a1 W1 hq
    cases e with
    | exit id => exact hq.elim
    | goto l => exact hq.elim
    | ret => exact hq.elim
    | panic c => exact hq.elim
    | outgrown => exact hq.elim
    | normal =>
      obtain ⟨L1, B, hf1, HB, hgo⟩ := hq
      have HB1 : V w0 W1 (dK (w.heap.size + 1) (.loop (rE .ready none)) • B • dK w.heap.size (.deferred (some [])) • G) := HB.of_eq (by ac_rfl)
      have hl1 := HB1.get.2
      refine ⟨_, run_beginRound hl1 rfl, ?_⟩
      have HB2 : V w0 (W1.putObj (w.heap.size + 1) (.loop (rE .busy none))) (dK (w.heap.size + 1) (.loop (rE .busy none)) • B • dK w.heap.size (.deferred (some [])) • G) := HB1.turn rfl rfl rfl (by simp) (World.putObj_heap_same HB1.lt) fun k hk _ => World.putObj_heap_other hk
      have hbd := hgo (dK (w.heap.size + 1) (.loop (rE .busy none)) • dK w.heap.size (.deferred (some [])) • G) _ (HB2.of_eq (by ac_rfl)) UR a1 hf1
      refine wpIn_mono hbd ?_
      have fin : ∀ (j : Option Code) (W3 : World) (A3 : HP), V w0 W3 (A3 • dK (w.heap.size + 1) (.loop (rE .busy none)) • dK w.heap.size (.deferred (some [])) • G) →
          (Instr.endRound (w.heap.size + 1) j).run P W3 = .ok (.bool j.isNone) (W3.putObj (w.heap.size + 1) (.loop (rE (if j.isNone then .ready else .done) j))) ∧
          V w0 (W3.putObj (w.heap.size + 1) (.loop (rE (if j.isNone then .ready else .done) j))) ((Lk (if j.isNone then .ready else .done) j • A3) • G) := by
        intro j W3 A3 H3
        have H4 := H3.swap
        refine ⟨run_endRound j H4.get.2, ?_⟩
        have H5 : V w0 (W3.putObj (w.heap.size + 1) (.loop (rE (if j.isNone then .ready else .done) j))) (dK (w.heap.size + 1) (.loop (rE (if j.isNone then .ready else .done) j)) • A3 • dK w.heap.size (.deferred (some [])) • G) := H4.turn rfl rfl rfl (by simp) (World.putObj_heap_same H4.lt) fun k hk _ => World.putObj_heap_other hk
        refine H5.of_eq ?_
        show _ = (((dK (w.heap.size + 1) (.loop (rE (if j.isNone then .ready else .done) j)) • dK w.heap.size (.deferred (some []))) • A3) • G)
        ac_rfl
      rintro e a3 W3 hp
      cases e with
      | normal => obtain ⟨h1, h2⟩ := fin none W3 _ hp; exact ⟨_, _, h1, _, rfl, .inl ⟨rfl, h2⟩⟩
      | ret => obtain ⟨h1, h2⟩ := fin (some .ret) W3 _ hp; exact ⟨_, _, h1, _, rfl, .inr ⟨rfl, V.iy .ret h2⟩⟩
      | exit id => obtain ⟨h1, h2⟩ := fin (some (.exit id)) W3 _ hp; exact ⟨_, _, h1, _, rfl, .inr ⟨rfl, V.iy (.exit id) h2⟩⟩
      | goto l => exact hp.elim
      | panic c => exact hp.elim
      | outgrown => exact hp.elim
  have hcall := hit (w.heap.size + 1) (fun k => Lk .ready none • I k) _ _ ZT (H1.of_eq (by
    show _ = (((dK (w.heap.size + 1) (.loop (rE .ready none)) • dK w.heap.size (.deferred (some []))) • I 0) • R)
    ac_rfl))
  obtain ⟨f, first, cap, fn', c, rfl, hf, hn, hb, abF⟩ := hcall
  refine ⟨w.heap.size + 1, _, _, { target := .fn (.func f) cap.toArray, args := (first ++ [Value.func (.yield (w.heap.size + 1)) #[] #[]]).toArray }, (w.alloc (.deferred (some []))).alloc (.loop (rE .ready none)), f, _, (w.alloc (.deferred (some []))).alloc (.loop (rE .ready none)), acW, ?_, fun _ _ => trivial, ?_, (fun h => by cases h), Uf.2 (Calls.mono abF ?_)⟩
  · have he := ha.ev hg
    have he2 : a.eval (.const (.func (.yield (w.heap.size + 1)) #[] #[])) = .func (.yield (w.heap.size + 1)) #[] #[] := rfl
    simp [resolve, rangeCall, he, he2, Deferred.ofValue, rE]
  · simp [invoke, callFunc, hf, hb]
    simpa using hn
  · rintro e W2 ⟨v, rfl, hv⟩
    have fin : ∀ (s : LoopState) (j : Option Code) (A : HP), s ≠ .busy → V w0 W2 ((Lk s j • A) • R) → (Instr.endLoop (w.heap.size + 1)).run P W2 = .ok j (W2.putObj (w.heap.size + 1) (.loop (rE .exhausted j))) ∧
        V w0 (W2.putObj (w.heap.size + 1) (.loop (rE .exhausted j))) (dK w.heap.size (.deferred (some [])) • A • R) := by
      intro s j A hs H3
      have H4 : V w0 W2 (dK (w.heap.size + 1) (.loop (rE s j)) • dK w.heap.size (.deferred (some [])) • A • R) := H3.of_eq (by
        show (((dK (w.heap.size + 1) (.loop (rE s j)) • dK w.heap.size (.deferred (some []))) • A) • R) = _
        ac_rfl)
      refine ⟨run_endLoop H4.get.2 hs, ?_⟩
      have H5 : V w0 (W2.putObj (w.heap.size + 1) (.loop (rE .exhausted j))) (dK (w.heap.size + 1) (.loop (rE .exhausted j)) • dK w.heap.size (.deferred (some [])) • A • R) := H4.turn rfl rfl rfl (by simp) (World.putObj_heap_same H4.lt) fun k hk _ => World.putObj_heap_other hk
      exact H5.right
    have hfit : Fits ⟨N.n, w.heap.size :: N.ds, none⟩ L { a with defers := [{ target := .collected w.heap.size, args := #[] }] ++ a.defers } := ⟨ha.size, by simp [ha.defers, Ue], ha.at_⟩
    rcases hv with hv | hv
    · obtain ⟨h1, h2⟩ := fin _ _ _ (by decide) hv
      exact ⟨none, _, h1, hdone _ _ h2 np _ hfit⟩
    · obtain ⟨c, hv⟩ := hv.lJ
      obtain ⟨h1, h2⟩ := fin _ _ _ (by decide) hv
      cases c with
      | ret => exact ⟨some .ret, _, h1, wpIn_ret (hret _ _ h2 np _ hfit)⟩
      | exit id => exact ⟨some (.exit id), _, h1, wpIn_exit (abE id _ _ h2 np _ hfit)⟩
      | _ => exact absurd h2.swap.fact.1 id
end
end Go.Proofs.YtpdeedplgmbopaaGreatDoor
end
section
namespace Go.Proofs.YtpdeedplgmbopaaGreatDoor
open Go.RowKit
open _root_.Go.Proofs.Tryz
def mF (G : List (List iR)) (N : List iR) : List (List iR) := if N = [] then G else G ++ [N]
theorem Pj {G : List (List iR)} {N : List iR} (h : N = []) : mF G N = G := by unfold mF; rw [if_pos h]
theorem qK {G : List (List iR)} {N : List iR} (h : N ≠ []) : mF G N = G ++ [N] := by unfold mF; rw [if_neg h]
theorem Gf {G : List (List iR)} {N : List iR} : iG (mF G N) [] = iG G N := by
  unfold mF; split
  · rename_i h; rw [h]
  · simp [iG]
section
variable {w0 w : World} {F : HP} {p : Nat} {G : List (List iR)} {N : List iR} {op : Int} {gv nv v : Value} {gs : List (Value × List dQ)} {now es : List dQ} {a : Int} {d z : Value} {dl il : List Int}
theorem zJ (H : V w0 w (iQ p G N op • F)) : gI prog 177 #[.pointer (some ⟨p, 0, none⟩)] w fun _ w' => V w0 w' (iQ p (mF G N) [] 0 • F) := by
 refine gG func177 ntmps177 ?_
 refine aP (aP ?_)
 obtain ⟨Az, yK, nM, mP, kZ, uQ, rU, FZ, F5, Md, qC⟩ := (H).xZ
 refine aC (nD O O (bD 0 bn O cZ O (bD 1 bG O bH O (fG aU O (qC).get.2 O (aV (jw ((qC.f4).aS) aU O) (aV (iV O O) (jh O (fun h1 => ?_) (fun h1 => ?_))))))))
 ·(try simp only [Z] at h1)
  have abG : 0 < mP.length := by omega
  have Pm := qC.drew
  have nT := V.kp (Pm.f5.f5.f5.f5.f5)
  refine yC [5, 10] nT O (jG 0 O nT O (jG 1 O nT O (kD 2 O nT O (gV 3 O nT 0 bn O cZ O (gV 4 O nT 0 bG O eH O (jS 5 O nT (fun W hW => jX bf O ((Kp.h hW)).get.2 O) (jG 6 O nT O (kD 7 O nT O (gV 8 O nT 0 bn O cZ O (gV 9 O nT 1 bG O bH O (jS 10 O nT (fun W hW => jX aU O ((Kp.h hW)).get.2 O) (og 11 O (jQ (vs := [_]) Pm bf bH lq O O O (by decide) (aW (by first | rfl | exact Rd.one ((Pm.f4).aS)) bF)) ?_))))))))))))
  rintro l2 w2 H2
  have xw := V.kp (H2.f6.f6.f6.f6.f6.f6)
  refine dU xw (fun W hW => (Kp.h hW).right.f5.f5.f5.f5.f5) ?_
  refine og 12 O (fQ H2.f3 bf Es O O O ((H2).aS) (aW (by first | rfl | exact Rd.one ((H2.f5).aS)) bF) (by omega) (by omega)) ?_
  rintro l3 w3 H3
  have Hd4 := H3.f2.right
  have xu := V.kp (Hd4.f5.f5.f5.f5.f5)
  refine gW xu (by kernel_rfl) ?_
  refine kD 13 O xu O (gV 14 O xu 0 bn O cZ O (gV 15 O xu 0 bG O eH O ?_))
  refine fM 16 O (by kernel_rfl) (eX 0 (l' := [_, _, _, _, _]) Hd4.f2 eH O O (by first | rfl | exact Rd.one ((Hd4).aS)) O O) ?_
  rintro _ w5 H5
  have Bv := V.kp (H5.f5.f5.f5.f5.f5)
  refine gW Bv (by kernel_rfl) ?_
  refine qR (aX (aC (jJ O O (dJ O (bD 0 bn O cZ O (bD 1 bG O bH O (aH (XA 1 H5 bH) ?_)))))))
  rintro _ w6 H6
  refine dJ O (bD 0 bn O cZ O (bD 2 bG O aj O (aH (XA 2 H6 aj) ?_)))
  rintro _ w7 H7
  refine bM (lg (.inr O) results177 ?_)
  have hN : N ≠ [] := by rintro rfl; exact absurd F5 (by simp only [List.length_nil]; omega)
  rw [qK hN]
  have X := V.oN (v := yK) (es := mP) (H7.f3.f3.f5.f5).deep
  have X4 := V.qJ X.swap
  refine V.vV (gv := l3) (nv := .slice none 0 0) (gs := nM ++ [(yK, mP)]) (now := []) (ed := (iG G N : Nat)) ⟨QG kZ.1 hN, by rw [← qK hN, Gf]; exact kZ.2.1, by decide, by decide, Mc kZ.2.2.2.2.1 kZ.2.2.2.2.2, by simp⟩ (by rw [List.map_append, uQ, ← rU]; rfl) O (by rw [← qK hN, Gf]) ((X4.qY none).of_eq (by ac_rfl))
 ·(try simp only [Z] at h1)
  have abG : mP.length = 0 := by omega
  refine fZ (aC (jJ O O (dJ O (bD 0 bn O cZ O (bD 1 bG O bH O (aH (XA 1 qC bH) ?_))))))
  rintro _ w8 H8
  refine dJ O (bD 0 bn O cZ O (bD 2 bG O aj O (aH (XA 2 H8 aj) ?_)))
  rintro _ w9 H9
  refine bM (lg (.inr O) results177 ?_)
  have hN : N = [] := by rw [← rU, List.eq_nil_of_length_eq_zero abG]; rfl
  subst hN
  rw [Pj rfl]
  refine V.vV (gv := Az) (nv := .slice none 0 0) (gs := nM) (now := []) (ed := (iG G [] : Nat)) ⟨kZ.1, kZ.2.1, by decide, by decide, kZ.2.2.2.2⟩ uQ O O (((H9.f4.right.f4.right.f3.f3).qY none).of_eq (by unfold Bq; ac_rfl))
theorem V.Ky (H : V w0 w (AQ v es • F)) : V w0 w (AQ v es • AQ v es • F) := H.qO
theorem Sv (b : Nat) : Iter prog w0 (.func (.func 210) #[] #[.pointer (some ⟨b, 0, none⟩)]) (dK b (.cells #[v] 80 (0, 0)) • AQ v es) es.length
  (fun k vs A => vs = [.int .i64 ((es.length - (k + 1) : Nat) : Int), .agg (es.getD (es.length - (k + 1)) default).enc.toArray] ∧ A = AQ v es) := by
 intro l J X w hy H
 refine ⟨210, [], [.pointer (some ⟨b, 0, none⟩)], _, _, O, func210, O, O, ?_⟩
 have H1 : V w0 w (dK b (.cells #[v] 80 (0, 0)) • AQ v es • J 0) := H.of_eq (by ac_rfl)
 obtain ⟨a, c, hv, hc1, hc2, _⟩ := (H1.swap.uo).form
 subst hv
 simp only [List.nil_append, List.cons_append]
 refine TW func210 ntmps210 ?_
 dsimp only [vJ, Nat.reduceAdd]
 refine iE (fG aU O (H1).get.2 O (aV (jw ((H1.f2).uo) aU O) (aV (kX O O (by omega)) (gJ O (aY ?_)))))
 refine fF [(0, _), (1, _)] (fun (k : Nat) => [(3, .int .i64 ((k : Int) - 1))]) (fun (k : Nat) W => k ≤ es.length ∧ V w0 W (dK b (.cells #[.slice a es.length c] 80 (0, 0)) • AQ (.slice a es.length c) es • J (es.length - k))) (fun (k : Nat) => k) (es.length) qB lI ⟨by omega, by rw [Nat.sub_self]; exact H1⟩ ?_
 rintro k w1 ⟨hk, HL⟩
 dsimp only [List.cons_append, List.nil_append]
 refine aP (bP O (aV (lK O O) (jh O (fun h1 => ?_) (fun h1 => ?_))))
 ·(try simp only [Z] at h1)
  refine fZ (aP (aY (aP ?_)))
  obtain ⟨m, rfl⟩ : ∃ m, k = m + 1 := ⟨k - 1, by omega⟩
  rw [show (((m + 1 : Nat) : Int) - 1) = (m : Int) from by omega]
  refine aC (jJ O O (fG aU O (HL).get.2 O (bQ O ?_)))
  obtain ⟨bv, ov, cv, ev⟩ := Rd.pW ((HL.f2).uo) (by omega)
  cases ev
  refine aV (dI aU dW O O (by omega)) (aV (qI (ys := [_, _, _]) ((HL.f2).uo) (by omega) dA O dW O (rQ dQ.CS (by omega) default) O) (jr (Kw O O (hy (es.length - (m + 1)) (by omega) _ _ ⟨by rw [show es.length - (es.length - (m + 1) + 1) = m from by omega]; rfl, O⟩ (AQ (.slice (some ⟨bv, ov, none⟩) es.length c) es • dK b (.cells #[.slice (some ⟨bv, ov, none⟩) es.length c] 80 (0, 0))) _ (HL.swap.Ky.of_eq (by ac_rfl))).bool) ?_))
  rintro _ w2 ⟨t, rfl, ht1, ht2⟩
  refine aV (lY O) (jh O (fun h2 => ?_) (fun h2 => ?_))
  ·(try simp only [Z] at h2)
   have HX := ht2 (by simpa using h2)
   refine mD (aT (aF (aF (aT (we0 results210 ?_)))))
   exact .inr (HX.of_eq (by ac_rfl))
  ·(try simp only [Z] at h2)
   have HN : V w0 w2 (dK b (.cells #[.slice (some ⟨bv, ov, none⟩) es.length c] 80 (0, 0)) • AQ (.slice (some ⟨bv, ov, none⟩) es.length c) es • J (es.length - m)) := by
    have h9 := ht1 (by simpa using h2)
    rw [show es.length - (m + 1) + 1 = es.length - m from by omega] at h9
    exact h9.of_eq (by ac_rfl)
   refine bY (aJ (aX (aC (bQ O (aV (kX O O (by omega)) (fU O (bM ?_)))))))
   refine dL (m) ?_ ?_ ?_ ?_
   ·exact lI
   ·exact qB
   ·(try dsimp only)
    first | done | exact ⟨by omega, HN.f2.f2⟩
   ·(try dsimp only); omega
 ·(try simp only [Z] at h1)
  refine dB (aI (aI (aZ (lg (.inr O) results210 ?_))))
  obtain rfl : k = 0 := by omega
  rw [Nat.sub_zero] at HL
  exact .inl (HL.of_eq (by ac_rfl))
end
def Gg (e : iR) : iR := (e.1, e.2.2, e.2.1)
def UU (c : Nat) (es : List dQ) (k : Nat) : HP := rH fun (x : Value × List dQ) => fact (x.2.map dQ.says = ((es.map dQ.says).reverse.take k).map Gg) • dK c (.cells #[x.1] 80 (0, 0)) • Jp x.1 x.2
theorem UW {es : List dQ} {k : Nat} (hk : k < es.length) : ((es.map dQ.says).reverse.take (k + 1)).map Gg = ((es.map dQ.says).reverse.take k).map Gg ++ [Gg (es.getD (es.length - (k + 1)) default).says] := by
  rw [List.take_succ_eq_append_getElem (by simpa using hk), List.map_append]
  congr 1
  simp only [List.map_cons, List.map_nil, List.getElem_reverse, List.getElem_map, List.length_map]
  rw [List.getD_eq_getElem?_getD, List.getElem?_eq_getElem (by omega)]
  have e : es.length - 1 - k = es.length - (k + 1) := by omega
  simp only [Option.getD_some, e]
section
variable {w0 w : World} {F : HP} {p : Nat} {G : List (List iR)} {N : List iR} {op : Int} {gv nv v : Value} {gs : List (Value × List dQ)} {now es : List dQ} {a : Int} {d z : Value} {dl il : List Int}
theorem V.MF {c k : Nat} (H : V w0 w (UU c es k • F)) : ∃ u fs, fs.map dQ.says = ((es.map dQ.says).reverse.take k).map Gg ∧ fs.length ≤ es.length ∧ V w0 w (dK c (.cells #[u] 80 (0, 0)) • Row 189 3 u fs.length (fs.flatMap dQ.enc) • kE fs • F) := by
  obtain ⟨⟨u, fs⟩, H⟩ := H.lJ
  obtain ⟨h, H⟩ := H.flat.fact
  refine ⟨u, fs, h, ?_, ?_⟩
  · have := congrArg List.length h
    simp at this
    omega
  · have := H.flat
    unfold Jp at this
    exact this.of_eq (by ac_rfl)
theorem V.UY {c k : Nat} {u : Value} {fs : List dQ} (h : fs.map dQ.says = ((es.map dQ.says).reverse.take k).map Gg) (H : V w0 w (dK c (.cells #[u] 80 (0, 0)) • Jp u fs • F)) : V w0 w (UU c es k • F) :=
  V.iy (u, fs) (V.deep (V.jY h H.deep))
theorem V.ZU (H : V w0 w (AQ v es • F)) {k : Nat} (hk : k < es.length) : V w0 w (mO .i32 (es.getD k default).d (es.getD k default).dl • mO .i32 (es.getD k default).i (es.getD k default).il • AQ v es • F) := by
  have h1 : V w0 w (mO .i32 (es.getD k default).d (es.getD k default).dl • AQ v es • AQ v es • F) := H.Ky.Ky.DC (oz (fun I h => (h.2 k hk).1) _)
  have h2 : V w0 w (mO .i32 (es.getD k default).i (es.getD k default).il • mO .i32 (es.getD k default).d (es.getD k default).dl • AQ v es • F) := h1.swap.DC (oz (fun I h => (h.2 k hk).2) _)
  exact h2.swap
theorem Sz (H : V w0 w F) (hv : v.oneCell' = true) : gI prog 197 #[v] w fun v' w' => ∃ b, v' = .func (.func 210) #[] #[.pointer (some ⟨b, 0, none⟩)] ∧ V w0 w' (dK b (.cells #[v] 80 (0, 0)) • F) := by
  refine gG func197 ntmps197 ?_
  refine iE (jr (iD (l := [_]) H O (by first | rfl | exact Af (by first | rfl | assumption))) ?_)
  rintro _ w1 ⟨b1, rfl, H1⟩
  refine gJ O (iE (aV (vN O O) (eY O (dG results197 O ?_))))
  exact ⟨_, O, H1⟩
theorem CW (H : V w0 w (AQ v es • F)) (hB : ∀ k, k < es.length → EB (es.getD k default).says) (hL : es.length ≤ 16384) :
  gI prog 178 #[v] w fun v' w' => ∃ fs : List dQ, fs.map dQ.says = (es.map dQ.says).reverse.map Gg ∧ V w0 w' (Row 189 3 v' fs.length (fs.flatMap dQ.enc) • kE fs • AQ v es • F) := by
 refine gG func178 ntmps178 ?_
 refine jg O (iE (jr (fH (l := [_]) H lq O) ?_))
 rintro _ w1 ⟨b1, rfl, H1⟩
 refine pJ (bP O (dS O func197 (Sz H1 (Rd.one ((H1.f2).uo))) ?_))
 rintro _ w2 ⟨bB2, rfl, H2⟩
 refine iJ (aY ?_)
 have SA := H2.f2
 have QJ := V.UY (es := es) (k := 0) (fs := []) rfl (SA.qY none).swap
 refine yN O (Sv bB2) (fun k => UU b1 es k • F) (fact False) (fun _ => fact False) (QJ.f3.f3.f3.f3.f3.g2.comm) (by rfl) ?_ ?_ ?_ ?_
 ·rintro l5 k ZV vs5 A5 ⟨rfl, rfl⟩ G5 w5 H5
  try simp only [bW, nG, uK] at H5
  refine ⟨O, ?_⟩
  dsimp only [Ph]
  have Hq := (H5).ZU (k := es.length - (k + 1)) (by omega)
  obtain ⟨hb1, hb2⟩ := hB (es.length - (k + 1)) (by omega)
  have hb1 : (es.getD (es.length - (k + 1)) default).dl.length ≤ 35184372087808 := hb1
  have hb2 : (es.getD (es.length - (k + 1)) default).il.length ≤ 35184372087808 := hb2
  obtain ⟨u, fs, hfs, hfl, HI⟩ := (Hq.f4).MF
  refine aC (jr (fH (l := [_, _, _]) HI gZ O) ?_)
  rintro _ w6 ⟨b6, rfl, H6⟩
  refine aH (bU 0 (l' := [_, _, _]) (us := [_, _, _]) H6 dW O O O (ay (aW (by first | rfl | exact Rd.one ((H6.f5).jy)) (aW (by first | rfl | exact Rd.one ((H6.f6).jy)) bF))) O O) ?_
  rintro _ w7 H7
  refine bM ?_
  refine Pg (H7.g8) ?_
  intro G8 w8 H8
  try simp only [bW] at H8
  refine aY ?_
  have abH := H8.drew
  have UZ := V.kp (abH.f7.f7.f7.f7.f7.f7.f7)
  refine yC [0, 1] UZ O (jS 0 O UZ (fun W hW => jX aU O ((Kp.h hW).f2).get.2 O) (jS 1 O UZ (fun W hW => eU dA O dW O O ((Kp.h hW)).get.2) (og 2 O (yF O func198 (DT abH (fun W HW => (HW.f5).jy) (fun W HW => (HW.f6).jy) (by omega) (by omega))) ?_)))
  rintro _ w9 ⟨d9, s9, rfl, H9⟩
  have O8 := V.kp (H9.f9.f9.f9.f9.f9.f9.f9.f9.f9)
  refine dU O8 (fun W hW => (Kp.h hW).right.right.f7.f7.f7.f7.f7.f7.f7) ?_
  refine og 3 O (uZ H9 aU dW gZ O O O (by decide) (by decide)) ?_
  rintro l10 w10 pV
  have U0 := V.kp (pV.f10.f10.f10.f10.f10.f10.f10.f10.f10.f10)
  refine dU U0 (fun W hW => (Kp.h hW).right.f9.f9.f9.f9.f9.f9.f9.f9.f9) ?_
  refine og 4 O (fQ pV.f6 aU zI O O O ((pV).aS) (ay (aW (by first | rfl | exact Rd.one ((pV.f2).aS)) (aW (by first | rfl | exact Rd.one ((pV.f3).aS)) bF))) (by omega) (by omega)) ?_
  rintro l11 DU qo
  have Iq := qo.f2.right
  have F8 := V.kp (Iq.f9.f9.f9.f9.f9.f9.f9.f9.f9)
  refine gW F8 (by kernel_rfl) ?_
  refine fM 5 O (by kernel_rfl) (eX 0 (l' := [_]) Iq.f5 bH O O (by first | rfl | exact Rd.one ((Iq).aS)) O O) ?_
  rintro _ Oz uS
  have uG := V.kp (uS.f9.f9.f9.f9.f9.f9.f9.f9.f9)
  refine gW uG (by kernel_rfl) ?_
  refine qR (aJ ?_)
  refine F9 ?_
  have X := (uS.f5.right.f6.right.f6.right.f6.right.f6.f2.f6.f4.f6.f6).oI.swap.oI.swap
  have X2 := V.CU X.f3
  exact (V.UY (es := es) (k := k + 1) (by rw [List.map_append, hfs, UW (by omega)]; rfl) X2.swap).deep
 ·rintro D14 RV Ag
  have U1 := Ag.ed
  try simp only [bW, nG, uK] at U1
  have ZW := U1.Qx
  obtain ⟨u, fs, hfs, hfl, HI⟩ := (ZW.f4).MF
  refine aJ (aX (iE (fG aU O (HI).get.2 O (eY O ?_))))
  refine EW (.inl O) (HI.f4) (fun Sr yM => ?_)
  refine ⟨_, Zz results178 O, ?_⟩
  rw [List.take_of_length_le (by simp)] at hfs
  exact ⟨_, hfs, yM.right.f3.right.f3.f3.f3⟩
 ·rintro D w H; exact absurd H.swap.fact.1 id
 ·rintro id D w H; exact absurd H.swap.fact.1 fun h => h
end
def U2 (G : List (List iR)) (N : List iR) : Int := if G.length + N.length = 0 then 6 else 0
def QK (G : List (List iR)) (N : List iR) : List (List iR) := if G.length + N.length = 0 then G else (mF G N).dropLast
def QL (G : List (List iR)) (N : List iR) : List iR := if G.length + N.length = 0 then N else []
def QM (G : List (List iR)) (N : List iR) (op : Int) : Int := if G.length + N.length = 0 then op else 0
def Y2 (G : List (List iR)) (N : List iR) : List iR := if G.length + N.length = 0 then [] else ((mF G N).getLastD []).reverse.map Gg
theorem Jq {G : List (List iR)} {g N : List iR} : iG (G ++ [g]) N = iG G N + g.length := by simp [iG]; omega
section
variable {w0 w : World} {F : HP} {p : Nat} {G : List (List iR)} {N : List iR} {op : Int} {gv nv v : Value} {gs : List (Value × List dQ)} {now es : List dQ} {a : Int} {d z : Value} {dl il : List Int}
theorem Pn (h : ¬ G.length + N.length = 0) : mF G N ≠ [] := by
  unfold mF; split
  · rename_i hN; rintro rfl; subst hN; exact h rfl
  · simp
theorem V.Po (H : V w0 w (iQ p G [] op • F)) (hG : G ≠ []) : ∃ gv nv hs gl wI, G = hs.map (fun g => g.2.map dQ.says) ++ [wI.map dQ.says] ∧ XO G [] op ∧ G.length = hs.length + 1 ∧ hs.length ≤ 16384 ∧ wI.length ≤ 16384 ∧ (∀ k, k < wI.length → EB (wI.getD k default).says) ∧
    V w0 w (dK p (.cells #[gv, nv, .int .i64 op, .int .i64 (iG G [] : Nat), .bool true] 235 (0, 0)) • Row 80 1 gv (hs.length + 1) (hs.map (·.1) ++ [gl]) • nJ hs • AQ gl wI • Jp nv [] • F) := by
  obtain ⟨gv, nv, gs, now, h1, h2, h3, h4, h5, h6, H⟩ := H.xZ
  obtain rfl : now = [] := List.eq_nil_of_length_eq_zero (by simpa using h5)
  rcases List.eq_nil_or_concat gs with rfl | ⟨hs, ⟨gl, wI⟩, rfl⟩
  · exact absurd h2.symm hG
  · have hG2 : G = hs.map (fun g => g.2.map dQ.says) ++ [wI.map dQ.says] := by rw [← h2]; simp
    have hle : wI.length ≤ 16384 := by
      have := h1.2.1
      rw [hG2, Jq] at this
      simp at this
      omega
    refine ⟨gv, nv, hs, gl, wI, hG2, h1, ?_, ?_, hle, fun k hk => ?_, ?_⟩
    · rw [hG2]; simp
    · rw [hG2] at h6; simp at h6; omega
    · refine h1.2.2.2.2.1 (wI.map dQ.says) (by rw [hG2]; simp) _ ?_
      rw [List.getD_eq_getElem?_getD, List.getElem?_eq_getElem hk]
      exact List.mem_map_of_mem (List.getElem_mem hk)
    · rw [List.concat_eq_append, List.length_append, List.map_append] at H
      have H1 := (H.f3.L8 (k := hs.length) (by simp)).swap
      rw [show (hs ++ [(gl, wI)]).getD hs.length default = (gl, wI) from by simp [List.getD_eq_getElem?_getD]] at H1
      have H2 := H1.L9 hs.length
      rw [List.take_left' rfl] at H2
      exact H2.of_eq (by unfold Jp; ac_rfl)
theorem AU (H : V w0 w (iQ p G N op • F)) : gI prog 136 #[.pointer (some ⟨p, 0, none⟩)] w fun v w' => ∃ u, ∃ fs : List dQ, v = .tuple #[u, .int .i64 (U2 G N)] ∧ fs.map dQ.says = Y2 G N ∧
  V w0 w' (Row 189 3 u fs.length (fs.flatMap dQ.enc) • kE fs • iQ p (QK G N) (QL G N) (QM G N op) • F) := by
 unfold U2 Y2 QK QL QM
 refine gG func136 ntmps136 ?_
 refine iE (fU O (vk O (bP O (dS O func158 (mW H) ?_))))
 rintro _ _ ⟨rfl, rfl⟩
 refine iJ (qy (fZ (aP (aP ?_))))
 obtain ⟨Az, yK, nM, mP, kZ, uQ, rU, FZ, F5, Md, qC⟩ := (H).xZ
 have AA := qC.drew
 have gX := V.kp (AA.f5.f5.f5.f5.f5)
 refine yC [4, 10] gX O (jG 0 O gX O (kD 1 O gX O (gV 2 O gX 0 bn O cZ O (gV 3 O gX 0 bG O eH O (jS 4 O gX (fun W hW => jX bf O ((Kp.h hW)).get.2 O) (jB 5 O gX (fun _ => jw ((AA.f2).aS) bf O) (jG 6 O gX O (kD 7 O gX O (gV 8 O gX 0 bn O cZ O (gV 9 O gX 1 bG O bH O (jS 10 O gX (fun W hW => jX aU O ((Kp.h hW)).get.2 O) (jB 11 O gX (fun _ => jw ((AA.f4).aS) aU O) (jB 12 O gX (fun _ => gy O O (by omega)) (jB 13 O gX (fun _ => dV O O) (qR (aX (bJ O (fun h1 => ?_) (fun h1 => ?_))))))))))))))))))
 ·(try simp only [Z] at h1)
  have hGN : G.length + N.length = 0 := by omega
  have O4 := AA.f5.f5.f5.f5.f5
  have Oy := V.nK kZ uQ rU rfl O4
  refine iE (fU O (eY O (aF (Jl results136 O O ?_))))
  simp only [if_pos hGN]
  exact ⟨_, [], O, O, ((Oy).qY none).ZP⟩
 ·(try simp only [Z] at h1)
  have hGN : ¬ G.length + N.length = 0 := by omega
  have U3 := AA.f5.f5.f5.f5.f5
  have U4 := V.nK kZ uQ rU rfl U3
  refine fZ (bP O (dS O func177 (zJ U4) ?_))
  rintro _ w9 H9
  refine pJ ?_
  obtain ⟨gv, nv, hs, gl, wI, hG, hok, hl1, hl2, hl3, hEB, HU⟩ := (H9).Po (Pn hGN)
  have htot := hok.2.1
  refine aC (nD O O (bD 0 bn O cZ O (bD 0 bG O eH O (fG bf O (HU).get.2 O (aV (jw ((HU.f2).aS) bf O) (aV (kX O O (by omega)) (gJ O (bP O (dJ O (bD 0 bn O cZ O (bD 0 bG O eH O (fG bf O (HU).get.2 O (bQ O ?_)))))))))))))
  obtain ⟨bgv, ogv, cgv, egv⟩ := Rd.pW ((HU.f2).aS) (by omega)
  cases egv
  refine aV (dI bf bH O O (by omega)) ?_
  refine aV (fA (dn aU O) O (by first | exact Rd.lW ((HU.f2).aS) (by omega) | exact Rd.wK ((HU.f2).aS) (by omega) | exact Rd.wH ((HU.f2).aS) (by omega))) ?_
  rw [show (hs.map (·.1) ++ [gl]).getD ((((hs.length + 1 : Nat)) : Int) - 1).toNat undef = gl from by rw [show ((((hs.length + 1 : Nat)) : Int) - 1).toNat = hs.length from by omega]; simp [List.getD_eq_getElem?_getD]]
  refine gJ O (bP O (nD O O (bD 0 bn O cZ O (bD 0 bG O eH O (fG bf O (HU).get.2 O (bQ O (aV (xX ((HU.f2).aS) bf bH O O O (by omega)) ?_)))))))
  refine dJ O (bD 0 bn O cZ O (bD 0 bG O eH O (aH (eX 0 (l' := [_, _, _, _, _]) HU eH O O (by first | rfl | exact Rd.one (Rd.abA ((HU.f2).aS) (by omega))) O O) ?_)))
  rintro _ w10 pV
  refine qH O (dJ O (bD 0 bn O cZ O (bD 3 bG O aj O (fG aK O (pV).get.2 O (bQ O (aV (jw ((pV.f4).uo) aU O) (aV (kX O O (by omega)) (dJ O (bD 0 bn O cZ O (bD 3 bG O aj O (aH (XA 3 pV aj) ?_)))))))))))
  rintro _ DU qo
  refine qH O (dS O func178 (CW qo.f4 hEB hl3) ?_)
  rintro u12 w12 ⟨U5, Y3, um⟩
  refine fU O (eY O (Jl results136 O O ?_))
  simp only [if_neg hGN]
  have hdl : (mF G N).dropLast = hs.map (fun g => g.2.map dQ.says) := by rw [hG]; simp
  have hlast : (mF G N).getLastD [] = wI.map dQ.says := by rw [hG]; simp
  have hX := (um.f3.right.f6.f6.f5.f5.f5.f6).Un (h := hs.length) (by omega)
  rw [hdl, hlast]
  rw [Nat.mul_one, List.take_left' (by simp), show (((hs.length + 1 : Nat) : Int) - 1).toNat = hs.length from by omega, show Int.toNat 0 = 0 from rfl] at hX
  have hT : iG (mF G N) [] = iG (hs.map (fun g => g.2.map dQ.says)) [] + wI.length := by rw [hG, Jq, List.length_map]
  have hok2 : XO (hs.map (fun g => g.2.map dQ.says)) [] 0 := ⟨fun g hg => hok.1 g (by rw [hG]; exact List.mem_append_left _ hg), by omega, by decide, by decide, fun g hg => hok.2.2.2.2.1 g (by rw [hG]; exact List.mem_append_left _ hg), by simp⟩
  refine ⟨_, _, O, (by assumption), ?_⟩
  have hU := V.vV (gv := wJ 1 0 hs.length (.slice (some ⟨bgv, ogv, none⟩) (hs.length + 1) cgv)) (nv := nv) (gs := hs) (now := []) (ed := (iG (mF G N) [] : Nat) - (wI.length : Int)) (F := Row 189 3 u12 U5.length (U5.flatMap dQ.enc) • kE U5 • F) hok2 rfl rfl (by omega) (hX.of_eq (by unfold Bq; ac_rfl))
  exact hU.of_eq (by ac_rfl)
end
def zK (op : Int) : Int := if op = 0 then 1 else 0
def ZX (G : List (List iR)) (N : List iR) (op : Int) : List (List iR) := if op = 1 then mF G N else G
def ZY (N : List iR) (op : Int) : List iR := if op = 1 then [] else N
def XP (op : Int) : Int := if op = 0 then 0 else op - 1
theorem SB {es : List dQ} {k : Nat} (hk : k < es.length) : (es.take (k + 1)).map dQ.says = (es.take k).map dQ.says ++ [(es.getD k default).says] := by
  rw [List.take_succ_eq_append_getElem hk, List.map_append, List.getD_eq_getElem?_getD, List.getElem?_eq_getElem hk]
  rfl
section
variable {w0 w : World} {F : HP} {p : Nat} {G : List (List iR)} {N : List iR} {op : Int} {gv nv v : Value} {gs : List (Value × List dQ)} {now es : List dQ} {a : Int} {d z : Value} {dl il : List Int}
theorem yO (H : V w0 w (iQ p G N op • F)) : gI prog 139 #[.pointer (some ⟨p, 0, none⟩)] w fun v w' => v = .int .i64 (zK op) ∧ V w0 w' (iQ p (ZX G N op) (ZY N op) (XP op) • F) := by
 unfold zK ZX ZY XP
 refine gG func139 ntmps139 ?_
 refine jg O (aP (bP O (dS O func158 (mW H) ?_)))
 rintro _ _ ⟨rfl, rfl⟩
 refine iJ (qy (fZ (aP (aP ?_))))
 obtain ⟨Az, yK, nM, mP, kZ, uQ, rU, FZ, F5, Md, qC⟩ := (H).xZ
 have hop := kZ.2.2.1
 have hop2 := kZ.2.2.2.1
 refine aC (nD O O (bD 0 bn O cZ O (bD 2 bG O aj O (fG aK O (qC).get.2 O (aV (dV O O) (jh O (fun h1 => ?_) (fun h1 => ?_)))))))
 ·(try simp only [Z] at h1)
  have h0 : op = 0 := by omega
  refine jC O (aF (dG results139 O ?_))
  have O4 := qC.f5.f5.f5.f5.f5
  have Oy := V.nK kZ uQ rU rfl O4
  subst h0
  exact ⟨O, Oy⟩
 ·(try simp only [Z] at h1)
  have h0 : ¬ op = 0 := by omega
  refine fZ (aP (bP O (dJ O (bD 0 bn O cZ O (bD 2 bG O aj O (fG aK O (qC).get.2 O (aV (kX O O (by omega)) (dJ O (bD 0 bn O cZ O (bD 2 bG O aj O (aH (XA 2 qC aj) ?_)))))))))))
  rintro _ w6 H6
  refine qH O (dJ O (bD 0 bn O cZ O (bD 2 bG O aj O (fG aK O (H6).get.2 O (aV (dV O O) (jh O (fun h2 => ?_) (fun h2 => ?_)))))))
  ·(try simp only [Z] at h2)
   have h1 : op = 1 := by omega
   have U3 := H6.f5.f5.f5.f5.f5
   have U4 := V.nK (op := op - 1) ⟨kZ.1, kZ.2.1, by omega, by omega, kZ.2.2.2.2⟩ uQ rU rfl U3
   refine aC (bQ O (dS O func177 (zJ U4) ?_))
   rintro _ w9 H9
   refine iJ (jC O (dG results139 O ?_))
   subst h1
   exact ⟨O, H9⟩
  ·(try simp only [Z] at h2)
   have h1 : ¬ op = 1 := by omega
   refine fZ (jC O (dG results139 O ?_))
   rw [if_neg h0, if_neg h1, if_neg h1, if_neg h0]
   exact ⟨O, V.nK ⟨kZ.1, kZ.2.1, by omega, by omega, kZ.2.2.2.2⟩ uQ rU O H6.f5.f5.f5.f5.f5⟩
theorem Gh (H : V w0 w F) (hv : Ul w0 F 3 v es.length (es.flatMap dQ.enc)) (he : ∀ k, k < es.length → jZ w0 F .i32 (es.getD k default).d (es.getD k default).dl ∧ jZ w0 F .i32 (es.getD k default).i (es.getD k default).il)
  (hB : ∀ k, k < es.length → EB (es.getD k default).says) (hL : es.length ≤ 16384) :
  gI prog 173 #[v] w fun v' w' => ∃ fs : List dQ, fs.map dQ.says = es.map dQ.says ∧ V w0 w' (Row 189 3 v' fs.length (fs.flatMap dQ.enc) • kE fs • F) := by
 refine gG func173 ntmps173 ?_
 refine jg O (jg O (aP (bP O (aV (jw (hv _ (H)) aU O) (bQ O (iJ (aY ?_)))))))
 refine fF [(6, _), (7, _)] (fun (⟨k, u⟩ : Nat × Value) => [(3, u), (8, .int .i64 (k : Int))]) (fun (⟨k, u⟩ : Nat × Value) W => k ≤ es.length ∧ ∃ fs : List dQ, fs.map dQ.says = (es.take k).map dQ.says ∧ V w0 W (Row 189 3 u fs.length (fs.flatMap dQ.enc) • kE fs • F)) (fun (⟨k, u⟩ : Nat × Value) => es.length - k) ((0, .slice none 0 0)) qB qB ⟨by omega, [], O, (H.qY none).ZP⟩ ?_
 rintro ⟨k, u⟩ w1 ⟨hk, fs, hfs, HL⟩
 dsimp only [List.cons_append, List.nil_append]
 refine iE (aV (iL O O) (pJ (bJ O (fun h1 => ?_) (fun h1 => ?_))))
 ·(try simp only [Z] at h1)
  refine fZ (aP (aY (iE ?_)))
  obtain ⟨bv, ov, cv, ev⟩ := Rd.pW (hv _ (HL.right.right)) (by omega)
  cases ev
  refine aV (dI aU dW O O (by omega)) (aV (qI (ys := [_, _, _]) (hv _ (HL.right.right)) (by omega) dA O dW O (rQ dQ.CS (by omega) default) O) ?_)
  have hkl : k < es.length := by omega
  obtain ⟨f1, f2⟩ := he k hkl
  obtain ⟨hb1, hb2⟩ := hB k hkl
  have hb1 : (es.getD k default).dl.length ≤ 35184372087808 := hb1
  have hb2 : (es.getD k default).il.length ≤ 35184372087808 := hb2
  have hfl : fs.length = k := by have h9 := congrArg List.length hfs; simp at h9; omega
  refine jr (fH (l := [_, _, _]) HL gZ O) ?_
  rintro _ w2 ⟨b2, rfl, H2⟩
  refine aH (bU 0 (l' := [_, _, _]) (us := [_, _, _]) H2 dW O O O (ay (aW (by first | rfl | exact Rd.one (f1 _ (H2.right.right.right))) (aW (by first | rfl | exact Rd.one (f2 _ (H2.right.right.right))) bF))) O O) ?_
  rintro _ w3 H3
  refine iJ (aC (bQ O (aV (eU dA O dW O O (H3).get.2) (dS O func179 (uP H3 (fun W HW => f1 _ (HW.right.right.right)) (fun W HW => f2 _ (HW.right.right.right)) (by omega) (by omega)) ?_))))
  rintro _ w4 ⟨d4, s4, rfl, H4⟩
  refine jr (uZ H4 aU dW gZ O O O (by decide) (by decide)) ?_
  rintro l5 w5 H5
  refine jr (fQ H5.f5 aU zI O O O ((H5).aS) (ay (aW (by first | rfl | exact Rd.one ((H5.f2).aS)) (aW (by first | rfl | exact Rd.one ((H5.f3).aS)) bF))) (by omega) (by omega)) ?_
  rintro l6 w6 H6
  have Z4 := H6.f2.right
  refine fU O (bM (aJ (aX (aC (aV (gy O O (by omega)) (bQ O (bM ?_)))))))
  refine dL ((k + 1, l6)) ?_ ?_ ?_ ?_
  ·exact qB
  ·exact qB
  ·(try dsimp only)
   first | done | exact ⟨by omega, _, by rw [List.map_append, hfs, SB (by omega)]; rfl, (V.CU (Z4.f4.right.f4.f2.f4.f4).oI.swap.oI.swap.f3).ZP⟩
  ·(try dsimp only); omega
 ·(try simp only [Z] at h1)
  refine dB (aI (aI (aZ (aX (bP O (eY O (dG results173 O ?_)))))))
  rw [List.take_of_length_le (by omega)] at hfs
  exact ⟨_, hfs, HL.f2.f2⟩
theorem V.oJ {es : List dQ} (H : V w0 w (kE es • F)) {k : Nat} (hk : k < es.length) : fP w .i32 (es.getD k default).d (es.getD k default).dl ∧ fP w .i32 (es.getD k default).i (es.getD k default).il := let ⟨I, h, hI⟩ := H.ql; ⟨(h k hk).1.rd hI, (h k hk).2.rd hI⟩
theorem zL (H : V w0 w (Row 189 3 v es.length (es.flatMap dQ.enc) • kE es • F)) (hB : ∀ k, k < es.length → EB (es.getD k default).says) (hL : es.length ≤ 16384) :
    gI prog 173 #[v] w fun v' w' => ∃ fs : List dQ, fs.map dQ.says = es.map dQ.says ∧ V w0 w' (Row 189 3 v' fs.length (fs.flatMap dQ.enc) • kE fs • Row 189 3 v es.length (es.flatMap dQ.enc) • kE es • F) :=
  Gh H (fun W HW => HW.aS) (fun k hk => ⟨fun W HW => (HW.right.oJ hk).1, fun W HW => (HW.right.oJ hk).2⟩) hB hL
theorem xA (H : V w0 w (AQ v es • F)) (hB : ∀ k, k < es.length → EB (es.getD k default).says) (hL : es.length ≤ 16384) :
    gI prog 173 #[v] w fun v' w' => ∃ fs : List dQ, fs.map dQ.says = es.map dQ.says ∧ V w0 w' (Row 189 3 v' fs.length (fs.flatMap dQ.enc) • kE fs • AQ v es • F) :=
  Gh H (fun W HW => HW.uo) (fun k hk => ⟨fun W HW => HW.abB hk, fun W HW => HW.abC hk⟩) hB hL
end
end Go.Proofs.YtpdeedplgmbopaaGreatDoor
end
section
namespace Go.Proofs.YtpdeedplgmbopaaGreatDoor
open Go.RowKit
def aeL (G : List (List iR)) (N : List iR) : List iR := (mF G N).flatten.reverse.map Gg
section
variable {w0 w : World} {F : HP} {p : Nat} {G : List (List iR)} {N : List iR} {op : Int} {gv nv v u : Value} {gs : List (Value × List dQ)} {now es fs : List dQ} {a : Int} {d z : Value} {dl il : List Int}
theorem V.U6 (H : V w0 w (AQ v es • F)) : ∀ x ∈ es.flatMap dQ.enc, x.oneCell' = true :=
  V.zH (es := es) (w0 := w0) (w := w) (F := F) (H.DC (oz (fun I h => h.2) F))
theorem V.Fa (H : V w0 w (nJ gs • F)) {k : Nat} {gl : Value} {wI : List dQ} (hk : k < gs.length) (hg : gs.getD k default = (gl, wI)) : V w0 w (AQ gl wI • nJ gs • F) := by
  have := H.L8 hk
  rwa [hg] at this
end
end Go.Proofs.YtpdeedplgmbopaaGreatDoor
end
