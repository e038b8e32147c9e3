import Derived.Test.YtpdeedplgmbopaaGreatDoorZ4
import Derived.Test.YtpdeedplgmbopaaGreatDoorZ6
set_option linter.unusedSimpArgs false
set_option linter.unusedVariables false
/- Texts of mine, joined, their names in short: UList Range UList2 UList3 UList4 UList5 UList6. -/
section
namespace Go.Proofs.YtpdeedplgmbopaaGreatDoor
open Go.RowKit
open _root_.Go.Proofs.Tryz
abbrev iU := Int × List Int × List Int
def iH (G : List (List iU)) (N : List iU) : Nat := (G.map List.length).sum + N.length
def EB (e : iU) : Prop := e.2.1.length ≤ 35184372087808 ∧ e.2.2.length ≤ 35184372087808
theorem XO {N : List iU} {x : iU} (h : ∀ e ∈ N, EB e) (hx : EB x) : ∀ e ∈ N ++ [x], EB e := fun e he => by
  rcases List.mem_append.1 he with he | he
  · exact h e he
  · rw [List.mem_singleton.1 he]; exact hx
theorem MI {G : List (List iU)} {N : List iU} (h : ∀ g ∈ G, ∀ e ∈ g, EB e) (hx : ∀ e ∈ N, EB e) : ∀ g ∈ G ++ [N], ∀ e ∈ g, EB e := fun g hg => by
  rcases List.mem_append.1 hg with hg | hg
  · exact h g hg
  · rw [List.mem_singleton.1 hg]; exact hx
theorem QL {G : List (List iU)} {N : List iU} (h : ∀ g ∈ G, g ≠ []) (hx : N ≠ []) : ∀ g ∈ G ++ [N], g ≠ [] := fun g hg => by
  rcases List.mem_append.1 hg with hg | hg
  · exact h g hg
  · rw [List.mem_singleton.1 hg]; exact hx
def XP (G : List (List iU)) (N : List iU) (op : Int) : Prop := (∀ g ∈ G, g ≠ []) ∧ iH G N ≤ 16384 ∧ 0 ≤ op ∧ op ≤ 4611686018427387904 ∧ (∀ g ∈ G, ∀ e ∈ g, EB e) ∧ ∀ e ∈ N, EB e
theorem O8 {G : List (List iU)} (h : ∀ g ∈ G, g ≠ []) : G.length ≤ (G.map List.length).sum := by
  induction G with
  | nil => simp
  | cons g G ih =>
    have h1 := ih fun x hx => h x (by simp [hx])
    have h2 : 0 < g.length := List.length_pos_iff.2 (h g (by simp))
    simp; omega
theorem XP.len {G : List (List iU)} {N : List iU} {op : Int} (h : XP G N op) : G.length + N.length ≤ 16384 := by
  have := O8 h.1
  have := h.2.1
  unfold iH at this
  omega
def iQ (p : Nat) (G : List (List iU)) (N : List iU) (op : Int) : HP := rV fun (x : Value × Value × List (Value × List dV) × List dV) =>
  fact (XP G N op ∧ x.2.2.1.map (fun g => g.2.map dV.says) = G ∧ x.2.2.2.map dV.says = N) • dM p (.cells #[x.1, x.2.1, .int .i64 op, .int .i64 (iH G N : Nat), .bool true] 235 (0, 0)) • BL x.1 x.2.2.1 • Jv x.2.1 x.2.2.2
section
variable {w0 w : World} {F : HP} {p : Nat} {G : List (List iU)} {N : List iU} {op : Int} {gv nv : Value} {gs : List (Value × List dV)} {now : List dV} {a : Int} {d z : Value} {dl il : List Int}
theorem V.yw (H : V w0 w (iQ p G N op • F)) : ∃ gv nv gs now, XP G N op ∧ gs.map (fun g => g.2.map dV.says) = G ∧ now.map dV.says = N ∧ gs.length = G.length ∧ now.length = N.length ∧ G.length + N.length ≤ 16384 ∧
    V w0 w (dM p (.cells #[gv, nv, .int .i64 op, .int .i64 (iH G N : Nat), .bool true] 235 (0, 0)) • Row 80 1 gv gs.length (gs.map (·.1)) • nO gs • Row 189 3 nv now.length (now.flatMap dV.enc) • kK now • F) := by
  obtain ⟨⟨gv, nv, gs, now⟩, H⟩ := H.lQ
  obtain ⟨⟨h1, h2, h3⟩, H⟩ := H.flat.fact
  refine ⟨gv, nv, gs, now, h1, h2, h3, ?_, ?_, h1.len, ?_⟩
  · rw [← h2]; simp
  · rw [← h3]; simp
  · have := H.flat
    unfold BL Jv at this
    exact this.of_eq (by ac_rfl)
theorem V.wu (h1 : XP G N op) (h2 : gs.map (fun g => g.2.map dV.says) = G) (h3 : now.map dV.says = N) {ed : Int} (he : ed = (iH G N : Nat))
    (H : V w0 w (dM p (.cells #[gv, nv, .int .i64 op, .int .i64 ed, .bool true] 235 (0, 0)) • BL gv gs • Jv nv now • F)) : V w0 w (iQ p G N op • F) := by
  subst he
  exact V.iD (gv, nv, gs, now) (V.deep (V.kE ⟨h1, h2, h3⟩ (H.of_eq (by ac_rfl))))
theorem V.nP (h1 : XP G N op) (h2 : gs.map (fun g => g.2.map dV.says) = G) (h3 : now.map dV.says = N) {ed : Int} (he : ed = (iH G N : Nat))
    (H : V w0 w (dM p (.cells #[gv, nv, .int .i64 op, .int .i64 ed, .bool true] 235 (0, 0)) • Row 80 1 gv gs.length (gs.map (·.1)) • nO gs • Row 189 3 nv now.length (now.flatMap dV.enc) • kK now • F)) : V w0 w (iQ p G N op • F) :=
  V.wu h1 h2 h3 he (H.of_eq (by unfold BL Jv; ac_rfl))
theorem mY (H : V w0 w (iQ p G N op • F)) : gQ prog 158 #[.pointer (some ⟨p, 0, none⟩)] w fun v w' => v = .bool false ∧ w = w' := by
 refine iC func158 ntmps158 ?_
 refine jk O (aO ?_)
 obtain ⟨AY, yO, nR, mV, lD, uZ, sF, Gi, Gj, MJ, qH⟩ := (H).yw
 refine aB (bQ O (Z (iT underlying184 O O) (jL O (fun h1 => ?_) (fun h1 => ?_))))
 ·(try simp only [aF] at h1)
  exfalso; first | contradiction | omega
 ·(try simp only [aF] at h1)
  refine bC (bQ O (bC (dL O (bC (bF 4 bn O aQ O (bC (gq bM O (qH).get.2 O (bC (Z (lS O) (iJ O O (fF O (dG results158 O ?_))))))))))))
  exact ⟨O, O⟩
theorem KE (H : V w0 w F) : gQ prog 174 #[] w fun v w' => ∃ p, v = .pointer (some ⟨p, 0, none⟩) ∧ V w0 w' (iQ p [] [] 0 • F) := by
  refine OW func174 ntmps174 ?_
  refine jk O (iy (Z (pI (pl := #[(0, 4), (4, 1)]) (#[_, _, _, _, _]) bn zeroValue235 (fun w => by kernel_rfl) O (O)) (jy (iO (l := [_, _, _, _, _]) H O O) ?_)))
  rintro _ w1 ⟨b1, rfl, H1⟩
  refine fF O (dG results174 O ?_)
  refine ⟨_, O, V.wu (gv := .slice none 0 0) (nv := .slice none 0 0) (gs := []) (now := []) ⟨by simp, by decide, by decide, by decide, by simp, by simp⟩ O O O ?_⟩
  exact (((H1).rD none).Gh none).of_eq (by ac_rfl)
theorem KF (H : V w0 w (iQ p G N op • F)) : gQ prog 120 #[.pointer (some ⟨p, 0, none⟩)] w fun v w' => v = .int .i64 ((G.length : Int) + min 1 N.length) ∧ V w0 w' (iQ p G N op • F) := by
 refine iC func120 ntmps120 ?_
 refine jk O (aO (bT O (eG O func158 (mY H) ?_)))
 rintro _ _ ⟨rfl, rfl⟩
 refine iK (pW (fV (aO ?_)))
 obtain ⟨AY, yO, nR, mV, lD, uZ, sF, Gi, Gj, MJ, qH⟩ := (H).yw
 have AZ := qH.drew
 have gW := V.kp (AZ.f5.f5.f5.f5.f5)
 refine yj [4, 10] gW O (jE 0 O gW O (kJ 1 O gW O (gU 2 O gW 0 bn O dA O (gU 3 O gW 0 bI O fA O (jQ 4 O gW (fun W hW => kC bg O ((Kp.h hW)).get.2 O) (jC 5 O gW (fun _ => iW ((AZ.f2).aT) bg O) (jE 6 O gW O (kJ 7 O gW O (gU 8 O gW 0 bn O dA O (gU 9 O gW 1 bI O bJ O (jQ 10 O gW (fun W hW => kC aV O ((Kp.h hW)).get.2 O) (jC 11 O gW (fun _ => iW ((AZ.f4).aT) aV O) (jC 12 O gW (fun _ => zC O O) (jC 13 O gW (fun _ => fK O O (by omega)) (jC 14 O gW (fun _ => dQ O) (qR (aW (mG (dG results120 O ?_)))))))))))))))))))
 have O9 := AZ.f5.f5.f5.f5.f5
 have OB := V.nP lD uZ sF rfl O9
 exact ⟨by rw [Gi, Gj]; congr 1; omega, OB⟩
theorem wz (H : V w0 w (iQ p G N op • F)) (hb : op < 4611686018427387904) : gQ prog 137 #[.pointer (some ⟨p, 0, none⟩)] w fun v w' => v = .int .i64 0 ∧ V w0 w' (iQ p G N (op + 1) • F) := by
 have hop : 0 ≤ op := by obtain ⟨gv, nv, gs, now, k1, _⟩ := H.yw; exact k1.2.2.1
 refine iC func137 ntmps137 ?_
 refine jk O (aO (bT O (eG O func158 (mY H) ?_)))
 rintro _ _ ⟨rfl, rfl⟩
 refine iK (pW (fV (aO ?_)))
 obtain ⟨AY, yO, nR, mV, lD, uZ, sF, Gi, Gj, MJ, qH⟩ := (H).yw
 refine aB (nG O O (bF 0 bn O dA O (bF 2 bI O aj O (gq aN O (qH).get.2 O (Z (fK O O (by omega)) (dL O (bF 0 bn O dA O (bF 2 bI O aj O (aK (XC 2 qH aj) ?_)))))))))
 rintro _ w3 H3
 refine iK (jd O (dG results137 O ?_))
 exact ⟨O, V.nP ⟨lD.1, lD.2.1, by omega, by omega, lD.2.2.2.2⟩ uZ sF O H3.f5.f5.f5.f5.f5⟩
def uI (G : List (List iU)) (N : List iU) (a : Int) (dl il : List Int) : Int := if dl.length + il.length = 0 ∨ a < 0 then 1 else if 16384 ≤ iH G N then 3 else 0
def Pe (G : List (List iU)) (N : List iU) (op a : Int) (dl il : List Int) : List (List iU) := if uI G N a dl il = 0 then (if 0 < op then G else G ++ [[(a, dl, il)]]) else G
def Pg (G : List (List iU)) (N : List iU) (op a : Int) (dl il : List Int) : List iU := if uI G N a dl il = 0 then (if 0 < op then N ++ [(a, dl, il)] else N) else N
theorem QM {x : iU} : iH G (N ++ [x]) = iH G N + 1 := by simp [iH]; omega
theorem MK {x : iU} : iH (G ++ [[x]]) N = iH G N + 1 := by simp [iH]; omega
theorem Gl (h : uI G N a dl il ≠ 0) : Pe G N op a dl il = G := by unfold Pe; rw [if_neg h]
theorem Gm (h : uI G N a dl il ≠ 0) : Pg G N op a dl il = N := by unfold Pg; rw [if_neg h]
theorem Fq (h : uI G N a dl il = 0) (ho : 0 < op) : Pe G N op a dl il = G := by unfold Pe; rw [if_pos h, if_pos ho]
theorem Fv (h : uI G N a dl il = 0) (ho : 0 < op) : Pg G N op a dl il = N ++ [(a, dl, il)] := by unfold Pg; rw [if_pos h, if_pos ho]
theorem UN (h : uI G N a dl il = 0) (ho : ¬ 0 < op) : Pe G N op a dl il = G ++ [[(a, dl, il)]] := by unfold Pe; rw [if_pos h, if_neg ho]
theorem UO (h : uI G N a dl il = 0) (ho : ¬ 0 < op) : Pg G N op a dl il = N := by unfold Pg; rw [if_pos h, if_neg ho]
theorem yP (H : V w0 w (iQ p G N op • F)) (hd : jM w0 F .i32 d dl) (hi : jM w0 F .i32 z il) (b2 : dl.length ≤ 35184372087808) (b3 : il.length ≤ 35184372087808) :
  gQ prog 138 #[.pointer (some ⟨p, 0, none⟩), edV a d z] w fun v w' => v = .int .i64 (uI G N a dl il) ∧ V w0 w' (iQ p (Pe G N op a dl il) (Pg G N op a dl il) op • F) := by
 refine nH func138 ntmps138 ?_
 refine iy (jy (iO (l := [_, _, _]) H O O) ?_)
 rintro _ w1 ⟨b1, rfl, H1⟩
 refine vZ O (bT O (eG O func158 (mY H1.f2) ?_))
 rintro _ _ ⟨rfl, rfl⟩
 refine iK (pW (fV (aO (iy (bF 1 dF O dN O (gq ay O (H1).get.2 O (Z (iF (hd _ (H1.right.right)) ay O) (bF 2 dF O dN O (gq ay O (H1).get.2 O (Z (iF (hi _ (H1.right.right)) ay O) (Z (fK O O (by omega)) (Z (dO O O) (jL O (fun h1 => ?_) (fun h1 => ?_))))))))))))))
 ·(try simp only [aF] at h1)
  refine bH (bH (bH (jw O O (iK (Iz (jd O (aG (dG results138 O ?_))))))))
  have e : uI G N a dl il = 1 := by unfold uI; rw [if_pos (by omega)]
  rw [Gl (by rw [e]; decide), Gm (by rw [e]; decide), e]
  exact ⟨O, H1.right⟩
 ·(try simp only [aF] at h1)
  refine bC (bF 0 dF O aj O (bC (gq aN O (H1).get.2 O (bC (Z (gZ O O) (iJ O O (iV O (fun h2 => ?_) (fun h2 => ?_))))))))
  ·(try simp only [aF] at h2)
   refine jd O (aG (dG results138 O ?_))
   have e : uI G N a dl il = 1 := by unfold uI; rw [if_pos (by omega)]
   rw [Gl (by rw [e]; decide), Gm (by rw [e]; decide), e]
   exact ⟨O, H1.right⟩
  ·(try simp only [aF] at h2)
   refine fV (aO (aO ?_))
   obtain ⟨AY, yO, nR, mV, lD, uZ, sF, Gi, Gj, MJ, qH⟩ := (H1.f2).yw
   refine aB (nG O O (bF 0 bn O dA O (bF 3 bI O aj O (gq aN O (qH).get.2 O (Z (lJ O O) (iV O (fun h3 => ?_) (fun h3 => ?_)))))))
   ·(try simp only [aF] at h3)
    refine jd O (aG (dG results138 O ?_))
    have e : uI G N a dl il = 3 := by unfold uI; rw [if_neg (by omega), if_pos (by omega)]
    have ZP := qH.f5.f5.f5.f5.f5
    have ZQ := V.nP lD uZ sF rfl ZP
    rw [Gl (by rw [e]; decide), Gm (by rw [e]; decide), e]
    exact ⟨O, ZQ.f2.right⟩
   ·(try simp only [aF] at h3)
    refine fV (bT O (dL O (bF 0 bn O dA O (bF 3 bI O aj O (gq aN O (qH).get.2 O (Z (fK O O (by omega)) (dL O (bF 0 bn O dA O (bF 3 bI O aj O (aK (XC 3 qH aj) ?_))))))))))
    rintro _ w7 H7
    refine pJ (bT O (dL O (bF 0 bn O dA O (bF 2 bI O aj O (gq aN O (H7).get.2 O (Z (jc O O) (iV O (fun h4 => ?_) (fun h4 => ?_))))))))
    ·(try simp only [aF] at h4)
     have abB := H7.drew
     have EF := V.kp (abB.f6.f6.f6.f6.f6.f6)
     refine yj [5, 6] EF O (jE 0 O EF O (jE 1 O EF O (kJ 2 O EF O (gU 3 O EF 0 bn O dA O (gU 4 O EF 1 bI O bJ O (jQ 5 O EF (fun W hW => kC aV O ((Kp.h hW)).get.2 O) (jQ 6 O EF (fun W hW => fD dF O dY O O ((Kp.h hW).f6).get.2) (oC 7 O (yJ O func179 (uY abB (fun W HW => hd _ (HW.right.right.right.right.right.right)) (fun W HW => hi _ (HW.right.right.right.right.right.right)) (by omega) (by omega))) ?_))))))))
     rintro _ w8 ⟨d8, s8, rfl, H8⟩
     have Ph := V.kp (H8.f8.f8.f8.f8.f8.f8.f8.f8)
     refine dX Ph (fun W hW => (Kp.h hW).right.right.f6.f6.f6.f6.f6.f6) ?_
     refine oC 8 O (vH H8 aV dY ig O O O (by decide) (by decide)) ?_
     rintro l9 w9 H9
     have Pj := V.kp (H9.f9.f9.f9.f9.f9.f9.f9.f9.f9)
     refine dX Pj (fun W hW => (Kp.h hW).right.f8.f8.f8.f8.f8.f8.f8.f8) ?_
     refine oC 9 O (fZ H9.f7 aV zO O O O ((H9).aT) (aA (aX (by first | rfl | exact Rd.one ((H9.f2).aT)) (aX (by first | rfl | exact Rd.one ((H9.f3).aT)) bD))) (by omega) (by omega)) ?_
     rintro l10 w10 ql
     have Pm := ql.f2.right
     have zh := V.kp (Pm.f8.f8.f8.f8.f8.f8.f8.f8)
     refine gV zh (by kernel_rfl) ?_
     refine kJ 10 O zh O (gU 11 O zh 0 bn O dA O (gU 12 O zh 1 bI O bJ O ?_))
     refine fQ 13 O (by kernel_rfl) (fE 1 (l' := [_, _, _, _, _]) Pm.f4 bJ O O (by first | rfl | exact Rd.one ((Pm).aT)) O O) ?_
     rintro _ w12 uG
     have Gn := V.kp (uG.f8.f8.f8.f8.f8.f8.f8.f8)
     refine gV Gn (by kernel_rfl) ?_
     have hadd : 0 < op := by omega
     refine qR (aW (jd O (dG results138 O ?_)))
     have e : uI G N a dl il = 0 := by unfold uI; rw [if_neg (by omega), if_neg (by omega)]
     rw [Fq e hadd, Fv e hadd, e]
     have X := (uG.f8.right.f6.f6.f3.f7.f5.f7.f7).oL.swap.oL.swap
     have X2 := V.Df X.f3
     refine ⟨O, V.wu (gv := AY) (nv := l10) (gs := nR) (now := mV ++ [⟨a, d8, dl, s8, il⟩]) (ed := (iH G N : Nat) + 1) ⟨lD.1, by rw [QM]; omega, lD.2.2.1, lD.2.2.2.1, lD.2.2.2.2.1, XO lD.2.2.2.2.2 ⟨b2, b3⟩⟩ uZ (by rw [List.map_append, sF]; rfl) (by rw [QM]; rfl) (X2.of_eq (by unfold BL; ac_rfl))⟩
    ·(try simp only [aF] at h4)
     have UQ := H7.drew
     have wY := V.kp (UQ.f6.f6.f6.f6.f6.f6)
     refine yj [5, 6] wY O (jE 0 O wY O (jE 1 O wY O (kJ 2 O wY O (gU 3 O wY 0 bn O dA O (gU 4 O wY 0 bI O fA O (jQ 5 O wY (fun W hW => kC bg O ((Kp.h hW)).get.2 O) (jQ 6 O wY (fun W hW => fD dF O dY O O ((Kp.h hW).f6).get.2) (oC 7 O (yJ O func179 (uY UQ (fun W HW => hd _ (HW.right.right.right.right.right.right)) (fun W HW => hi _ (HW.right.right.right.right.right.right)) (by omega) (by omega))) ?_))))))))
     rintro _ Pn ⟨d13, s13, rfl, wZ⟩
     have uP := V.kp (wZ.f8.f8.f8.f8.f8.f8.f8.f8)
     refine dX uP (fun W hW => (Kp.h hW).right.right.f6.f6.f6.f6.f6.f6) ?_
     refine oC 8 O (vH wZ aV dY ig O O O (by decide) (by decide)) ?_
     rintro l14 Si Aw
     have Dh := V.kp (Aw.f9.f9.f9.f9.f9.f9.f9.f9.f9)
     refine dX Dh (fun W hW => (Kp.h hW).right.f8.f8.f8.f8.f8.f8.f8.f8) ?_
     refine oC 9 O (jH (vs := [_]) Aw bg bJ lG O O O (by decide) (aX (by first | rfl | exact Rd.one ((Aw).aT)) bD)) ?_
     rintro l15 SA yQ
     have uQ := V.kp (yQ.f10.f10.f10.f10.f10.f10.f10.f10.f10.f10)
     refine dX uQ (fun W hW => (Kp.h hW).right.f9.f9.f9.f9.f9.f9.f9.f9.f9) ?_
     refine oC 10 O (fZ yQ.f6 bg EG O O O ((yQ).aT) (aX (by first | rfl | exact Rd.one ((yQ.f2).aT)) bD) (by omega) (by omega)) ?_
     rintro l16 w16 yL
     have Po := yL.f2.right
     have EH := V.kp (Po.f9.f9.f9.f9.f9.f9.f9.f9.f9)
     refine gV EH (by kernel_rfl) ?_
     refine kJ 11 O EH O (gU 12 O EH 0 bn O dA O (gU 13 O EH 0 bI O fA O ?_))
     refine fQ 14 O (by kernel_rfl) (fE 0 (l' := [_, _, _, _, _]) Po.f5 fA O O (by first | rfl | exact Rd.one ((Po).aT)) O O) ?_
     rintro _ XG CW
     have UR := V.kp (CW.f9.f9.f9.f9.f9.f9.f9.f9.f9)
     refine gV UR (by kernel_rfl) ?_
     have hadd : ¬ 0 < op := by omega
     refine qR (aW (jd O (dG results138 O ?_)))
     have e : uI G N a dl il = 0 := by unfold uI; rw [if_neg (by omega), if_neg (by omega)]
     rw [UN e hadd, UO e hadd, e]
     have X := (CW.f9.right.f8.f8.f3.f8.f5.f6.f8.f8).oL.swap.oL.swap
     have X2 := V.Df (es := []) X.MF.f3.f3.f4
     have X4 := V.qM X2.oV.swap
     refine ⟨O, V.wu (gv := l16) (nv := yO) (gs := nR ++ [(l14, [⟨a, d13, dl, s13, il⟩])]) (now := mV) (ed := (iH G N : Nat) + 1) ⟨QL lD.1 (List.cons_ne_nil _ _), by rw [MK]; omega, lD.2.2.1, lD.2.2.2.1, MI lD.2.2.2.2.1 (by intro e he; rw [List.mem_singleton.1 he]; exact ⟨b2, b3⟩), lD.2.2.2.2.2⟩ (by rw [List.map_append, uZ]; rfl) sF (by rw [MK]; rfl) (X4.of_eq (by unfold Jv; ac_rfl))⟩
end
end Go.Proofs.YtpdeedplgmbopaaGreatDoor
end
section
namespace Go.Proofs.YtpdeedplgmbopaaGreatDoor
open Go.RowKit
def KG (P : Program) (l : Nat) (vs : List Value) (w : World) (T : Value → World → Prop) : Prop :=
  ∃ f tmps c d, (Instr.yield l vs.toArray).run P w = .ok (.round l f tmps c d) w ∧ RoundIn Fence.wide 0 P l f tmps c d w fun e w' => ∃ v, e = .returned v ∧ T v w'
theorem KG.mono {P : Program} {l : Nat} {vs : List Value} {w : World} {T T' : Value → World → Prop} (h : KG P l vs w T) (k : ∀ v w', T v w' → T' v w') : KG P l vs w T' :=
  let ⟨f, tmps, c, d, h1, h2⟩ := h; ⟨f, tmps, c, d, h1, RoundIn.mono h2 fun _ _ ⟨v, e, t⟩ => ⟨v, e, k _ _ t⟩⟩
theorem KG.bool {P : Program} {l : Nat} {vs : List Value} {w : World} {A B : World → Prop} (h : KG P l vs w fun v W' => (v = .bool true ∧ A W') ∨ (v = .bool false ∧ B W')) : KG P l vs w fun v W' => ∃ t, v = .bool t ∧ (t = true → A W') ∧ (t = false → B W') :=
  h.mono fun v W' hv => by
    rcases hv with ⟨rfl, h⟩ | ⟨rfl, h⟩
    · exact ⟨true, rfl, fun _ => h, fun e => by cases e⟩
    · exact ⟨false, rfl, (fun e => by cases e), fun _ => h⟩
theorem KH {P : Program} {L : List (Nat × Value)} {w : World} {ty : TypeId} {x : Operand} {args : List Operand} {ts : Array TypeId} {l : Nat} {vs : List Value} {T : Value → World → Prop} (hx : ev L x = some (.func (.yield l) #[] #[])) (ha : DV L args = some vs) (h : KG P l vs w T) :
    uw P L (.call ⟨.value x, args.toArray, ts⟩) ty w T := by
  obtain ⟨f, tmps, c, d, hy, hr⟩ := h
  refine Xt (fun ρ hρ dd pos nD g => ?_) hr
  have hg := hρ _ _ hx
  simp [execOp, resolve, invoke, ZC hρ _ _ ha, hg, Deferred.ofValue, hy]
def Iter (P : Program) (w0 : World) (fv : Value) (R : HP) (n : Nat) (E : Nat → List Value → HP → Prop) : Prop :=
  ∀ (l : Nat) (J : Nat → HP) (X : HP) (w : World),
    (∀ k, k < n → ∀ vs A, E k vs A → ∀ G W, V w0 W (A • J k • G) → KG P l vs W fun v W' => (v = .bool true ∧ V w0 W' (J (k + 1) • G)) ∨ (v = .bool false ∧ V w0 W' (X • G))) →
    V w0 w (J 0 • R) → qY P fv [.func (.yield l) #[] #[]] w fun _ W' => V w0 W' (J n • R) ∨ V w0 W' (X • R)
def ML (w0 : World) (I : HP) (Xr : HP) (Xe : Nat → HP) (G : HP) : Exit → Act → World → Prop
  | .normal, _, W => V w0 W (I • G)
  | .ret, _, W => V w0 W (Xr • G)
  | .exit id, _, W => V w0 W (Xe id • G)
  | _, _, _ => False
def QN (P : Program) (N : Sh) (w0 : World) (body : Code) (I : HP) (Xr : HP) (Xe : Nat → HP) (G : HP) (a : Act) (W : World) : Prop :=
  ∃ (L : List (Nat × Value)) (B : HP), Fits N L a ∧ V w0 W (B • G) ∧ ∀ G' W', V w0 W' (B • G') → WC P N body (ML w0 I Xr Xe G') L W'
def UU : Exit → Act → World → Prop := fun _ _ _ => False
theorem Pq {P : Program} {N : Sh} {w0 w : World} {body : Code} {I Xr : HP} {Xe : Nat → HP} {G B : HP} {L : List (Nat × Value)} (H : V w0 w (B • G)) (h : ∀ G' W', V w0 W' (B • G') → WC P N body (ML w0 I Xr Xe G') L W') :
    WQ N (Exit.then (QN P N w0 body I Xr Xe G) UU) .normal L w := fun _ a ha => ⟨L, B, ha, H, h⟩
theorem Gp {N : Sh} {w0 w : World} {I Xr : HP} {Xe : Nat → HP} {G : HP} {L : List (Nat × Value)} (H : V w0 w (I • G)) : WQ N (ML w0 I Xr Xe G) .normal L w := fun _ _ _ => H
theorem UW {N : Sh} {w0 w : World} {I Xr : HP} {Xe : Nat → HP} {G : HP} {id : Nat} {L : List (Nat × Value)} (H : V w0 w (Xe id • G)) : WQ N (ML w0 I Xr Xe G) (.exit id) L w := fun _ _ _ => H
theorem UY {w0 : World} {I Xr : HP} {Xe : Nat → HP} {G : HP} : NP (ML w0 I Xr Xe G) := fun _ _ _ h => h
def Pv : List Nat → List Value → List (Nat × Value) → List (Nat × Value)
  | [], _, L => L
  | _ :: _, [], L => L
  | p :: ps, v :: vs, L => Pv ps vs ((p, v) :: L)
theorem MN {n l : Nat} : ∀ (ps : List Nat) (vs : List Value) (L : List (Nat × Value)) (tmps : Array Value), (∀ p ∈ ps, p < n) → Fits ⟨n, [], some l⟩ L { tmps := tmps, defers := [] } →
    Fits ⟨n, [], some l⟩ (Pv ps vs L) { tmps := (ps.zip vs).foldl (fun t (p : Nat × Value) => t.setIfInBounds p.1 p.2) tmps, defers := [] }
  | [], _, _, _, _, h => h
  | _ :: _, [], _, _, _, h => h
  | p :: ps, v :: vs, L, tmps, hp, h => MN ps vs _ _ (fun q hq => hp q (by simp [hq])) (h.put (hp p (by simp)) v)
section
variable {P : Program} {N : Sh} {Q : Exit → Act → World → Prop} {L : List (Nat × Value)} {w0 w : World}
theorem yR {g : Operand} {ps : List Nat} {assign body : Code} {fv : Value} {R : HP} {n : Nat} {E : Nat → List Value → HP → Prop} (hg : ev L g = some fv) (hit : Iter P w0 fv R n E) (I : Nat → HP) (Xr : HP) (Xe : Nat → HP) (H : V w0 w (I 0 • R))
    (hps : ps.all (· < N.n) = true)
    (hbody : ∀ l k, k < n → ∀ vs A, E k vs A → ∀ G W, V w0 W (A • I k • G) → vs.length = ps.length ∧ WC P ⟨N.n, [], some l⟩ assign (Exit.then (QN P ⟨N.n, [], some l⟩ w0 body (I (k + 1)) Xr Xe G) UU) (Pv ps vs L) W)
    (hdone : ∀ D W, V w0 W (dM D (.deferred (some [])) • I n • R) → WQ ⟨N.n, D :: N.ds, none⟩ Q .normal L W)
    (hret : ∀ D W, V w0 W (dM D (.deferred (some [])) • Xr • R) → WQ ⟨N.n, D :: N.ds, none⟩ Q .ret L W)
    (abC : ∀ id D W, V w0 W (dM D (.deferred (some [])) • Xe id • R) → WQ ⟨N.n, D :: N.ds, none⟩ Q (.exit id) L W)
    (hro : N.ro = none := by rfl) : WC P N (.rangeFunc g ps.toArray assign body) Q L w := fun np a ha => by
  rw [hro]
  refine wpIn_rangeFunc fun fn _ => ?_
  let rQ : LoopState → Option Code → Loop := fun s j => { state := s, pending := j, fn, tmps := a.tmps, params := ps.toArray, assign, body, defers := w.heap.size }
  have acT := run_enterLoop_outer (P := P) (w := w) fn a.tmps ps.toArray assign body
  have H1 : V w0 ((w.alloc (.deferred (some []))).alloc (.loop (rQ .ready none))) (dM (w.heap.size + 1) (.loop (rQ .ready none)) • dM w.heap.size (.deferred (some [])) • I 0 • R) := by
    have := (H.alloc (.deferred (some []))).alloc (.loop (rQ .ready none))
    rw [World.size_alloc] at this
    exact this
  let Lk : LoopState → Option Code → HP := fun s j => dM (w.heap.size + 1) (.loop (rQ s j)) • dM w.heap.size (.deferred (some []))
  have ZR : ∀ k, k < n → ∀ vs A, E k vs A → ∀ G W, V w0 W (A • (Lk .ready none • I k) • G) → KG P (w.heap.size + 1) vs W fun v W' => (v = .bool true ∧ V w0 W' ((Lk .ready none • I (k + 1)) • G)) ∨
      (v = .bool false ∧ V w0 W' (rV (fun c : Code => Lk .done (some c) • (match c with | .ret => Xr | .exit id => Xe id | _ => fact False)) • G)) := by
    intro k hk vs A hE G W HW
    have e1 : (A • (Lk .ready none • I k) • G) = (dM (w.heap.size + 1) (.loop (rQ .ready none)) • A • I k • dM w.heap.size (.deferred (some [])) • G) := by
      show (A • ((dM (w.heap.size + 1) (.loop (rQ .ready none)) • dM w.heap.size (.deferred (some []))) • I k) • G) = _
      ac_rfl
    have HW1 := HW.of_eq e1
    have hl := HW1.get.2
    have hlen := (hbody (w.heap.size + 1) k hk vs A hE _ W (HW1.of_eq (show _ = (A • I k • dM (w.heap.size + 1) (.loop (rQ .ready none)) • dM w.heap.size (.deferred (some [])) • G) by ac_rfl))).1
    refine ⟨fn, _, assign, body, run_yield hl (by rw [List.size_toArray, hlen]; exact List.size_toArray.symm), ?_⟩
    have hfit : Fits ⟨N.n, [], some (w.heap.size + 1)⟩ (Pv ps vs L) { tmps := (ps.toArray.zip vs.toArray).foldl (fun tmps (t, a) => tmps.setIfInBounds t a) a.tmps, defers := [] } := by
      have := MN (n := N.n) (l := w.heap.size + 1) ps vs L a.tmps (fun p hp => by simpa using List.all_eq_true.1 hps p hp) ⟨ha.size, rfl, ha.at_⟩
      simpa using this
    refine roundIn_of_wpIn trivial ?_
    have HW2 : V w0 W (A • I k • dM (w.heap.size + 1) (.loop (rQ .ready none)) • dM w.heap.size (.deferred (some [])) • G) := HW1.of_eq (by ac_rfl)
    have hb := (hbody (w.heap.size + 1) k hk vs A hE _ W HW2).2 (fun c a w h => h) _ hfit
    refine wpIn_mono hb ?_
    rintro e a1 W1 hq
    cases e with
    | exit id => exact hq.elim
    | goto l => exact hq.elim
    | ret => exact hq.elim
    | panic c => exact hq.elim
    | outgrown => exact hq.elim
    | normal =>
      obtain ⟨L1, B, hf1, HB, hgo⟩ := hq
      have HB1 : V w0 W1 (dM (w.heap.size + 1) (.loop (rQ .ready none)) • B • dM w.heap.size (.deferred (some [])) • G) := HB.of_eq (by ac_rfl)
      have hl1 := HB1.get.2
      refine ⟨_, run_beginRound hl1 rfl, ?_⟩
      have HB2 : V w0 (W1.putObj (w.heap.size + 1) (.loop (rQ .busy none))) (dM (w.heap.size + 1) (.loop (rQ .busy none)) • B • dM w.heap.size (.deferred (some [])) • G) := HB1.turn rfl rfl rfl (by simp) (World.putObj_heap_same HB1.lt) fun k hk _ => World.putObj_heap_other hk
      have hbd := hgo (dM (w.heap.size + 1) (.loop (rQ .busy none)) • dM w.heap.size (.deferred (some [])) • G) _ (HB2.of_eq (by ac_rfl)) UY a1 hf1
      refine wpIn_mono hbd ?_
      have fin : ∀ (j : Option Code) (W3 : World) (A3 : HP), V w0 W3 (A3 • dM (w.heap.size + 1) (.loop (rQ .busy none)) • dM w.heap.size (.deferred (some [])) • G) →
          (Instr.endRound (w.heap.size + 1) j).run P W3 = .ok (.bool j.isNone) (W3.putObj (w.heap.size + 1) (.loop (rQ (if j.isNone then .ready else .done) j))) ∧
          V w0 (W3.putObj (w.heap.size + 1) (.loop (rQ (if j.isNone then .ready else .done) j))) ((Lk (if j.isNone then .ready else .done) j • A3) • G) := by
        intro j W3 A3 H3
        have H4 := H3.swap
        refine ⟨run_endRound j H4.get.2, ?_⟩
        have H5 : V w0 (W3.putObj (w.heap.size + 1) (.loop (rQ (if j.isNone then .ready else .done) j))) (dM (w.heap.size + 1) (.loop (rQ (if j.isNone then .ready else .done) j)) • A3 • dM w.heap.size (.deferred (some [])) • G) := H4.turn rfl rfl rfl (by simp) (World.putObj_heap_same H4.lt) fun k hk _ => World.putObj_heap_other hk
        refine H5.of_eq ?_
        show _ = (((dM (w.heap.size + 1) (.loop (rQ (if j.isNone then .ready else .done) j)) • dM w.heap.size (.deferred (some []))) • A3) • G)
        ac_rfl
      rintro e a3 W3 hp
      cases e with
      | normal => obtain ⟨h1, h2⟩ := fin none W3 _ hp; exact ⟨_, _, h1, _, rfl, .inl ⟨rfl, h2⟩⟩
      | ret => obtain ⟨h1, h2⟩ := fin (some .ret) W3 _ hp; exact ⟨_, _, h1, _, rfl, .inr ⟨rfl, V.iD .ret h2⟩⟩
      | exit id => obtain ⟨h1, h2⟩ := fin (some (.exit id)) W3 _ hp; exact ⟨_, _, h1, _, rfl, .inr ⟨rfl, V.iD (.exit id) h2⟩⟩
      | goto l => exact hp.elim
      | panic c => exact hp.elim
      | outgrown => exact hp.elim
  have hcall := hit (w.heap.size + 1) (fun k => Lk .ready none • I k) _ _ ZR (H1.of_eq (by
    show _ = (((dM (w.heap.size + 1) (.loop (rQ .ready none)) • dM w.heap.size (.deferred (some []))) • I 0) • R)
    ac_rfl))
  obtain ⟨f, first, cap, fn', c, rfl, hf, hn, hb, abD⟩ := hcall
  refine ⟨w.heap.size + 1, _, _, { target := .fn (.func f) cap.toArray, args := (first ++ [Value.func (.yield (w.heap.size + 1)) #[] #[]]).toArray }, (w.alloc (.deferred (some []))).alloc (.loop (rQ .ready none)), f, _, (w.alloc (.deferred (some []))).alloc (.loop (rQ .ready none)), acT, ?_, fun _ _ => trivial, ?_, (fun h => by cases h), Uk.2 (Calls.mono abD ?_)⟩
  · have he := ha.ev hg
    have he2 : a.eval (.const (.func (.yield (w.heap.size + 1)) #[] #[])) = .func (.yield (w.heap.size + 1)) #[] #[] := rfl
    simp [resolve, rangeCall, he, he2, Deferred.ofValue, rQ]
  · simp [invoke, callFunc, hf, hb]
    simpa using hn
  · rintro e W2 ⟨v, rfl, hv⟩
    have fin : ∀ (s : LoopState) (j : Option Code) (A : HP), s ≠ .busy → V w0 W2 ((Lk s j • A) • R) → (Instr.endLoop (w.heap.size + 1)).run P W2 = .ok j (W2.putObj (w.heap.size + 1) (.loop (rQ .exhausted j))) ∧
        V w0 (W2.putObj (w.heap.size + 1) (.loop (rQ .exhausted j))) (dM w.heap.size (.deferred (some [])) • A • R) := by
      intro s j A hs H3
      have H4 : V w0 W2 (dM (w.heap.size + 1) (.loop (rQ s j)) • dM w.heap.size (.deferred (some [])) • A • R) := H3.of_eq (by
        show (((dM (w.heap.size + 1) (.loop (rQ s j)) • dM w.heap.size (.deferred (some []))) • A) • R) = _
        ac_rfl)
      refine ⟨run_endLoop H4.get.2 hs, ?_⟩
      have H5 : V w0 (W2.putObj (w.heap.size + 1) (.loop (rQ .exhausted j))) (dM (w.heap.size + 1) (.loop (rQ .exhausted j)) • dM w.heap.size (.deferred (some [])) • A • R) := H4.turn rfl rfl rfl (by simp) (World.putObj_heap_same H4.lt) fun k hk _ => World.putObj_heap_other hk
      exact H5.right
    have hfit : Fits ⟨N.n, w.heap.size :: N.ds, none⟩ L { a with defers := [{ target := .collected w.heap.size, args := #[] }] ++ a.defers } := ⟨ha.size, by simp [ha.defers, Uj], ha.at_⟩
    rcases hv with hv | hv
    · obtain ⟨h1, h2⟩ := fin _ _ _ (by decide) hv
      exact ⟨none, _, h1, hdone _ _ h2 np _ hfit⟩
    · obtain ⟨c, hv⟩ := hv.lQ
      obtain ⟨h1, h2⟩ := fin _ _ _ (by decide) hv
      cases c with
      | ret => exact ⟨some .ret, _, h1, wpIn_ret (hret _ _ h2 np _ hfit)⟩
      | exit id => exact ⟨some (.exit id), _, h1, wpIn_exit (abC id _ _ h2 np _ hfit)⟩
      | _ => exact absurd h2.swap.fact.1 id
end
end Go.Proofs.YtpdeedplgmbopaaGreatDoor
end
section
namespace Go.Proofs.YtpdeedplgmbopaaGreatDoor
open Go.RowKit
open _root_.Go.Proofs.Tryz
def mJ (G : List (List iU)) (N : List iU) : List (List iU) := if N = [] then G else G ++ [N]
theorem Px {G : List (List iU)} {N : List iU} (h : N = []) : mJ G N = G := by unfold mJ; rw [if_pos h]
theorem qN {G : List (List iU)} {N : List iU} (h : N ≠ []) : mJ G N = G ++ [N] := by unfold mJ; rw [if_neg h]
theorem Gq {G : List (List iU)} {N : List iU} : iH (mJ G N) [] = iH G N := by
  unfold mJ; split
  · rename_i h; rw [h]
  · simp [iH]
section
variable {w0 w : World} {F : HP} {p : Nat} {G : List (List iU)} {N : List iU} {op : Int} {gv nv v : Value} {gs : List (Value × List dV)} {now es : List dV} {a : Int} {d z : Value} {dl il : List Int}
theorem zQ (H : V w0 w (iQ p G N op • F)) : gQ prog 177 #[.pointer (some ⟨p, 0, none⟩)] w fun _ w' => V w0 w' (iQ p (mJ G N) [] 0 • F) := by
 refine iC func177 ntmps177 ?_
 refine aO (aO ?_)
 obtain ⟨AY, yO, nR, mV, lD, uZ, sF, Gi, Gj, MJ, qH⟩ := (H).yw
 refine aB (nG O O (bF 0 bn O dA O (bF 1 bI O bJ O (gq aV O (qH).get.2 O (Z (iW ((qH.f4).aT) aV O) (Z (jc O O) (iV O (fun h1 => ?_) (fun h1 => ?_))))))))
 ·(try simp only [aF] at h1)
  have abE : 0 < mV.length := by omega
  have Py := qH.drew
  have nZ := V.kp (Py.f5.f5.f5.f5.f5)
  refine yj [5, 10] nZ O (jE 0 O nZ O (jE 1 O nZ O (kJ 2 O nZ O (gU 3 O nZ 0 bn O dA O (gU 4 O nZ 0 bI O fA O (jQ 5 O nZ (fun W hW => kC bg O ((Kp.h hW)).get.2 O) (jE 6 O nZ O (kJ 7 O nZ O (gU 8 O nZ 0 bn O dA O (gU 9 O nZ 1 bI O bJ O (jQ 10 O nZ (fun W hW => kC aV O ((Kp.h hW)).get.2 O) (oC 11 O (jH (vs := [_]) Py bg bJ lG O O O (by decide) (aX (by first | rfl | exact Rd.one ((Py.f4).aT)) bD)) ?_))))))))))))
  rintro l2 w2 H2
  have xH := V.kp (H2.f6.f6.f6.f6.f6.f6)
  refine dX xH (fun W hW => (Kp.h hW).right.f5.f5.f5.f5.f5) ?_
  refine oC 12 O (fZ H2.f3 bg EG O O O ((H2).aT) (aX (by first | rfl | exact Rd.one ((H2.f5).aT)) bD) (by omega) (by omega)) ?_
  rintro l3 w3 H3
  have Hd4 := H3.f2.right
  have xG := V.kp (Hd4.f5.f5.f5.f5.f5)
  refine gV xG (by kernel_rfl) ?_
  refine kJ 13 O xG O (gU 14 O xG 0 bn O dA O (gU 15 O xG 0 bI O fA O ?_))
  refine fQ 16 O (by kernel_rfl) (fE 0 (l' := [_, _, _, _, _]) Hd4.f2 fA O O (by first | rfl | exact Rd.one ((Hd4).aT)) O O) ?_
  rintro _ w5 H5
  have BM := V.kp (H5.f5.f5.f5.f5.f5)
  refine gV BM (by kernel_rfl) ?_
  refine qR (aW (aB (jF O O (dL O (bF 0 bn O dA O (bF 1 bI O bJ O (aK (XC 1 H5 bJ) ?_)))))))
  rintro _ w6 H6
  refine dL O (bF 0 bn O dA O (bF 2 bI O aj O (aK (XC 2 H6 aj) ?_)))
  rintro _ w7 H7
  refine bP (lX (.inr O) results177 ?_)
  have hN : N ≠ [] := by rintro rfl; exact absurd Gj (by simp only [List.length_nil]; omega)
  rw [qN hN]
  have X := V.oV (v := yO) (es := mV) (H7.f3.f3.f5.f5).deep
  have X4 := V.qM X.swap
  refine V.wu (gv := l3) (nv := .slice none 0 0) (gs := nR ++ [(yO, mV)]) (now := []) (ed := (iH G N : Nat)) ⟨QL lD.1 hN, by rw [← qN hN, Gq]; exact lD.2.1, by decide, by decide, MI lD.2.2.2.2.1 lD.2.2.2.2.2, by simp⟩ (by rw [List.map_append, uZ, ← sF]; rfl) O (by rw [← qN hN, Gq]) ((X4.rD none).of_eq (by ac_rfl))
 ·(try simp only [aF] at h1)
  have abE : mV.length = 0 := by omega
  refine fV (aB (jF O O (dL O (bF 0 bn O dA O (bF 1 bI O bJ O (aK (XC 1 qH bJ) ?_))))))
  rintro _ w8 H8
  refine dL O (bF 0 bn O dA O (bF 2 bI O aj O (aK (XC 2 H8 aj) ?_)))
  rintro _ w9 H9
  refine bP (lX (.inr O) results177 ?_)
  have hN : N = [] := by rw [← sF, List.eq_nil_of_length_eq_zero abE]; rfl
  subst hN
  rw [Px rfl]
  refine V.wu (gv := AY) (nv := .slice none 0 0) (gs := nR) (now := []) (ed := (iH G [] : Nat)) ⟨lD.1, lD.2.1, by decide, by decide, lD.2.2.2.2⟩ uZ O O (((H9.f4.right.f4.right.f3.f3).rD none).of_eq (by unfold BL; ac_rfl))
theorem V.KI (H : V w0 w (Bf v es • F)) : V w0 w (Bf v es • Bf v es • F) := H.qV
theorem SB (b : Nat) : Iter prog w0 (.func (.func 210) #[] #[.pointer (some ⟨b, 0, none⟩)]) (dM b (.cells #[v] 80 (0, 0)) • Bf v es) es.length
  (fun k vs A => vs = [.int .i64 ((es.length - (k + 1) : Nat) : Int), .agg (es.getD (es.length - (k + 1)) default).enc.toArray] ∧ A = Bf v es) := by
 intro l J X w hy H
 refine ⟨210, [], [.pointer (some ⟨b, 0, none⟩)], _, _, O, func210, O, O, ?_⟩
 have H1 : V w0 w (dM b (.cells #[v] 80 (0, 0)) • Bf v es • J 0) := H.of_eq (by ac_rfl)
 obtain ⟨a, c, hv, hc1, hc2, _⟩ := (H1.swap.uH).form
 subst hv
 simp only [List.nil_append, List.cons_append]
 refine Uc func210 ntmps210 ?_
 dsimp only [vP, Nat.reduceAdd]
 refine iy (gq aV O (H1).get.2 O (Z (iW ((H1.f2).uH) aV O) (Z (lu O O (by omega)) (gB O (aZ ?_)))))
 refine fC [(0, _), (1, _)] (fun (k : Nat) => [(3, .int .i64 ((k : Int) - 1))]) (fun (k : Nat) W => k ≤ es.length ∧ V w0 W (dM b (.cells #[.slice a es.length c] 80 (0, 0)) • Bf (.slice a es.length c) es • J (es.length - k))) (fun (k : Nat) => k) (es.length) oO kD ⟨by omega, by rw [Nat.sub_self]; exact H1⟩ ?_
 rintro k w1 ⟨hk, HL⟩
 dsimp only [List.cons_append, List.nil_append]
 refine aO (bT O (Z (lJ O O) (iV O (fun h1 => ?_) (fun h1 => ?_))))
 ·(try simp only [aF] at h1)
  refine fV (aO (aZ (aO ?_)))
  obtain ⟨m, rfl⟩ : ∃ m, k = m + 1 := ⟨k - 1, by omega⟩
  rw [show (((m + 1 : Nat) : Int) - 1) = (m : Int) from by omega]
  refine aB (jF O O (gq aV O (HL).get.2 O (bQ O ?_)))
  obtain ⟨bv, ov, cv, ev⟩ := Rd.nX ((HL.f2).uH) (by omega)
  cases ev
  refine Z (dw aV dY O O (by omega)) (Z (qL (ys := [_, _, _]) ((HL.f2).uH) (by omega) dF O dY O (sD dV.Dc (by omega) default) O) (jy (KH O O (hy (es.length - (m + 1)) (by omega) _ _ ⟨by rw [show es.length - (es.length - (m + 1) + 1) = m from by omega]; rfl, O⟩ (Bf (.slice (some ⟨bv, ov, none⟩) es.length c) es • dM b (.cells #[.slice (some ⟨bv, ov, none⟩) es.length c] 80 (0, 0))) _ (HL.swap.KI.of_eq (by ac_rfl))).bool) ?_))
  rintro _ w2 ⟨t, rfl, ht1, ht2⟩
  refine Z (lS O) (iV O (fun h2 => ?_) (fun h2 => ?_))
  ·(try simp only [aF] at h2)
   have HX := ht2 (by simpa using h2)
   refine mG (aS (aG (aG (aS (we0 results210 ?_)))))
   exact .inr (HX.of_eq (by ac_rfl))
  ·(try simp only [aF] at h2)
   have HN : V w0 w2 (dM b (.cells #[.slice (some ⟨bv, ov, none⟩) es.length c] 80 (0, 0)) • Bf (.slice (some ⟨bv, ov, none⟩) es.length c) es • J (es.length - m)) := by
    have h9 := ht1 (by simpa using h2)
    rw [show es.length - (m + 1) + 1 = es.length - m from by omega] at h9
    exact h9.of_eq (by ac_rfl)
   refine bU (aJ (aW (aB (bQ O (Z (lu O O (by omega)) (fU O (bP ?_)))))))
   refine dH (m) ?_ ?_ ?_ ?_
   ·exact kD
   ·exact oO
   ·(try dsimp only)
    first | done | exact ⟨by omega, HN.f2.f2⟩
   ·(try dsimp only); omega
 ·(try simp only [aF] at h1)
  refine dn (aI (aI (aY (lX (.inr O) results210 ?_))))
  obtain rfl : k = 0 := by omega
  rw [Nat.sub_zero] at HL
  exact .inl (HL.of_eq (by ac_rfl))
end
def Gs (e : iU) : iU := (e.1, e.2.2, e.2.1)
def UZ (c : Nat) (es : List dV) (k : Nat) : HP := rV fun (x : Value × List dV) => fact (x.2.map dV.says = ((es.map dV.says).reverse.take k).map Gs) • dM c (.cells #[x.1] 80 (0, 0)) • Jv x.1 x.2
theorem U0 {es : List dV} {k : Nat} (hk : k < es.length) : ((es.map dV.says).reverse.take (k + 1)).map Gs = ((es.map dV.says).reverse.take k).map Gs ++ [Gs (es.getD (es.length - (k + 1)) default).says] := by
  rw [List.take_succ_eq_append_getElem (by simpa using hk), List.map_append]
  congr 1
  simp only [List.map_cons, List.map_nil, List.getElem_reverse, List.getElem_map, List.length_map]
  rw [List.getD_eq_getElem?_getD, List.getElem?_eq_getElem (by omega)]
  have e : es.length - 1 - k = es.length - (k + 1) := by omega
  simp only [Option.getD_some, e]
section
variable {w0 w : World} {F : HP} {p : Nat} {G : List (List iU)} {N : List iU} {op : Int} {gv nv v : Value} {gs : List (Value × List dV)} {now es : List dV} {a : Int} {d z : Value} {dl il : List Int}
theorem V.MO {c k : Nat} (H : V w0 w (UZ c es k • F)) : ∃ u fs, fs.map dV.says = ((es.map dV.says).reverse.take k).map Gs ∧ fs.length ≤ es.length ∧ V w0 w (dM c (.cells #[u] 80 (0, 0)) • Row 189 3 u fs.length (fs.flatMap dV.enc) • kK fs • F) := by
  obtain ⟨⟨u, fs⟩, H⟩ := H.lQ
  obtain ⟨h, H⟩ := H.flat.fact
  refine ⟨u, fs, h, ?_, ?_⟩
  · have := congrArg List.length h
    simp at this
    omega
  · have := H.flat
    unfold Jv at this
    exact this.of_eq (by ac_rfl)
theorem V.U1 {c k : Nat} {u : Value} {fs : List dV} (h : fs.map dV.says = ((es.map dV.says).reverse.take k).map Gs) (H : V w0 w (dM c (.cells #[u] 80 (0, 0)) • Jv u fs • F)) : V w0 w (UZ c es k • F) :=
  V.iD (u, fs) (V.deep (V.kE h H.deep))
theorem V.ZT (H : V w0 w (Bf v es • F)) {k : Nat} (hk : k < es.length) : V w0 w (mQ .i32 (es.getD k default).d (es.getD k default).dl • mQ .i32 (es.getD k default).i (es.getD k default).il • Bf v es • F) := by
  have h1 : V w0 w (mQ .i32 (es.getD k default).d (es.getD k default).dl • Bf v es • Bf v es • F) := H.KI.KI.DW (oG (fun I h => (h.2 k hk).1) _)
  have h2 : V w0 w (mQ .i32 (es.getD k default).i (es.getD k default).il • mQ .i32 (es.getD k default).d (es.getD k default).dl • Bf v es • F) := h1.swap.DW (oG (fun I h => (h.2 k hk).2) _)
  exact h2.swap
theorem SC (H : V w0 w F) (hv : v.oneCell' = true) : gQ prog 197 #[v] w fun v' w' => ∃ b, v' = .func (.func 210) #[] #[.pointer (some ⟨b, 0, none⟩)] ∧ V w0 w' (dM b (.cells #[v] 80 (0, 0)) • F) := by
  refine iC func197 ntmps197 ?_
  refine iy (jy (iO (l := [_]) H O (by first | rfl | exact Au (by first | rfl | assumption))) ?_)
  rintro _ w1 ⟨b1, rfl, H1⟩
  refine gB O (iy (Z (vU O O) (fF O (dG results197 O ?_))))
  exact ⟨_, O, H1⟩
theorem Di (H : V w0 w (Bf v es • F)) (hB : ∀ k, k < es.length → EB (es.getD k default).says) (hL : es.length ≤ 16384) :
  gQ prog 178 #[v] w fun v' w' => ∃ fs : List dV, fs.map dV.says = (es.map dV.says).reverse.map Gs ∧ V w0 w' (Row 189 3 v' fs.length (fs.flatMap dV.enc) • kK fs • Bf v es • F) := by
 refine iC func178 ntmps178 ?_
 refine jk O (iy (jy (fM (l := [_]) H lG O) ?_))
 rintro _ w1 ⟨b1, rfl, H1⟩
 refine pJ (bT O (eG O func197 (SC H1 (Rd.one ((H1.f2).uH))) ?_))
 rintro _ w2 ⟨bB2, rfl, H2⟩
 refine iK (aZ ?_)
 have SE := H2.f2
 have QO := V.U1 (es := es) (k := 0) (fs := []) rfl (SE.rD none).swap
 refine yR O (SB bB2) (fun k => UZ b1 es k • F) (fact False) (fun _ => fact False) (QO.f3.f3.f3.f3.f3.g2.comm) (by rfl) ?_ ?_ ?_ ?_
 ·rintro l5 k ZU vs5 A5 ⟨rfl, rfl⟩ G5 w5 H5
  try simp only [bZ, nI, uU] at H5
  refine ⟨O, ?_⟩
  dsimp only [Pv]
  have Hq := (H5).ZT (k := es.length - (k + 1)) (by omega)
  obtain ⟨hb1, hb2⟩ := hB (es.length - (k + 1)) (by omega)
  have hb1 : (es.getD (es.length - (k + 1)) default).dl.length ≤ 35184372087808 := hb1
  have hb2 : (es.getD (es.length - (k + 1)) default).il.length ≤ 35184372087808 := hb2
  obtain ⟨u, fs, hfs, hfl, HI⟩ := (Hq.f4).MO
  refine aB (jy (fM (l := [_, _, _]) HI ig O) ?_)
  rintro _ w6 ⟨b6, rfl, H6⟩
  refine aK (bW 0 (l' := [_, _, _]) (us := [_, _, _]) H6 dY O O O (aA (aX (by first | rfl | exact Rd.one ((H6.f5).jG)) (aX (by first | rfl | exact Rd.one ((H6.f6).jG)) bD))) O O) ?_
  rintro _ w7 H7
  refine bP ?_
  refine Pq (H7.g8) ?_
  intro G8 w8 H8
  try simp only [bZ] at H8
  refine aZ ?_
  have abF := H8.drew
  have U2 := V.kp (abF.f7.f7.f7.f7.f7.f7.f7)
  refine yj [0, 1] U2 O (jQ 0 O U2 (fun W hW => kC aV O ((Kp.h hW).f2).get.2 O) (jQ 1 O U2 (fun W hW => fD dF O dY O O ((Kp.h hW)).get.2) (oC 2 O (yJ O func198 (Ea abF (fun W HW => (HW.f5).jG) (fun W HW => (HW.f6).jG) (by omega) (by omega))) ?_)))
  rintro _ w9 ⟨d9, s9, rfl, H9⟩
  have Pj := V.kp (H9.f9.f9.f9.f9.f9.f9.f9.f9.f9)
  refine dX Pj (fun W hW => (Kp.h hW).right.right.f7.f7.f7.f7.f7.f7.f7) ?_
  refine oC 3 O (vH H9 aV dY ig O O O (by decide) (by decide)) ?_
  rintro l10 w10 ql
  have U3 := V.kp (ql.f10.f10.f10.f10.f10.f10.f10.f10.f10.f10)
  refine dX U3 (fun W hW => (Kp.h hW).right.f9.f9.f9.f9.f9.f9.f9.f9.f9) ?_
  refine oC 4 O (fZ ql.f6 aV zO O O O ((ql).aT) (aA (aX (by first | rfl | exact Rd.one ((ql.f2).aT)) (aX (by first | rfl | exact Rd.one ((ql.f3).aT)) bD))) (by omega) (by omega)) ?_
  rintro l11 EI rE
  have IJ := rE.f2.right
  have Gn := V.kp (IJ.f9.f9.f9.f9.f9.f9.f9.f9.f9)
  refine gV Gn (by kernel_rfl) ?_
  refine fQ 5 O (by kernel_rfl) (fE 0 (l' := [_]) IJ.f5 bJ O O (by first | rfl | exact Rd.one ((IJ).aT)) O O) ?_
  rintro _ Pn wZ
  have uP := V.kp (wZ.f9.f9.f9.f9.f9.f9.f9.f9.f9)
  refine gV uP (by kernel_rfl) ?_
  refine qR (aJ ?_)
  refine Gp ?_
  have X := (wZ.f5.right.f6.right.f6.right.f6.right.f6.f2.f6.f4.f6.f6).oL.swap.oL.swap
  have X2 := V.Df X.f3
  exact (V.U1 (es := es) (k := k + 1) (by rw [List.map_append, hfs, U0 (by omega)]; rfl) X2.swap).deep
 ·rintro D14 Si Aw
  have U4 := Aw.ed
  try simp only [bZ, nI, uU] at U4
  have ZV := U4.QC
  obtain ⟨u, fs, hfs, hfl, HI⟩ := (ZV.f4).MO
  refine aJ (aW (iy (gq aV O (HI).get.2 O (fF O ?_))))
  refine Fg (.inl O) (HI.f4) (fun SA yQ => ?_)
  refine ⟨_, Zy results178 O, ?_⟩
  rw [List.take_of_length_le (by simp)] at hfs
  exact ⟨_, hfs, yQ.right.f3.right.f3.f3.f3⟩
 ·rintro D w H; exact absurd H.swap.fact.1 id
 ·rintro id D w H; exact absurd H.swap.fact.1 fun h => h
end
def U5 (G : List (List iU)) (N : List iU) : Int := if G.length + N.length = 0 then 6 else 0
def QS (G : List (List iU)) (N : List iU) : List (List iU) := if G.length + N.length = 0 then G else (mJ G N).dropLast
def QT (G : List (List iU)) (N : List iU) : List iU := if G.length + N.length = 0 then N else []
def QU (G : List (List iU)) (N : List iU) (op : Int) : Int := if G.length + N.length = 0 then op else 0
def Y2 (G : List (List iU)) (N : List iU) : List iU := if G.length + N.length = 0 then [] else ((mJ G N).getLastD []).reverse.map Gs
theorem Jw {G : List (List iU)} {g N : List iU} : iH (G ++ [g]) N = iH G N + g.length := by simp [iH]; omega
section
variable {w0 w : World} {F : HP} {p : Nat} {G : List (List iU)} {N : List iU} {op : Int} {gv nv v : Value} {gs : List (Value × List dV)} {now es : List dV} {a : Int} {d z : Value} {dl il : List Int}
theorem Pz (h : ¬ G.length + N.length = 0) : mJ G N ≠ [] := by
  unfold mJ; split
  · rename_i hN; rintro rfl; subst hN; exact h rfl
  · simp
theorem V.PD (H : V w0 w (iQ p G [] op • F)) (hG : G ≠ []) : ∃ gv nv hs gl wO, G = hs.map (fun g => g.2.map dV.says) ++ [wO.map dV.says] ∧ XP G [] op ∧ G.length = hs.length + 1 ∧ hs.length ≤ 16384 ∧ wO.length ≤ 16384 ∧ (∀ k, k < wO.length → EB (wO.getD k default).says) ∧
    V w0 w (dM p (.cells #[gv, nv, .int .i64 op, .int .i64 (iH G [] : Nat), .bool true] 235 (0, 0)) • Row 80 1 gv (hs.length + 1) (hs.map (·.1) ++ [gl]) • nO hs • Bf gl wO • Jv nv [] • F) := by
  obtain ⟨gv, nv, gs, now, h1, h2, h3, h4, h5, h6, H⟩ := H.yw
  obtain rfl : now = [] := List.eq_nil_of_length_eq_zero (by simpa using h5)
  rcases List.eq_nil_or_concat gs with rfl | ⟨hs, ⟨gl, wO⟩, rfl⟩
  · exact absurd h2.symm hG
  · have hG2 : G = hs.map (fun g => g.2.map dV.says) ++ [wO.map dV.says] := by rw [← h2]; simp
    have hle : wO.length ≤ 16384 := by
      have := h1.2.1
      rw [hG2, Jw] at this
      simp at this
      omega
    refine ⟨gv, nv, hs, gl, wO, hG2, h1, ?_, ?_, hle, fun k hk => ?_, ?_⟩
    · rw [hG2]; simp
    · rw [hG2] at h6; simp at h6; omega
    · refine h1.2.2.2.2.1 (wO.map dV.says) (by rw [hG2]; simp) _ ?_
      rw [List.getD_eq_getElem?_getD, List.getElem?_eq_getElem hk]
      exact List.mem_map_of_mem (List.getElem_mem hk)
    · rw [List.concat_eq_append, List.length_append, List.map_append] at H
      have H1 := (H.f3.MG (k := hs.length) (by simp)).swap
      rw [show (hs ++ [(gl, wO)]).getD hs.length default = (gl, wO) from by simp [List.getD_eq_getElem?_getD]] at H1
      have H2 := H1.MH hs.length
      rw [List.take_left' rfl] at H2
      exact H2.of_eq (by unfold Jv; ac_rfl)
theorem Bg (H : V w0 w (iQ p G N op • F)) : gQ prog 136 #[.pointer (some ⟨p, 0, none⟩)] w fun v w' => ∃ u, ∃ fs : List dV, v = .tuple #[u, .int .i64 (U5 G N)] ∧ fs.map dV.says = Y2 G N ∧
  V w0 w' (Row 189 3 u fs.length (fs.flatMap dV.enc) • kK fs • iQ p (QS G N) (QT G N) (QU G N op) • F) := by
 unfold U5 Y2 QS QT QU
 refine iC func136 ntmps136 ?_
 refine iy (fU O (vZ O (bT O (eG O func158 (mY H) ?_))))
 rintro _ _ ⟨rfl, rfl⟩
 refine iK (pW (fV (aO (aO ?_))))
 obtain ⟨AY, yO, nR, mV, lD, uZ, sF, Gi, Gj, MJ, qH⟩ := (H).yw
 have AZ := qH.drew
 have gW := V.kp (AZ.f5.f5.f5.f5.f5)
 refine yj [4, 10] gW O (jE 0 O gW O (kJ 1 O gW O (gU 2 O gW 0 bn O dA O (gU 3 O gW 0 bI O fA O (jQ 4 O gW (fun W hW => kC bg O ((Kp.h hW)).get.2 O) (jC 5 O gW (fun _ => iW ((AZ.f2).aT) bg O) (jE 6 O gW O (kJ 7 O gW O (gU 8 O gW 0 bn O dA O (gU 9 O gW 1 bI O bJ O (jQ 10 O gW (fun W hW => kC aV O ((Kp.h hW)).get.2 O) (jC 11 O gW (fun _ => iW ((AZ.f4).aT) aV O) (jC 12 O gW (fun _ => fK O O (by omega)) (jC 13 O gW (fun _ => dO O O) (qR (aW (bG O (fun h1 => ?_) (fun h1 => ?_))))))))))))))))))
 ·(try simp only [aF] at h1)
  have hGN : G.length + N.length = 0 := by omega
  have O9 := AZ.f5.f5.f5.f5.f5
  have OB := V.nP lD uZ sF rfl O9
  refine iy (fU O (fF O (aG (FX results136 O O ?_))))
  simp only [if_pos hGN]
  exact ⟨_, [], O, O, ((OB).rD none).ZO⟩
 ·(try simp only [aF] at h1)
  have hGN : ¬ G.length + N.length = 0 := by omega
  have U6 := AZ.f5.f5.f5.f5.f5
  have U7 := V.nP lD uZ sF rfl U6
  refine fV (bT O (eG O func177 (zQ U7) ?_))
  rintro _ w9 H9
  refine pJ ?_
  obtain ⟨gv, nv, hs, gl, wO, hG, hok, hl1, hl2, hl3, hEB, HU⟩ := (H9).PD (Pz hGN)
  have htot := hok.2.1
  refine aB (nG O O (bF 0 bn O dA O (bF 0 bI O fA O (gq bg O (HU).get.2 O (Z (iW ((HU.f2).aT) bg O) (Z (lu O O (by omega)) (gB O (bT O (dL O (bF 0 bn O dA O (bF 0 bI O fA O (gq bg O (HU).get.2 O (bQ O ?_)))))))))))))
  obtain ⟨bgv, ogv, cgv, egv⟩ := Rd.nX ((HU.f2).aT) (by omega)
  cases egv
  refine Z (dw bg bJ O O (by omega)) ?_
  refine Z (dR (bV aV O) O (by first | exact Rd.jT ((HU.f2).aT) (by omega) | exact Rd.rP ((HU.f2).aT) (by omega) | exact Rd.rO ((HU.f2).aT) (by omega))) ?_
  rw [show (hs.map (·.1) ++ [gl]).getD ((((hs.length + 1 : Nat)) : Int) - 1).toNat undef = gl from by rw [show ((((hs.length + 1 : Nat)) : Int) - 1).toNat = hs.length from by omega]; simp [List.getD_eq_getElem?_getD]]
  refine gB O (bT O (nG O O (bF 0 bn O dA O (bF 0 bI O fA O (gq bg O (HU).get.2 O (bQ O (Z (oQ ((HU.f2).aT) bg bJ O O O (by omega)) ?_)))))))
  refine dL O (bF 0 bn O dA O (bF 0 bI O fA O (aK (fE 0 (l' := [_, _, _, _, _]) HU fA O O (by first | rfl | exact Rd.one (Rd.aby ((HU.f2).aT) (by omega))) O O) ?_)))
  rintro _ w10 ql
  refine qQ O (dL O (bF 0 bn O dA O (bF 3 bI O aj O (gq aN O (ql).get.2 O (bQ O (Z (iW ((ql.f4).uH) aV O) (Z (lu O O (by omega)) (dL O (bF 0 bn O dA O (bF 3 bI O aj O (aK (XC 3 ql aj) ?_)))))))))))
  rintro _ EI rE
  refine qQ O (eG O func178 (Di rE.f4 hEB hl3) ?_)
  rintro u12 w12 ⟨U8, Y3, uG⟩
  refine fU O (fF O (FX results136 O O ?_))
  simp only [if_neg hGN]
  have hdl : (mJ G N).dropLast = hs.map (fun g => g.2.map dV.says) := by rw [hG]; simp
  have hlast : (mJ G N).getLastD [] = wO.map dV.says := by rw [hG]; simp
  have hX := (uG.f3.right.f6.f6.f5.f5.f5.f6).Us (h := hs.length) (by omega)
  rw [hdl, hlast]
  rw [Nat.mul_one, List.take_left' (by simp), show (((hs.length + 1 : Nat) : Int) - 1).toNat = hs.length from by omega, show Int.toNat 0 = 0 from rfl] at hX
  have hT : iH (mJ G N) [] = iH (hs.map (fun g => g.2.map dV.says)) [] + wO.length := by rw [hG, Jw, List.length_map]
  have hok2 : XP (hs.map (fun g => g.2.map dV.says)) [] 0 := ⟨fun g hg => hok.1 g (by rw [hG]; exact List.mem_append_left _ hg), by omega, by decide, by decide, fun g hg => hok.2.2.2.2.1 g (by rw [hG]; exact List.mem_append_left _ hg), by simp⟩
  refine ⟨_, _, O, (by assumption), ?_⟩
  have hU := V.wu (gv := wP 1 0 hs.length (.slice (some ⟨bgv, ogv, none⟩) (hs.length + 1) cgv)) (nv := nv) (gs := hs) (now := []) (ed := (iH (mJ G N) [] : Nat) - (wO.length : Int)) (F := Row 189 3 u12 U8.length (U8.flatMap dV.enc) • kK U8 • F) hok2 rfl rfl (by omega) (hX.of_eq (by unfold BL; ac_rfl))
  exact hU.of_eq (by ac_rfl)
end
def zS (op : Int) : Int := if op = 0 then 1 else 0
def ZW (G : List (List iU)) (N : List iU) (op : Int) : List (List iU) := if op = 1 then mJ G N else G
def ZX (N : List iU) (op : Int) : List iU := if op = 1 then [] else N
def XQ (op : Int) : Int := if op = 0 then 0 else op - 1
theorem SG {es : List dV} {k : Nat} (hk : k < es.length) : (es.take (k + 1)).map dV.says = (es.take k).map dV.says ++ [(es.getD k default).says] := by
  rw [List.take_succ_eq_append_getElem hk, List.map_append, List.getD_eq_getElem?_getD, List.getElem?_eq_getElem hk]
  rfl
section
variable {w0 w : World} {F : HP} {p : Nat} {G : List (List iU)} {N : List iU} {op : Int} {gv nv v : Value} {gs : List (Value × List dV)} {now es : List dV} {a : Int} {d z : Value} {dl il : List Int}
theorem yS (H : V w0 w (iQ p G N op • F)) : gQ prog 139 #[.pointer (some ⟨p, 0, none⟩)] w fun v w' => v = .int .i64 (zS op) ∧ V w0 w' (iQ p (ZW G N op) (ZX N op) (XQ op) • F) := by
 unfold zS ZW ZX XQ
 refine iC func139 ntmps139 ?_
 refine jk O (aO (bT O (eG O func158 (mY H) ?_)))
 rintro _ _ ⟨rfl, rfl⟩
 refine iK (pW (fV (aO (aO ?_))))
 obtain ⟨AY, yO, nR, mV, lD, uZ, sF, Gi, Gj, MJ, qH⟩ := (H).yw
 have hop := lD.2.2.1
 have hop2 := lD.2.2.2.1
 refine aB (nG O O (bF 0 bn O dA O (bF 2 bI O aj O (gq aN O (qH).get.2 O (Z (dO O O) (iV O (fun h1 => ?_) (fun h1 => ?_)))))))
 ·(try simp only [aF] at h1)
  have h0 : op = 0 := by omega
  refine jd O (aG (dG results139 O ?_))
  have O9 := qH.f5.f5.f5.f5.f5
  have OB := V.nP lD uZ sF rfl O9
  subst h0
  exact ⟨O, OB⟩
 ·(try simp only [aF] at h1)
  have h0 : ¬ op = 0 := by omega
  refine fV (aO (bT O (dL O (bF 0 bn O dA O (bF 2 bI O aj O (gq aN O (qH).get.2 O (Z (lu O O (by omega)) (dL O (bF 0 bn O dA O (bF 2 bI O aj O (aK (XC 2 qH aj) ?_)))))))))))
  rintro _ w6 H6
  refine qQ O (dL O (bF 0 bn O dA O (bF 2 bI O aj O (gq aN O (H6).get.2 O (Z (dO O O) (iV O (fun h2 => ?_) (fun h2 => ?_)))))))
  ·(try simp only [aF] at h2)
   have h1 : op = 1 := by omega
   have U6 := H6.f5.f5.f5.f5.f5
   have U7 := V.nP (op := op - 1) ⟨lD.1, lD.2.1, by omega, by omega, lD.2.2.2.2⟩ uZ sF rfl U6
   refine aB (bQ O (eG O func177 (zQ U7) ?_))
   rintro _ w9 H9
   refine iK (jd O (dG results139 O ?_))
   subst h1
   exact ⟨O, H9⟩
  ·(try simp only [aF] at h2)
   have h1 : ¬ op = 1 := by omega
   refine fV (jd O (dG results139 O ?_))
   rw [if_neg h0, if_neg h1, if_neg h1, if_neg h0]
   exact ⟨O, V.nP ⟨lD.1, lD.2.1, by omega, by omega, lD.2.2.2.2⟩ uZ sF O H6.f5.f5.f5.f5.f5⟩
theorem Gt (H : V w0 w F) (hv : OO w0 F 3 v es.length (es.flatMap dV.enc)) (he : ∀ k, k < es.length → jM w0 F .i32 (es.getD k default).d (es.getD k default).dl ∧ jM w0 F .i32 (es.getD k default).i (es.getD k default).il)
  (hB : ∀ k, k < es.length → EB (es.getD k default).says) (hL : es.length ≤ 16384) :
  gQ prog 173 #[v] w fun v' w' => ∃ fs : List dV, fs.map dV.says = es.map dV.says ∧ V w0 w' (Row 189 3 v' fs.length (fs.flatMap dV.enc) • kK fs • F) := by
 refine iC func173 ntmps173 ?_
 refine jk O (jk O (aO (bT O (Z (iW (hv _ (H)) aV O) (bQ O (iK (aZ ?_)))))))
 refine fC [(6, _), (7, _)] (fun (⟨k, u⟩ : Nat × Value) => [(3, u), (8, .int .i64 (k : Int))]) (fun (⟨k, u⟩ : Nat × Value) W => k ≤ es.length ∧ ∃ fs : List dV, fs.map dV.says = (es.take k).map dV.says ∧ V w0 W (Row 189 3 u fs.length (fs.flatMap dV.enc) • kK fs • F)) (fun (⟨k, u⟩ : Nat × Value) => es.length - k) ((0, .slice none 0 0)) oO oO ⟨by omega, [], O, (H.rD none).ZO⟩ ?_
 rintro ⟨k, u⟩ w1 ⟨hk, fs, hfs, HL⟩
 dsimp only [List.cons_append, List.nil_append]
 refine iy (Z (gZ O O) (pJ (bG O (fun h1 => ?_) (fun h1 => ?_))))
 ·(try simp only [aF] at h1)
  refine fV (aO (aZ (iy ?_)))
  obtain ⟨bv, ov, cv, ev⟩ := Rd.nX (hv _ (HL.right.right)) (by omega)
  cases ev
  refine Z (dw aV dY O O (by omega)) (Z (qL (ys := [_, _, _]) (hv _ (HL.right.right)) (by omega) dF O dY O (sD dV.Dc (by omega) default) O) ?_)
  have hkl : k < es.length := by omega
  obtain ⟨f1, f2⟩ := he k hkl
  obtain ⟨hb1, hb2⟩ := hB k hkl
  have hb1 : (es.getD k default).dl.length ≤ 35184372087808 := hb1
  have hb2 : (es.getD k default).il.length ≤ 35184372087808 := hb2
  have hfl : fs.length = k := by have h9 := congrArg List.length hfs; simp at h9; omega
  refine jy (fM (l := [_, _, _]) HL ig O) ?_
  rintro _ w2 ⟨b2, rfl, H2⟩
  refine aK (bW 0 (l' := [_, _, _]) (us := [_, _, _]) H2 dY O O O (aA (aX (by first | rfl | exact Rd.one (f1 _ (H2.right.right.right))) (aX (by first | rfl | exact Rd.one (f2 _ (H2.right.right.right))) bD))) O O) ?_
  rintro _ w3 H3
  refine iK (aB (bQ O (Z (fD dF O dY O O (H3).get.2) (eG O func179 (uY H3 (fun W HW => f1 _ (HW.right.right.right)) (fun W HW => f2 _ (HW.right.right.right)) (by omega) (by omega)) ?_))))
  rintro _ w4 ⟨d4, s4, rfl, H4⟩
  refine jy (vH H4 aV dY ig O O O (by decide) (by decide)) ?_
  rintro l5 w5 H5
  refine jy (fZ H5.f5 aV zO O O O ((H5).aT) (aA (aX (by first | rfl | exact Rd.one ((H5.f2).aT)) (aX (by first | rfl | exact Rd.one ((H5.f3).aT)) bD))) (by omega) (by omega)) ?_
  rintro l6 w6 H6
  have ZY := H6.f2.right
  refine fU O (bP (aJ (aW (aB (Z (fK O O (by omega)) (bQ O (bP ?_)))))))
  refine dH ((k + 1, l6)) ?_ ?_ ?_ ?_
  ·exact oO
  ·exact oO
  ·(try dsimp only)
   first | done | exact ⟨by omega, _, by rw [List.map_append, hfs, SG (by omega)]; rfl, (V.Df (ZY.f4.right.f4.f2.f4.f4).oL.swap.oL.swap.f3).ZO⟩
  ·(try dsimp only); omega
 ·(try simp only [aF] at h1)
  refine dn (aI (aI (aY (aW (bT O (fF O (dG results173 O ?_)))))))
  rw [List.take_of_length_le (by omega)] at hfs
  exact ⟨_, hfs, HL.f2.f2⟩
theorem V.oM {es : List dV} (H : V w0 w (kK es • F)) {k : Nat} (hk : k < es.length) : eX w .i32 (es.getD k default).d (es.getD k default).dl ∧ eX w .i32 (es.getD k default).i (es.getD k default).il := let ⟨I, h, hI⟩ := H.qF; ⟨(h k hk).1.rd hI, (h k hk).2.rd hI⟩
theorem zT (H : V w0 w (Row 189 3 v es.length (es.flatMap dV.enc) • kK es • F)) (hB : ∀ k, k < es.length → EB (es.getD k default).says) (hL : es.length ≤ 16384) :
    gQ prog 173 #[v] w fun v' w' => ∃ fs : List dV, fs.map dV.says = es.map dV.says ∧ V w0 w' (Row 189 3 v' fs.length (fs.flatMap dV.enc) • kK fs • Row 189 3 v es.length (es.flatMap dV.enc) • kK es • F) :=
  Gt H (fun W HW => HW.aT) (fun k hk => ⟨fun W HW => (HW.right.oM hk).1, fun W HW => (HW.right.oM hk).2⟩) hB hL
theorem xI (H : V w0 w (Bf v es • F)) (hB : ∀ k, k < es.length → EB (es.getD k default).says) (hL : es.length ≤ 16384) :
    gQ prog 173 #[v] w fun v' w' => ∃ fs : List dV, fs.map dV.says = es.map dV.says ∧ V w0 w' (Row 189 3 v' fs.length (fs.flatMap dV.enc) • kK fs • Bf v es • F) :=
  Gt H (fun W HW => HW.uH) (fun k hk => ⟨fun W HW => HW.abz hk, fun W HW => HW.abA hk⟩) hB hL
end
end Go.Proofs.YtpdeedplgmbopaaGreatDoor
end
section
namespace Go.Proofs.YtpdeedplgmbopaaGreatDoor
open Go.RowKit
def aeJ (G : List (List iU)) (N : List iU) : List iU := (mJ G N).flatten.reverse.map Gs
section
variable {w0 w : World} {F : HP} {p : Nat} {G : List (List iU)} {N : List iU} {op : Int} {gv nv v u : Value} {gs : List (Value × List dV)} {now es fs : List dV} {a : Int} {d z : Value} {dl il : List Int}
theorem V.U9 (H : V w0 w (Bf v es • F)) : ∀ x ∈ es.flatMap dV.enc, x.oneCell' = true :=
  V.zN (es := es) (w0 := w0) (w := w) (F := F) (H.DW (oG (fun I h => h.2) F))
theorem V.Fz (H : V w0 w (nO gs • F)) {k : Nat} {gl : Value} {wO : List dV} (hk : k < gs.length) (hg : gs.getD k default = (gl, wO)) : V w0 w (Bf gl wO • nO gs • F) := by
  have := H.MG hk
  rwa [hg] at this
end
end Go.Proofs.YtpdeedplgmbopaaGreatDoor
end
