import Derived.Test.YtnhhmieghbfalaaGreatDoorZ4
import Derived.Test.YtnhhmieghbfalaaGreatDoorZ7
import Derived.Test.YtnhhmieghbfalaaGreatDoorZ5
set_option linter.unusedSimpArgs false
set_option linter.unusedVariables false
/- Texts of mine, joined, their names in short: UList Range UList2 UList3 UList4 UList5. -/
section
namespace Go.Proofs.YtnhhmieghbfalaaGreatDoor
open Go.RowKit
open _root_.Go.Proofs.Tryz
abbrev jH := Int × List Int × List Int
def iH (G : List (List jH)) (N : List jH) : Nat := (G.map List.length).sum + N.length
def EB (e : jH) : Prop := e.2.1.length ≤ 35184372087808 ∧ e.2.2.length ≤ 35184372087808
theorem af7 {N : List jH} {x : jH} (h : ∀ e ∈ N, EB e) (hx : EB x) : ∀ e ∈ N ++ [x], EB e := fun e he => by
  rcases List.mem_append.1 he with he | he
  · exact h e he
  · rw [List.mem_singleton.1 he]; exact hx
theorem Yg {G : List (List jH)} {N : List jH} (h : ∀ g ∈ G, ∀ e ∈ g, EB e) (hx : ∀ e ∈ N, EB e) : ∀ g ∈ G ++ [N], ∀ e ∈ g, EB e := fun g hg => by
  rcases List.mem_append.1 hg with hg | hg
  · exact h g hg
  · rw [List.mem_singleton.1 hg]; exact hx
theorem abC {G : List (List jH)} {N : List jH} (h : ∀ g ∈ G, g ≠ []) (hx : N ≠ []) : ∀ g ∈ G ++ [N], g ≠ [] := fun g hg => by
  rcases List.mem_append.1 hg with hg | hg
  · exact h g hg
  · rw [List.mem_singleton.1 hg]; exact hx
def UOk (G : List (List jH)) (N : List jH) (op : Int) : Prop := (∀ g ∈ G, g ≠ []) ∧ iH G N ≤ 16384 ∧ 0 ≤ op ∧ op ≤ 4611686018427387904 ∧ (∀ g ∈ G, ∀ e ∈ g, EB e) ∧ ∀ e ∈ N, EB e
theorem aan {G : List (List jH)} (h : ∀ g ∈ G, g ≠ []) : G.length ≤ (G.map List.length).sum := by
  induction G with
  | nil => simp
  | cons g G ih =>
    have h1 := ih fun x hx => h x (by simp [hx])
    have h2 : 0 < g.length := List.length_pos_iff.2 (h g (by simp))
    simp; omega
theorem UOk.len {G : List (List jH)} {N : List jH} {op : Int} (h : UOk G N op) : G.length + N.length ≤ 16384 := by
  have := aan h.1
  have := h.2.1
  unfold iH at this
  omega
def lH (p : Nat) (G : List (List jH)) (N : List jH) (op : Int) : HP := BK fun (x : Value × Value × List (Value × List gJ) × List gJ) =>
  fact (UOk G N op ∧ x.2.2.1.map (fun g => g.2.map gJ.says) = G ∧ x.2.2.2.map gJ.says = N) • gU p (.cells #[x.1, x.2.1, .int .i64 op, .int .i64 (iH G N : Nat), .bool true] 177 (0, 0)) • LM x.1 x.2.2.1 • Qv x.2.1 x.2.2.2
section
variable {w0 w : World} {F : HP} {p : Nat} {G : List (List jH)} {N : List jH} {op : Int} {gv nv : Value} {gs : List (Value × List gJ)} {now : List gJ} {a : Int} {d z : Value} {dl il : List Int}
theorem V.Du (H : V w0 w (lH p G N op • F)) : ∃ gv nv gs now, UOk G N op ∧ gs.map (fun g => g.2.map gJ.says) = G ∧ now.map gJ.says = N ∧ gs.length = G.length ∧ now.length = N.length ∧ G.length + N.length ≤ 16384 ∧
    V w0 w (gU p (.cells #[gv, nv, .int .i64 op, .int .i64 (iH G N : Nat), .bool true] 177 (0, 0)) • Row 56 1 gv gs.length (gs.map (·.1)) • vW gs • Row 143 3 nv now.length (now.flatMap gJ.enc) • oK now • F) := by
  obtain ⟨⟨gv, nv, gs, now⟩, H⟩ := H.sS
  obtain ⟨⟨h1, h2, h3⟩, H⟩ := H.flat.fact
  refine ⟨gv, nv, gs, now, h1, h2, h3, ?_, ?_, h1.len, ?_⟩
  · rw [← h2]; simp
  · rw [← h3]; simp
  · have := H.flat
    unfold LM Qv at this
    exact this.of_eq (by ac_rfl)
theorem V.Dv (h1 : UOk G N op) (h2 : gs.map (fun g => g.2.map gJ.says) = G) (h3 : now.map gJ.says = N) {ed : Int} (he : ed = (iH G N : Nat))
    (H : V w0 w (gU p (.cells #[gv, nv, .int .i64 op, .int .i64 ed, .bool true] 177 (0, 0)) • LM gv gs • Qv nv now • F)) : V w0 w (lH p G N op • F) := by
  subst he
  exact V.lK (gv, nv, gs, now) (V.deep (V.qY ⟨h1, h2, h3⟩ (H.of_eq (by ac_rfl))))
theorem V.uj (h1 : UOk G N op) (h2 : gs.map (fun g => g.2.map gJ.says) = G) (h3 : now.map gJ.says = N) {ed : Int} (he : ed = (iH G N : Nat))
    (H : V w0 w (gU p (.cells #[gv, nv, .int .i64 op, .int .i64 ed, .bool true] 177 (0, 0)) • Row 56 1 gv gs.length (gs.map (·.1)) • vW gs • Row 143 3 nv now.length (now.flatMap gJ.enc) • oK now • F)) : V w0 w (lH p G N op • F) :=
  V.Dv h1 h2 h3 he (H.of_eq (by unfold LM Qv; ac_rfl))
theorem pI (H : V w0 w (lH p G N op • F)) : iK prog 146 #[.pointer (some ⟨p, 0, none⟩)] w fun v w' => v = .bool false ∧ w = w' := by
 refine jl func146 ntmps146 ?_
 refine kG O (aI ?_)
 obtain ⟨Il, Ef, qB, qQ, qC, A8, zY, Nh, Nj, RJ, xO⟩ := (H).Du
 refine aF (cO O (aT (oQ underlying127 O O) (nS O (fun h1 => ?_) (fun h1 => ?_))))
 ·(try simp only [aG] at h1)
  exfalso; first | contradiction | omega
 ·(try simp only [aG] at h1)
  refine bJ (cO O (bJ (dM O (bJ (bg 4 dn O aN O (bJ (dQ bn O (xO).get.2 O (bJ (aT (jG O) (kP O O (iJ O (dO results146 O ?_))))))))))))
  exact ⟨O, O⟩
theorem Wp (H : V w0 w F) : iK prog 167 #[] w fun v w' => ∃ p, v = .pointer (some ⟨p, 0, none⟩) ∧ V w0 w' (lH p [] [] 0 • F) := by
  refine ahs func167 ntmps167 ?_
  refine kG O (kQ (aT (kS (pl := #[(0, 4), (4, 1)]) (#[_, _, _, _, _]) dn zeroValue177 (fun w => by kernel_rfl) O (O)) (jT (kZ (l := [_, _, _, _, _]) H O O) ?_)))
  rintro _ w1 ⟨b1, rfl, H1⟩
  refine iJ O (dO results167 O ?_)
  refine ⟨_, O, V.Dv (gv := .slice none 0 0) (nv := .slice none 0 0) (gs := []) (now := []) ⟨by simp, by decide, by decide, by decide, by simp, by simp⟩ O O O ?_⟩
  exact (((H1).zA none).MQ none).of_eq (by ac_rfl)
theorem Nk (H : V w0 w (lH p G N op • F)) : iK prog 142 #[.pointer (some ⟨p, 0, none⟩)] w fun v w' => v = .int .i64 ((G.length : Int) + min 1 N.length) ∧ V w0 w' (lH p G N op • F) := by
 refine jl func142 ntmps142 ?_
 refine kG O (aI (bT O (fH O func146 (pI H) ?_)))
 rintro _ _ ⟨rfl, rfl⟩
 refine iR (yh (gX (aI ?_)))
 obtain ⟨Il, Ef, qB, qQ, qC, A8, zY, Nh, Nj, RJ, xO⟩ := (H).Du
 have Jl := xO.drew
 have jX := V.kp (Jl.f5.f5.f5.f5.f5)
 refine tH [4, 10] jX O (fM 0 O jX O (jF 1 O jX O (eP 2 O jX 0 dn O fD O (eP 3 O jX 0 dI O jr O (iD 4 O jX (fun W hW => jk bP O ((Kp.h hW)).get.2 O) (iE 5 O jX (fun _ => fV ((Jl.f2).aJ) bP O) (fM 6 O jX O (jF 7 O jX O (eP 8 O jX 0 dn O fD O (eP 9 O jX 1 dI O bU O (iD 10 O jX (fun W hW => jk aV O ((Kp.h hW)).get.2 O) (iE 11 O jX (fun _ => fV ((Jl.f4).aJ) aV O) (iE 12 O jX (fun _ => QO O O) (iE 13 O jX (fun _ => gY O O (by omega)) (iE 14 O jX (fun _ => eH O) (oH (aZ (kN (dO results142 O ?_)))))))))))))))))))
 have Rn := Jl.f5.f5.f5.f5.f5
 have O6 := V.uj qC A8 zY rfl Rn
 exact ⟨by rw [Nh, Nj]; congr 1; omega, O6⟩
theorem RN (H : V w0 w (lH p G N op • F)) : iK prog 138 #[.pointer (some ⟨p, 0, none⟩)] w fun v w' => v = .int .i64 (iH G N : Nat) ∧ V w0 w' (lH p G N op • F) := by
 refine jl func138 ntmps138 ?_
 refine kG O (aI (bT O (fH O func146 (pI H) ?_)))
 rintro _ _ ⟨rfl, rfl⟩
 refine iR (yh (gX (aI ?_)))
 obtain ⟨Il, Ef, qB, qQ, qC, A8, zY, Nh, Nj, RJ, xO⟩ := (H).Du
 refine aF (kY O O (bg 0 dn O fD O (bg 3 dI O ah O (dQ ay O (xO).get.2 O (iJ O (dO results138 O ?_))))))
 have Rn := xO.f5.f5.f5.f5.f5
 have O6 := V.uj qC A8 zY rfl Rn
 exact ⟨O, O6⟩
theorem ER (H : V w0 w (lH p G N op • F)) (hb : op < 4611686018427387904) : iK prog 115 #[.pointer (some ⟨p, 0, none⟩)] w fun v w' => v = .int .i64 0 ∧ V w0 w' (lH p G N (op + 1) • F) := by
 have hop : 0 ≤ op := by obtain ⟨gv, nv, gs, now, k1, _⟩ := H.Du; exact k1.2.2.1
 refine jl func115 ntmps115 ?_
 refine kG O (aI (bT O (fH O func146 (pI H) ?_)))
 rintro _ _ ⟨rfl, rfl⟩
 refine iR (yh (gX (aI ?_)))
 obtain ⟨Il, Ef, qB, qQ, qC, A8, zY, Nh, Nj, RJ, xO⟩ := (H).Du
 refine aF (kY O O (bg 0 dn O fD O (bg 2 dI O ah O (dQ ay O (xO).get.2 O (aT (gY O O (by omega)) (dM O (bg 0 dn O fD O (bg 2 dI O ah O (aH (st5 2 xO ah) ?_)))))))))
 rintro _ w3 H3
 refine iR (jE O (dO results115 O ?_))
 exact ⟨O, V.uj ⟨qC.1, qC.2.1, by omega, by omega, qC.2.2.2.2⟩ A8 zY O H3.f5.f5.f5.f5.f5⟩
def DT (G : List (List jH)) (N : List jH) (a : Int) (dl il : List Int) : Int := if dl.length + il.length = 0 ∨ a < 0 then 1 else if 16384 ≤ iH G N then 3 else 0
def aao (G : List (List jH)) (N : List jH) (op a : Int) (dl il : List Int) : List (List jH) := if DT G N a dl il = 0 then (if 0 < op then G else G ++ [[(a, dl, il)]]) else G
def aap (G : List (List jH)) (N : List jH) (op a : Int) (dl il : List Int) : List jH := if DT G N a dl il = 0 then (if 0 < op then N ++ [(a, dl, il)] else N) else N
theorem Wq {x : jH} : iH G (N ++ [x]) = iH G N + 1 := by simp [iH]; omega
theorem Yh {x : jH} : iH (G ++ [[x]]) N = iH G N + 1 := by simp [iH]; omega
theorem RP (h : DT G N a dl il ≠ 0) : aao G N op a dl il = G := by unfold aao; rw [if_neg h]
theorem RQ (h : DT G N a dl il ≠ 0) : aap G N op a dl il = N := by unfold aap; rw [if_neg h]
theorem Qy (h : DT G N a dl il = 0) (ho : 0 < op) : aao G N op a dl il = G := by unfold aao; rw [if_pos h, if_pos ho]
theorem Qz (h : DT G N a dl il = 0) (ho : 0 < op) : aap G N op a dl il = N ++ [(a, dl, il)] := by unfold aap; rw [if_pos h, if_pos ho]
theorem adZ (h : DT G N a dl il = 0) (ho : ¬ 0 < op) : aao G N op a dl il = G ++ [[(a, dl, il)]] := by unfold aao; rw [if_pos h, if_neg ho]
theorem ad0 (h : DT G N a dl il = 0) (ho : ¬ 0 < op) : aap G N op a dl il = N := by unfold aap; rw [if_pos h, if_neg ho]
theorem Io (H : V w0 w (lH p G N op • F)) (hd : jZ w0 F .i32 d dl) (hi : jZ w0 F .i32 z il) (b2 : dl.length ≤ 35184372087808) (b3 : il.length ≤ 35184372087808) :
  iK prog 116 #[.pointer (some ⟨p, 0, none⟩), edV a d z] w fun v w' => v = .int .i64 (DT G N a dl il) ∧ V w0 w' (lH p (aao G N op a dl il) (aap G N op a dl il) op • F) := by
 refine nO func116 ntmps116 ?_
 refine kQ (jT (kZ (l := [_, _, _]) H O O) ?_)
 rintro _ w1 ⟨b1, rfl, H1⟩
 refine vI O (bT O (fH O func146 (pI H1.f2) ?_))
 rintro _ _ ⟨rfl, rfl⟩
 refine iR (yh (gX (aI (kQ (bg 1 aQ O bI O (dQ aB O (H1).get.2 O (aT (kT (hd _ (H1.right.right)) aB O) (bg 2 aQ O bI O (dQ aB O (H1).get.2 O (aT (kT (hi _ (H1.right.right)) aB O) (aT (gY O O (by omega)) (aT (fA O O) (nS O (fun h1 => ?_) (fun h1 => ?_))))))))))))))
 ·(try simp only [aG] at h1)
  refine dB (dB (dB (mQ O O (iR (DZ (jE O (aC (dO results116 O ?_))))))))
  have e : DT G N a dl il = 1 := by unfold DT; rw [if_pos (by omega)]
  rw [RP (by rw [e]; decide), RQ (by rw [e]; decide), e]
  exact ⟨O, H1.right⟩
 ·(try simp only [aG] at h1)
  refine bJ (bg 0 aQ O ah O (bJ (dQ ay O (H1).get.2 O (bJ (aT (fJ O O) (kP O O (jo O (fun h2 => ?_) (fun h2 => ?_))))))))
  ·(try simp only [aG] at h2)
   refine jE O (aC (dO results116 O ?_))
   have e : DT G N a dl il = 1 := by unfold DT; rw [if_pos (by omega)]
   rw [RP (by rw [e]; decide), RQ (by rw [e]; decide), e]
   exact ⟨O, H1.right⟩
  ·(try simp only [aG] at h2)
   refine gX (aI (aI ?_))
   obtain ⟨Il, Ef, qB, qQ, qC, A8, zY, Nh, Nj, RJ, xO⟩ := (H1.f2).Du
   refine aF (kY O O (bg 0 dn O fD O (bg 3 dI O ah O (dQ ay O (xO).get.2 O (aT (vT O O) (jo O (fun h3 => ?_) (fun h3 => ?_)))))))
   ·(try simp only [aG] at h3)
    refine jE O (aC (dO results116 O ?_))
    have e : DT G N a dl il = 3 := by unfold DT; rw [if_neg (by omega), if_pos (by omega)]
    have Ho5 := xO.f5.f5.f5.f5.f5
    have Hc6 := V.uj qC A8 zY rfl Ho5
    rw [RP (by rw [e]; decide), RQ (by rw [e]; decide), e]
    exact ⟨O, Hc6.f2.right⟩
   ·(try simp only [aG] at h3)
    refine gX (bT O (dM O (bg 0 dn O fD O (bg 3 dI O ah O (dQ ay O (xO).get.2 O (aT (gY O O (by omega)) (dM O (bg 0 dn O fD O (bg 3 dI O ah O (aH (st5 3 xO ah) ?_))))))))))
    rintro _ w7 H7
    refine uV (bT O (dM O (bg 0 dn O fD O (bg 2 dI O ah O (dQ ay O (H7).get.2 O (aT (fZ O O) (jo O (fun h4 => ?_) (fun h4 => ?_))))))))
    ·(try simp only [aG] at h4)
     have Yi := H7.drew
     have tN := V.kp (Yi.f6.f6.f6.f6.f6.f6)
     refine tH [5, 6] tN O (fM 0 O tN O (fM 1 O tN O (jF 2 O tN O (eP 3 O tN 0 dn O fD O (eP 4 O tN 1 dI O bU O (iD 5 O tN (fun W hW => jk aV O ((Kp.h hW)).get.2 O) (iD 6 O tN (fun W hW => dU aQ O bM O O ((Kp.h hW).f6).get.2) (lC 7 O (qW O func172 (Ec Yi (fun W HW => hd _ (HW.right.right.right.right.right.right)) (fun W HW => hi _ (HW.right.right.right.right.right.right)) (by omega) (by omega))) ?_))))))))
     rintro _ w8 ⟨d8, s8, rfl, H8⟩
     have Ip := V.kp (H8.f8.f8.f8.f8.f8.f8.f8.f8)
     refine dZ Ip (fun W hW => (Kp.h hW).right.right.f6.f6.f6.f6.f6.f6) ?_
     refine lC 8 O (qL H8 aV bM cZ O O O (by decide) (by decide)) ?_
     rintro l9 w9 H9
     have Dw := V.kp (H9.f9.f9.f9.f9.f9.f9.f9.f9.f9)
     refine dZ Dw (fun W hW => (Kp.h hW).right.f8.f8.f8.f8.f8.f8.f8.f8) ?_
     refine lC 9 O (gK H9.f7 aV Ap O O O ((H9).aJ) (aP (bD (by first | rfl | exact Rd.one ((H9.f2).aJ)) (bD (by first | rfl | exact Rd.one ((H9.f3).aJ)) bW))) (by omega) (by omega)) ?_
     rintro l10 w10 rU
     have ad1 := rU.f2.right
     have D5 := V.kp (ad1.f8.f8.f8.f8.f8.f8.f8.f8)
     refine dX D5 (by kernel_rfl) ?_
     refine jF 10 O D5 O (eP 11 O D5 0 dn O fD O (eP 12 O D5 1 dI O bU O ?_))
     refine gW 13 O (by kernel_rfl) (iw 1 (l' := [_, _, _, _, _]) ad1.f4 bU O O (by first | rfl | exact Rd.one ((ad1).aJ)) O O) ?_
     rintro _ w12 uP
     have D6 := V.kp (uP.f8.f8.f8.f8.f8.f8.f8.f8)
     refine dX D6 (by kernel_rfl) ?_
     have hadd : 0 < op := by omega
     refine oH (aZ (jE O (dO results116 O ?_)))
     have e : DT G N a dl il = 0 := by unfold DT; rw [if_neg (by omega), if_neg (by omega)]
     rw [Qy e hadd, Qz e hadd, e]
     have X := (uP.f8.right.f6.f6.f3.f7.f5.f7.f7).mM.swap.mM.swap
     have X2 := V.zW X.f3
     refine ⟨O, V.Dv (gv := Il) (nv := l10) (gs := qB) (now := qQ ++ [⟨a, d8, dl, s8, il⟩]) (ed := (iH G N : Nat) + 1) ⟨qC.1, by rw [Wq]; omega, qC.2.2.1, qC.2.2.2.1, qC.2.2.2.2.1, af7 qC.2.2.2.2.2 ⟨b2, b3⟩⟩ A8 (by rw [List.map_append, zY]; rfl) (by rw [Wq]; rfl) (X2.of_eq (by unfold LM; ac_rfl))⟩
    ·(try simp only [aG] at h4)
     have ad2 := H7.drew
     have FM := V.kp (ad2.f6.f6.f6.f6.f6.f6)
     refine tH [5, 6] FM O (fM 0 O FM O (fM 1 O FM O (jF 2 O FM O (eP 3 O FM 0 dn O fD O (eP 4 O FM 0 dI O jr O (iD 5 O FM (fun W hW => jk bP O ((Kp.h hW)).get.2 O) (iD 6 O FM (fun W hW => dU aQ O bM O O ((Kp.h hW).f6).get.2) (lC 7 O (qW O func172 (Ec ad2 (fun W HW => hd _ (HW.right.right.right.right.right.right)) (fun W HW => hi _ (HW.right.right.right.right.right.right)) (by omega) (by omega))) ?_))))))))
     rintro _ P7 ⟨d13, s13, rfl, AZ⟩
     have BQ := V.kp (AZ.f8.f8.f8.f8.f8.f8.f8.f8)
     refine dZ BQ (fun W hW => (Kp.h hW).right.right.f6.f6.f6.f6.f6.f6) ?_
     refine lC 8 O (qL AZ aV bM cZ O O O (by decide) (by decide)) ?_
     rintro l14 O9 BJ
     have JD := V.kp (BJ.f9.f9.f9.f9.f9.f9.f9.f9.f9)
     refine dZ JD (fun W hW => (Kp.h hW).right.f8.f8.f8.f8.f8.f8.f8.f8) ?_
     refine lC 9 O (mX (vs := [_]) BJ bP bU sV O O O (by decide) (bD (by first | rfl | exact Rd.one ((BJ).aJ)) bW)) ?_
     rintro l15 Ry CJ
     have Jf := V.kp (CJ.f10.f10.f10.f10.f10.f10.f10.f10.f10.f10)
     refine dZ Jf (fun W hW => (Kp.h hW).right.f9.f9.f9.f9.f9.f9.f9.f9.f9) ?_
     refine lC 10 O (gK CJ.f6 bP Pg O O O ((CJ).aJ) (bD (by first | rfl | exact Rd.one ((CJ.f2).aJ)) bW) (by omega) (by omega)) ?_
     rintro l16 w16 yG
     have aaq := yG.f2.right
     have BR := V.kp (aaq.f9.f9.f9.f9.f9.f9.f9.f9.f9)
     refine dX BR (by kernel_rfl) ?_
     refine jF 11 O BR O (eP 12 O BR 0 dn O fD O (eP 13 O BR 0 dI O jr O ?_))
     refine gW 14 O (by kernel_rfl) (iw 0 (l' := [_, _, _, _, _]) aaq.f5 jr O O (by first | rfl | exact Rd.one ((aaq).aJ)) O O) ?_
     rintro _ U5 DN
     have Bz := V.kp (DN.f9.f9.f9.f9.f9.f9.f9.f9.f9)
     refine dX Bz (by kernel_rfl) ?_
     have hadd : ¬ 0 < op := by omega
     refine oH (aZ (jE O (dO results116 O ?_)))
     have e : DT G N a dl il = 0 := by unfold DT; rw [if_neg (by omega), if_neg (by omega)]
     rw [adZ e hadd, ad0 e hadd, e]
     have X := (DN.f9.right.f8.f8.f3.f8.f5.f6.f8.f8).mM.swap.mM.swap
     have X2 := V.zW (es := []) X.JA.f3.f3.f4
     have X4 := V.Az X2.yE.swap
     refine ⟨O, V.Dv (gv := l16) (nv := Ef) (gs := qB ++ [(l14, [⟨a, d13, dl, s13, il⟩])]) (now := qQ) (ed := (iH G N : Nat) + 1) ⟨abC qC.1 (List.cons_ne_nil _ _), by rw [Yh]; omega, qC.2.2.1, qC.2.2.2.1, Yg qC.2.2.2.2.1 (by intro e he; rw [List.mem_singleton.1 he]; exact ⟨b2, b3⟩), qC.2.2.2.2.2⟩ (by rw [List.map_append, A8]; rfl) zY (by rw [Yh]; rfl) (X4.of_eq (by unfold Qv; ac_rfl))⟩
end
end Go.Proofs.YtnhhmieghbfalaaGreatDoor
end
section
namespace Go.Proofs.YtnhhmieghbfalaaGreatDoor
open Go.RowKit
def Ws (P : Program) (l : Nat) (vs : List Value) (w : World) (T : Value → World → Prop) : Prop :=
  ∃ f tmps c d, (Instr.yield l vs.toArray).run P w = .ok (.round l f tmps c d) w ∧ RoundIn Fence.wide 0 P l f tmps c d w fun e w' => ∃ v, e = .returned v ∧ T v w'
theorem Ws.mono {P : Program} {l : Nat} {vs : List Value} {w : World} {T T' : Value → World → Prop} (h : Ws P l vs w T) (k : ∀ v w', T v w' → T' v w') : Ws P l vs w T' :=
  let ⟨f, tmps, c, d, h1, h2⟩ := h; ⟨f, tmps, c, d, h1, RoundIn.mono h2 fun _ _ ⟨v, e, t⟩ => ⟨v, e, k _ _ t⟩⟩
theorem Ws.bool {P : Program} {l : Nat} {vs : List Value} {w : World} {A B : World → Prop} (h : Ws P l vs w fun v W' => (v = .bool true ∧ A W') ∨ (v = .bool false ∧ B W')) : Ws P l vs w fun v W' => ∃ t, v = .bool t ∧ (t = true → A W') ∧ (t = false → B W') :=
  h.mono fun v W' hv => by
    rcases hv with ⟨rfl, h⟩ | ⟨rfl, h⟩
    · exact ⟨true, rfl, fun _ => h, fun e => by cases e⟩
    · exact ⟨false, rfl, (fun e => by cases e), fun _ => h⟩
theorem Wu {P : Program} {L : List (Nat × Value)} {w : World} {ty : TypeId} {x : Operand} {args : List Operand} {ts : Array TypeId} {l : Nat} {vs : List Value} {T : Value → World → Prop} (hx : ev L x = some (.func (.yield l) #[] #[])) (ha : MG L args = some vs) (h : Ws P l vs w T) :
    Dj P L (.call ⟨.value x, args.toArray, ts⟩) ty w T := by
  obtain ⟨f, tmps, c, d, hy, hr⟩ := h
  refine afM (fun ρ hρ dd pos xw g => ?_) hr
  have hg := hρ _ _ hx
  simp [execOp, resolve, invoke, evs hρ _ _ ha, hg, Deferred.ofValue, hy]
def Iter (P : Program) (w0 : World) (fv : Value) (R : HP) (n : Nat) (E : Nat → List Value → HP → Prop) : Prop :=
  ∀ (l : Nat) (J : Nat → HP) (X : HP) (w : World),
    (∀ k, k < n → ∀ vs A, E k vs A → ∀ G W, V w0 W (A • J k • G) → Ws P l vs W fun v W' => (v = .bool true ∧ V w0 W' (J (k + 1) • G)) ∨ (v = .bool false ∧ V w0 W' (X • G))) →
    V w0 w (J 0 • R) → abt P fv [.func (.yield l) #[] #[]] w fun _ W' => V w0 W' (J n • R) ∨ V w0 W' (X • R)
def Yj (w0 : World) (I : HP) (Xr : HP) (Xe : Nat → HP) (G : HP) : Exit → Act → World → Prop
  | .normal, _, W => V w0 W (I • G)
  | .ret, _, W => V w0 W (Xr • G)
  | .exit id, _, W => V w0 W (Xe id • G)
  | _, _, _ => False
def abD (P : Program) (N : Sh) (w0 : World) (body : Code) (I : HP) (Xr : HP) (Xe : Nat → HP) (G : HP) (a : Act) (W : World) : Prop :=
  ∃ (L : List (Nat × Value)) (B : HP), Fits N L a ∧ V w0 W (B • G) ∧ ∀ G' W', V w0 W' (B • G') → WC P N body (Yj w0 I Xr Xe G') L W'
def ad3 : Exit → Act → World → Prop := fun _ _ _ => False
theorem aar {P : Program} {N : Sh} {w0 w : World} {body : Code} {I Xr : HP} {Xe : Nat → HP} {G B : HP} {L : List (Nat × Value)} (H : V w0 w (B • G)) (h : ∀ G' W', V w0 W' (B • G') → WC P N body (Yj w0 I Xr Xe G') L W') :
    WQ N (Exit.then (abD P N w0 body I Xr Xe G) ad3) .normal L w := fun _ a ha => ⟨L, B, ha, H, h⟩
theorem RU {N : Sh} {w0 w : World} {I Xr : HP} {Xe : Nat → HP} {G : HP} {L : List (Nat × Value)} (H : V w0 w (I • G)) : WQ N (Yj w0 I Xr Xe G) .normal L w := fun _ _ _ => H
theorem ad4 {N : Sh} {w0 w : World} {I Xr : HP} {Xe : Nat → HP} {G : HP} {id : Nat} {L : List (Nat × Value)} (H : V w0 w (Xe id • G)) : WQ N (Yj w0 I Xr Xe G) (.exit id) L w := fun _ _ _ => H
theorem ad5 {w0 : World} {I Xr : HP} {Xe : Nat → HP} {G : HP} : NP (Yj w0 I Xr Xe G) := fun _ _ _ h => h
def aas : List Nat → List Value → List (Nat × Value) → List (Nat × Value)
  | [], _, L => L
  | _ :: _, [], L => L
  | p :: ps, v :: vs, L => aas ps vs ((p, v) :: L)
theorem Yk {n l : Nat} : ∀ (ps : List Nat) (vs : List Value) (L : List (Nat × Value)) (tmps : Array Value), (∀ p ∈ ps, p < n) → Fits ⟨n, [], some l⟩ L { tmps := tmps, defers := [] } →
    Fits ⟨n, [], some l⟩ (aas ps vs L) { tmps := (ps.zip vs).foldl (fun t (p : Nat × Value) => t.setIfInBounds p.1 p.2) tmps, defers := [] }
  | [], _, _, _, _, h => h
  | _ :: _, [], _, _, _, h => h
  | p :: ps, v :: vs, L, tmps, hp, h => Yk ps vs _ _ (fun q hq => hp q (by simp [hq])) (h.put (hp p (by simp)) v)
section
variable {P : Program} {N : Sh} {Q : Exit → Act → World → Prop} {L : List (Nat × Value)} {w0 w : World}
theorem Iq {g : Operand} {ps : List Nat} {assign body : Code} {fv : Value} {R : HP} {n : Nat} {E : Nat → List Value → HP → Prop} (hg : ev L g = some fv) (hit : Iter P w0 fv R n E) (I : Nat → HP) (Xr : HP) (Xe : Nat → HP) (H : V w0 w (I 0 • R))
    (hps : ps.all (· < N.n) = true)
    (hbody : ∀ l k, k < n → ∀ vs A, E k vs A → ∀ G W, V w0 W (A • I k • G) → vs.length = ps.length ∧ WC P ⟨N.n, [], some l⟩ assign (Exit.then (abD P ⟨N.n, [], some l⟩ w0 body (I (k + 1)) Xr Xe G) ad3) (aas ps vs L) W)
    (hdone : ∀ D W, V w0 W (gU D (.deferred (some [])) • I n • R) → WQ ⟨N.n, D :: N.ds, none⟩ Q .normal L W)
    (hret : ∀ D W, V w0 W (gU D (.deferred (some [])) • Xr • R) → WQ ⟨N.n, D :: N.ds, none⟩ Q .ret L W)
    (ajg : ∀ id D W, V w0 W (gU D (.deferred (some [])) • Xe id • R) → WQ ⟨N.n, D :: N.ds, none⟩ Q (.exit id) L W)
    (hro : N.ro = none := by rfl) : WC P N (.rangeFunc g ps.toArray assign body) Q L w := fun np a ha => by
  rw [hro]
  refine wpIn_rangeFunc fun fn _ => ?_
  let BN : LoopState → Option Code → Loop := fun s j => { state := s, pending := j, fn, tmps := a.tmps, params := ps.toArray, assign, body, defers := w.heap.size }
  have aku := run_enterLoop_outer (P := P) (w := w) fn a.tmps ps.toArray assign body
  have H1 : V w0 ((w.alloc (.deferred (some []))).alloc (.loop (BN .ready none))) (gU (w.heap.size + 1) (.loop (BN .ready none)) • gU w.heap.size (.deferred (some [])) • I 0 • R) := by
    have := (H.alloc (.deferred (some []))).alloc (.loop (BN .ready none))
    rw [World.size_alloc] at this
    exact this
  let Lk : LoopState → Option Code → HP := fun s j => gU (w.heap.size + 1) (.loop (BN s j)) • gU w.heap.size (.deferred (some []))
  have ahC : ∀ k, k < n → ∀ vs A, E k vs A → ∀ G W, V w0 W (A • (Lk .ready none • I k) • G) → Ws P (w.heap.size + 1) vs W fun v W' => (v = .bool true ∧ V w0 W' ((Lk .ready none • I (k + 1)) • G)) ∨
      (v = .bool false ∧ V w0 W' (BK (fun c : Code => Lk .done (some c) • (match c with | .ret => Xr | .exit id => Xe id | _ => fact False)) • G)) := by
    intro k hk vs A hE G W HW
    have e1 : (A • (Lk .ready none • I k) • G) = (gU (w.heap.size + 1) (.loop (BN .ready none)) • A • I k • gU w.heap.size (.deferred (some [])) • G) := by
      show (A • ((gU (w.heap.size + 1) (.loop (BN .ready none)) • gU w.heap.size (.deferred (some []))) • I k) • G) = _
      ac_rfl
    have HW1 := HW.of_eq e1
    have hl := HW1.get.2
    have hlen := (hbody (w.heap.size + 1) k hk vs A hE _ W (HW1.of_eq (show _ = (A • I k • gU (w.heap.size + 1) (.loop (BN .ready none)) • gU w.heap.size (.deferred (some [])) • G) by ac_rfl))).1
    refine ⟨fn, _, assign, body, run_yield hl (by rw [List.size_toArray, hlen]; exact List.size_toArray.symm), ?_⟩
    have hfit : Fits ⟨N.n, [], some (w.heap.size + 1)⟩ (aas ps vs L) { tmps := (ps.toArray.zip vs.toArray).foldl (fun tmps (t, a) => tmps.setIfInBounds t a) a.tmps, defers := [] } := by
      have := Yk (n := N.n) (l := w.heap.size + 1) ps vs L a.tmps (fun p hp => by simpa using List.all_eq_true.1 hps p hp) ⟨ha.size, rfl, ha.at_⟩
      simpa using this
    refine roundIn_of_wpIn trivial ?_
    have HW2 : V w0 W (A • I k • gU (w.heap.size + 1) (.loop (BN .ready none)) • gU w.heap.size (.deferred (some [])) • G) := HW1.of_eq (by ac_rfl)
    have hb := (hbody (w.heap.size + 1) k hk vs A hE _ W HW2).2 (fun c a w h => h) _ hfit
    refine wpIn_mono hb ?_
    rintro e a1 W1 hq
    cases e with
    | exit id => exact hq.elim
    | goto l => exact hq.elim
    | ret => exact hq.elim
    | panic c => exact hq.elim
    | outgrown => exact hq.elim
    | normal =>
      obtain ⟨L1, B, hf1, HB, hgo⟩ := hq
      have HB1 : V w0 W1 (gU (w.heap.size + 1) (.loop (BN .ready none)) • B • gU w.heap.size (.deferred (some [])) • G) := HB.of_eq (by ac_rfl)
      have hl1 := HB1.get.2
      refine ⟨_, run_beginRound hl1 rfl, ?_⟩
      have HB2 : V w0 (W1.putObj (w.heap.size + 1) (.loop (BN .busy none))) (gU (w.heap.size + 1) (.loop (BN .busy none)) • B • gU w.heap.size (.deferred (some [])) • G) := HB1.turn rfl rfl rfl (by simp) (World.putObj_heap_same HB1.lt) fun k hk _ => World.putObj_heap_other hk
      have hbd := hgo (gU (w.heap.size + 1) (.loop (BN .busy none)) • gU w.heap.size (.deferred (some [])) • G) _ (HB2.of_eq (by ac_rfl)) ad5 a1 hf1
      refine wpIn_mono hbd ?_
      have fin : ∀ (j : Option Code) (W3 : World) (A3 : HP), V w0 W3 (A3 • gU (w.heap.size + 1) (.loop (BN .busy none)) • gU w.heap.size (.deferred (some [])) • G) →
          (Instr.endRound (w.heap.size + 1) j).run P W3 = .ok (.bool j.isNone) (W3.putObj (w.heap.size + 1) (.loop (BN (if j.isNone then .ready else .done) j))) ∧
          V w0 (W3.putObj (w.heap.size + 1) (.loop (BN (if j.isNone then .ready else .done) j))) ((Lk (if j.isNone then .ready else .done) j • A3) • G) := by
        intro j W3 A3 H3
        have H4 := H3.swap
        refine ⟨run_endRound j H4.get.2, ?_⟩
        have H5 : V w0 (W3.putObj (w.heap.size + 1) (.loop (BN (if j.isNone then .ready else .done) j))) (gU (w.heap.size + 1) (.loop (BN (if j.isNone then .ready else .done) j)) • A3 • gU w.heap.size (.deferred (some [])) • G) := H4.turn rfl rfl rfl (by simp) (World.putObj_heap_same H4.lt) fun k hk _ => World.putObj_heap_other hk
        refine H5.of_eq ?_
        show _ = (((gU (w.heap.size + 1) (.loop (BN (if j.isNone then .ready else .done) j)) • gU w.heap.size (.deferred (some []))) • A3) • G)
        ac_rfl
      rintro e a3 W3 hp
      cases e with
      | normal => obtain ⟨h1, h2⟩ := fin none W3 _ hp; exact ⟨_, _, h1, _, rfl, .inl ⟨rfl, h2⟩⟩
      | ret => obtain ⟨h1, h2⟩ := fin (some .ret) W3 _ hp; exact ⟨_, _, h1, _, rfl, .inr ⟨rfl, V.lK .ret h2⟩⟩
      | exit id => obtain ⟨h1, h2⟩ := fin (some (.exit id)) W3 _ hp; exact ⟨_, _, h1, _, rfl, .inr ⟨rfl, V.lK (.exit id) h2⟩⟩
      | goto l => exact hp.elim
      | panic c => exact hp.elim
      | outgrown => exact hp.elim
  have hcall := hit (w.heap.size + 1) (fun k => Lk .ready none • I k) _ _ ahC (H1.of_eq (by
    show _ = (((gU (w.heap.size + 1) (.loop (BN .ready none)) • gU w.heap.size (.deferred (some []))) • I 0) • R)
    ac_rfl))
  obtain ⟨f, first, cap, fn', c, rfl, hf, hn, hb, ajh⟩ := hcall
  refine ⟨w.heap.size + 1, _, _, { target := .fn (.func f) cap.toArray, args := (first ++ [Value.func (.yield (w.heap.size + 1)) #[] #[]]).toArray }, (w.alloc (.deferred (some []))).alloc (.loop (BN .ready none)), f, _, (w.alloc (.deferred (some []))).alloc (.loop (BN .ready none)), aku, ?_, fun _ _ => trivial, ?_, (fun h => by cases h), adq.2 (Calls.mono ajh ?_)⟩
  · have he := ha.ev hg
    have he2 : a.eval (.const (.func (.yield (w.heap.size + 1)) #[] #[])) = .func (.yield (w.heap.size + 1)) #[] #[] := rfl
    simp [resolve, rangeCall, he, he2, Deferred.ofValue, BN]
  · simp [invoke, callFunc, hf, hb]
    simpa using hn
  · rintro e W2 ⟨v, rfl, hv⟩
    have fin : ∀ (s : LoopState) (j : Option Code) (A : HP), s ≠ .busy → V w0 W2 ((Lk s j • A) • R) → (Instr.endLoop (w.heap.size + 1)).run P W2 = .ok j (W2.putObj (w.heap.size + 1) (.loop (BN .exhausted j))) ∧
        V w0 (W2.putObj (w.heap.size + 1) (.loop (BN .exhausted j))) (gU w.heap.size (.deferred (some [])) • A • R) := by
      intro s j A hs H3
      have H4 : V w0 W2 (gU (w.heap.size + 1) (.loop (BN s j)) • gU w.heap.size (.deferred (some [])) • A • R) := H3.of_eq (by
        show (((gU (w.heap.size + 1) (.loop (BN s j)) • gU w.heap.size (.deferred (some []))) • A) • R) = _
        ac_rfl)
      refine ⟨run_endLoop H4.get.2 hs, ?_⟩
      have H5 : V w0 (W2.putObj (w.heap.size + 1) (.loop (BN .exhausted j))) (gU (w.heap.size + 1) (.loop (BN .exhausted j)) • gU w.heap.size (.deferred (some [])) • A • R) := H4.turn rfl rfl rfl (by simp) (World.putObj_heap_same H4.lt) fun k hk _ => World.putObj_heap_other hk
      exact H5.right
    have hfit : Fits ⟨N.n, w.heap.size :: N.ds, none⟩ L { a with defers := [{ target := .collected w.heap.size, args := #[] }] ++ a.defers } := ⟨ha.size, by simp [ha.defers, adp], ha.at_⟩
    rcases hv with hv | hv
    · obtain ⟨h1, h2⟩ := fin _ _ _ (by decide) hv
      exact ⟨none, _, h1, hdone _ _ h2 np _ hfit⟩
    · obtain ⟨c, hv⟩ := hv.sS
      obtain ⟨h1, h2⟩ := fin _ _ _ (by decide) hv
      cases c with
      | ret => exact ⟨some .ret, _, h1, wpIn_ret (hret _ _ h2 np _ hfit)⟩
      | exit id => exact ⟨some (.exit id), _, h1, wpIn_exit (ajg id _ _ h2 np _ hfit)⟩
      | _ => exact absurd h2.swap.fact.1 id
end
end Go.Proofs.YtnhhmieghbfalaaGreatDoor
end
section
namespace Go.Proofs.YtnhhmieghbfalaaGreatDoor
open Go.RowKit
open _root_.Go.Proofs.Tryz
def rF (G : List (List jH)) (N : List jH) : List (List jH) := if N = [] then G else G ++ [N]
theorem aat {G : List (List jH)} {N : List jH} (h : N = []) : rF G N = G := by unfold rF; rw [if_pos h]
theorem AA {G : List (List jH)} {N : List jH} (h : N ≠ []) : rF G N = G ++ [N] := by unfold rF; rw [if_neg h]
theorem RY {G : List (List jH)} {N : List jH} : iH (rF G N) [] = iH G N := by
  unfold rF; split
  · rename_i h; rw [h]
  · simp [iH]
section
variable {w0 w : World} {F : HP} {p : Nat} {G : List (List jH)} {N : List jH} {op : Int} {gv nv v : Value} {gs : List (Value × List gJ)} {now es : List gJ} {a : Int} {d z : Value} {dl il : List Int}
theorem ES (H : V w0 w (lH p G N op • F)) : iK prog 170 #[.pointer (some ⟨p, 0, none⟩)] w fun _ w' => V w0 w' (lH p (rF G N) [] 0 • F) := by
 refine jl func170 ntmps170 ?_
 refine aI (aI ?_)
 obtain ⟨Il, Ef, qB, qQ, qC, A8, zY, Nh, Nj, RJ, xO⟩ := (H).Du
 refine aF (kY O O (bg 0 dn O fD O (bg 1 dI O bU O (dQ aV O (xO).get.2 O (aT (fV ((xO.f4).aJ) aV O) (aT (fZ O O) (jo O (fun h1 => ?_) (fun h1 => ?_))))))))
 ·(try simp only [aG] at h1)
  have aji : 0 < qQ.length := by omega
  have aae := xO.drew
  have yu := V.kp (aae.f5.f5.f5.f5.f5)
  refine tH [5, 10] yu O (fM 0 O yu O (fM 1 O yu O (jF 2 O yu O (eP 3 O yu 0 dn O fD O (eP 4 O yu 0 dI O jr O (iD 5 O yu (fun W hW => jk bP O ((Kp.h hW)).get.2 O) (fM 6 O yu O (jF 7 O yu O (eP 8 O yu 0 dn O fD O (eP 9 O yu 1 dI O bU O (iD 10 O yu (fun W hW => jk aV O ((Kp.h hW)).get.2 O) (lC 11 O (mX (vs := [_]) aae bP bU sV O O O (by decide) (bD (by first | rfl | exact Rd.one ((aae.f4).aJ)) bW)) ?_))))))))))))
  rintro l2 w2 H2
  have Bq := V.kp (H2.f6.f6.f6.f6.f6.f6)
  refine dZ Bq (fun W hW => (Kp.h hW).right.f5.f5.f5.f5.f5) ?_
  refine lC 12 O (gK H2.f3 bP Pg O O O ((H2).aJ) (bD (by first | rfl | exact Rd.one ((H2.f5).aJ)) bW) (by omega) (by omega)) ?_
  rintro l3 w3 H3
  have Hd4 := H3.f2.right
  have ng := V.kp (Hd4.f5.f5.f5.f5.f5)
  refine dX ng (by kernel_rfl) ?_
  refine jF 13 O ng O (eP 14 O ng 0 dn O fD O (eP 15 O ng 0 dI O jr O ?_))
  refine gW 16 O (by kernel_rfl) (iw 0 (l' := [_, _, _, _, _]) Hd4.f2 jr O O (by first | rfl | exact Rd.one ((Hd4).aJ)) O O) ?_
  rintro _ w5 H5
  have zQ := V.kp (H5.f5.f5.f5.f5.f5)
  refine dX zQ (by kernel_rfl) ?_
  refine oH (aZ (aF (ku O O (dM O (bg 0 dn O fD O (bg 1 dI O bU O (aH (st5 1 H5 bU) ?_)))))))
  rintro _ w6 H6
  refine dM O (bg 0 dn O fD O (bg 2 dI O ah O (aH (st5 2 H6 ah) ?_)))
  rintro _ w7 H7
  refine dJ (nJ (.inr O) results170 ?_)
  have hN : N ≠ [] := by rintro rfl; exact absurd Nj (by simp only [List.length_nil]; omega)
  rw [AA hN]
  have X := V.yE (v := Ef) (es := qQ) (H7.f3.f3.f5.f5).deep
  have X4 := V.Az X.swap
  refine V.Dv (gv := l3) (nv := .slice none 0 0) (gs := qB ++ [(Ef, qQ)]) (now := []) (ed := (iH G N : Nat)) ⟨abC qC.1 hN, by rw [← AA hN, RY]; exact qC.2.1, by decide, by decide, Yg qC.2.2.2.2.1 qC.2.2.2.2.2, by simp⟩ (by rw [List.map_append, A8, ← zY]; rfl) O (by rw [← AA hN, RY]) ((X4.zA none).of_eq (by ac_rfl))
 ·(try simp only [aG] at h1)
  have aji : qQ.length = 0 := by omega
  refine gX (aF (ku O O (dM O (bg 0 dn O fD O (bg 1 dI O bU O (aH (st5 1 xO bU) ?_))))))
  rintro _ w8 H8
  refine dM O (bg 0 dn O fD O (bg 2 dI O ah O (aH (st5 2 H8 ah) ?_)))
  rintro _ w9 H9
  refine dJ (nJ (.inr O) results170 ?_)
  have hN : N = [] := by rw [← zY, List.eq_nil_of_length_eq_zero aji]; rfl
  subst hN
  rw [aat rfl]
  refine V.Dv (gv := Il) (nv := .slice none 0 0) (gs := qB) (now := []) (ed := (iH G [] : Nat)) ⟨qC.1, qC.2.1, by decide, by decide, qC.2.2.2.2⟩ A8 O O (((H9.f4.right.f4.right.f3.f3).zA none).of_eq (by unfold LM; ac_rfl))
theorem V.Wv (H : V w0 w (Jm v es • F)) : V w0 w (Jm v es • Jm v es • F) := H.zU
theorem acx (b : Nat) : Iter prog w0 (.func (.func 201) #[] #[.pointer (some ⟨b, 0, none⟩)]) (gU b (.cells #[v] 56 (0, 0)) • Jm v es) es.length
  (fun k vs A => vs = [.int .i64 ((es.length - (k + 1) : Nat) : Int), .agg (es.getD (es.length - (k + 1)) default).enc.toArray] ∧ A = Jm v es) := by
 intro l J X w hy H
 refine ⟨201, [], [.pointer (some ⟨b, 0, none⟩)], _, _, O, func201, O, O, ?_⟩
 have H1 : V w0 w (gU b (.cells #[v] 56 (0, 0)) • Jm v es • J 0) := H.of_eq (by ac_rfl)
 obtain ⟨a, c, hv, hc1, hc2, _⟩ := (H1.swap.yU).form
 subst hv
 simp only [List.nil_append, List.cons_append]
 refine xqR func201 ntmps201 ?_
 dsimp only [Jq, Nat.reduceAdd]
 refine kQ (dQ aV O (H1).get.2 O (aT (fV ((H1.f2).yU) aV O) (aT (nN O O (by omega)) (iU O (bK ?_)))))
 refine jh [(0, _), (1, _)] (fun (k : Nat) => [(3, .int .i64 ((k : Int) - 1))]) (fun (k : Nat) W => k ≤ es.length ∧ V w0 W (gU b (.cells #[.slice a es.length c] 56 (0, 0)) • Jm (.slice a es.length c) es • J (es.length - k))) (fun (k : Nat) => k) (es.length) vV rJ ⟨by omega, by rw [Nat.sub_self]; exact H1⟩ ?_
 rintro k w1 ⟨hk, HL⟩
 dsimp only [List.cons_append, List.nil_append]
 refine aI (bT O (aT (vT O O) (jo O (fun h1 => ?_) (fun h1 => ?_))))
 ·(try simp only [aG] at h1)
  refine gX (aI (bK (aI ?_)))
  obtain ⟨m, rfl⟩ : ∃ m, k = m + 1 := ⟨k - 1, by omega⟩
  rw [show (((m + 1 : Nat) : Int) - 1) = (m : Int) from by omega]
  refine aF (ku O O (dQ aV O (HL).get.2 O (cO O ?_)))
  obtain ⟨bv, ov, cv, ev⟩ := Rd.qX ((HL.f2).yU) (by omega)
  cases ev
  refine aT (dP aV bM O O (by omega)) (aT (mF (ys := [_, _, _]) ((HL.f2).yU) (by omega) aQ O bM O (mY gJ.Ah (by omega) default) O) (jT (Wu O O (hy (es.length - (m + 1)) (by omega) _ _ ⟨by rw [show es.length - (es.length - (m + 1) + 1) = m from by omega]; rfl, O⟩ (Jm (.slice (some ⟨bv, ov, none⟩) es.length c) es • gU b (.cells #[.slice (some ⟨bv, ov, none⟩) es.length c] 56 (0, 0))) _ (HL.swap.Wv.of_eq (by ac_rfl))).bool) ?_))
  rintro _ w2 ⟨t, rfl, ht1, ht2⟩
  refine aT (jG O) (jo O (fun h2 => ?_) (fun h2 => ?_))
  ·(try simp only [aG] at h2)
   have HX := ht2 (by simpa using h2)
   refine kN (aY (aC (aC (aY (we0 results201 ?_)))))
   exact .inr (HX.of_eq (by ac_rfl))
  ·(try simp only [aG] at h2)
   have HN : V w0 w2 (gU b (.cells #[.slice (some ⟨bv, ov, none⟩) es.length c] 56 (0, 0)) • Jm (.slice (some ⟨bv, ov, none⟩) es.length c) es • J (es.length - m)) := by
    have h9 := ht1 (by simpa using h2)
    rw [show es.length - (m + 1) + 1 = es.length - m from by omega] at h9
    exact h9.of_eq (by ac_rfl)
   refine eG (aS (aZ (aF (cO O (aT (nN O O (by omega)) (lg O (dJ ?_)))))))
   refine fG (m) ?_ ?_ ?_ ?_
   ·exact rJ
   ·exact vV
   ·(try dsimp only)
    first | done | exact ⟨by omega, HN.f2.f2⟩
   ·(try dsimp only); omega
 ·(try simp only [aG] at h1)
  refine iZ (bC (bC (dK (nJ (.inr O) results201 ?_))))
  obtain rfl : k = 0 := by omega
  rw [Nat.sub_zero] at HL
  exact .inl (HL.of_eq (by ac_rfl))
end
def xP (e : jH) : jH := (e.1, e.2.2, e.2.1)
def ad6 (c : Nat) (es : List gJ) (k : Nat) : HP := BK fun (x : Value × List gJ) => fact (x.2.map gJ.says = ((es.map gJ.says).reverse.take k).map xP) • gU c (.cells #[x.1] 56 (0, 0)) • Qv x.1 x.2
theorem Yl {es : List gJ} {k : Nat} (hk : k < es.length) : ((es.map gJ.says).reverse.take (k + 1)).map xP = ((es.map gJ.says).reverse.take k).map xP ++ [xP (es.getD (es.length - (k + 1)) default).says] := by
  rw [List.take_succ_eq_append_getElem (by simpa using hk), List.map_append]
  congr 1
  simp only [List.map_cons, List.map_nil, List.getElem_reverse, List.getElem_map, List.length_map]
  rw [List.getD_eq_getElem?_getD, List.getElem?_eq_getElem (by omega)]
  have e : es.length - 1 - k = es.length - (k + 1) := by omega
  simp only [Option.getD_some, e]
section
variable {w0 w : World} {F : HP} {p : Nat} {G : List (List jH)} {N : List jH} {op : Int} {gv nv v : Value} {gs : List (Value × List gJ)} {now es : List gJ} {a : Int} {d z : Value} {dl il : List Int}
theorem V.Ym {c k : Nat} (H : V w0 w (ad6 c es k • F)) : ∃ u fs, fs.map gJ.says = ((es.map gJ.says).reverse.take k).map xP ∧ fs.length ≤ es.length ∧ V w0 w (gU c (.cells #[u] 56 (0, 0)) • Row 143 3 u fs.length (fs.flatMap gJ.enc) • oK fs • F) := by
  obtain ⟨⟨u, fs⟩, H⟩ := H.sS
  obtain ⟨h, H⟩ := H.flat.fact
  refine ⟨u, fs, h, ?_, ?_⟩
  · have := congrArg List.length h
    simp at this
    omega
  · have := H.flat
    unfold Qv at this
    exact this.of_eq (by ac_rfl)
theorem V.ad7 {c k : Nat} {u : Value} {fs : List gJ} (h : fs.map gJ.says = ((es.map gJ.says).reverse.take k).map xP) (H : V w0 w (gU c (.cells #[u] 56 (0, 0)) • Qv u fs • F)) : V w0 w (ad6 c es k • F) :=
  V.lK (u, fs) (V.deep (V.qY h H.deep))
theorem V.ad8 (H : V w0 w (Jm v es • F)) {k : Nat} (hk : k < es.length) : V w0 w (uQ .i32 (es.getD k default).d (es.getD k default).dl • uQ .i32 (es.getD k default).i (es.getD k default).il • Jm v es • F) := by
  have h1 : V w0 w (uQ .i32 (es.getD k default).d (es.getD k default).dl • Jm v es • Jm v es • F) := H.Wv.Wv.I5 (qH (fun I h => (h.2 k hk).1) _)
  have h2 : V w0 w (uQ .i32 (es.getD k default).i (es.getD k default).il • uQ .i32 (es.getD k default).d (es.getD k default).dl • Jm v es • F) := h1.swap.I5 (qH (fun I h => (h.2 k hk).2) _)
  exact h2.swap
theorem acy (H : V w0 w F) (hv : v.oneCell' = true) : iK prog 191 #[v] w fun v' w' => ∃ b, v' = .func (.func 201) #[] #[.pointer (some ⟨b, 0, none⟩)] ∧ V w0 w' (gU b (.cells #[v] 56 (0, 0)) • F) := by
  refine jl func191 ntmps191 ?_
  refine kQ (jT (kZ (l := [_]) H O (by first | rfl | exact Oi (by first | rfl | assumption))) ?_)
  rintro _ w1 ⟨b1, rfl, H1⟩
  refine iU O (kQ (aT (LC O O) (iJ O (dO results191 O ?_))))
  exact ⟨_, O, H1⟩
theorem FN (H : V w0 w (Jm v es • F)) (hB : ∀ k, k < es.length → EB (es.getD k default).says) (hL : es.length ≤ 16384) :
  iK prog 171 #[v] w fun v' w' => ∃ fs : List gJ, fs.map gJ.says = (es.map gJ.says).reverse.map xP ∧ V w0 w' (Row 143 3 v' fs.length (fs.flatMap gJ.enc) • oK fs • Jm v es • F) := by
 refine jl func171 ntmps171 ?_
 refine kG O (kQ (jT (iI (l := [_]) H sV O) ?_))
 rintro _ w1 ⟨b1, rfl, H1⟩
 refine uV (bT O (fH O func191 (acy H1 (Rd.one ((H1.f2).yU))) ?_))
 rintro _ w2 ⟨bB2, rfl, H2⟩
 refine iR (bK ?_)
 have F9 := H2.f2
 have Fq := V.ad7 (es := es) (k := 0) (fs := []) rfl (F9.zA none).swap
 refine Iq O (acx bB2) (fun k => ad6 b1 es k • F) (fact False) (fun _ => fact False) (Fq.f3.f3.f3.f3.f3.g2.comm) (by rfl) ?_ ?_ ?_ ?_
 ·rintro l5 k ahD vs5 A5 ⟨rfl, rfl⟩ G5 w5 H5
  try simp only [eX, xE, D9] at H5
  refine ⟨O, ?_⟩
  dsimp only [aas]
  have Hq := (H5).ad8 (k := es.length - (k + 1)) (by omega)
  obtain ⟨hb1, hb2⟩ := hB (es.length - (k + 1)) (by omega)
  have hb1 : (es.getD (es.length - (k + 1)) default).dl.length ≤ 35184372087808 := hb1
  have hb2 : (es.getD (es.length - (k + 1)) default).il.length ≤ 35184372087808 := hb2
  obtain ⟨u, fs, hfs, hfl, HI⟩ := (Hq.f4).Ym
  refine aF (jT (iI (l := [_, _, _]) HI cZ O) ?_)
  rintro _ w6 ⟨b6, rfl, H6⟩
  refine aH (dR 0 (l' := [_, _, _]) (us := [_, _, _]) H6 bM O O O (aP (bD (by first | rfl | exact Rd.one ((H6.f5).o9)) (bD (by first | rfl | exact Rd.one ((H6.f6).o9)) bW))) O O) ?_
  rintro _ w7 H7
  refine dJ ?_
  refine aar (H7.g8) ?_
  intro G8 w8 H8
  try simp only [eX] at H8
  refine bK ?_
  have ajj := H8.drew
  have ad9 := V.kp (ajj.f7.f7.f7.f7.f7.f7.f7)
  refine tH [0, 1] ad9 O (iD 0 O ad9 (fun W hW => jk aV O ((Kp.h hW).f2).get.2 O) (iD 1 O ad9 (fun W hW => dU aQ O bM O O ((Kp.h hW)).get.2) (lC 2 O (qW O func192 (Oo ajj (fun W HW => (HW.f5).o9) (fun W HW => (HW.f6).o9) (by omega) (by omega))) ?_)))
  rintro _ w9 ⟨d9, s9, rfl, H9⟩
  have Dw := V.kp (H9.f9.f9.f9.f9.f9.f9.f9.f9.f9)
  refine dZ Dw (fun W hW => (Kp.h hW).right.right.f7.f7.f7.f7.f7.f7.f7) ?_
  refine lC 3 O (qL H9 aV bM cZ O O O (by decide) (by decide)) ?_
  rintro l10 w10 rU
  have D7 := V.kp (rU.f10.f10.f10.f10.f10.f10.f10.f10.f10.f10)
  refine dZ D7 (fun W hW => (Kp.h hW).right.f9.f9.f9.f9.f9.f9.f9.f9.f9) ?_
  refine lC 4 O (gK rU.f6 aV Ap O O O ((rU).aJ) (aP (bD (by first | rfl | exact Rd.one ((rU.f2).aJ)) (bD (by first | rfl | exact Rd.one ((rU.f3).aJ)) bW))) (by omega) (by omega)) ?_
  rintro l11 Ii rE
  have Qc := rE.f2.right
  have D6 := V.kp (Qc.f9.f9.f9.f9.f9.f9.f9.f9.f9)
  refine dX D6 (by kernel_rfl) ?_
  refine gW 5 O (by kernel_rfl) (iw 0 (l' := [_]) Qc.f5 bU O O (by first | rfl | exact Rd.one ((Qc).aJ)) O O) ?_
  rintro _ P7 AZ
  have BQ := V.kp (AZ.f9.f9.f9.f9.f9.f9.f9.f9.f9)
  refine dX BQ (by kernel_rfl) ?_
  refine oH (aS ?_)
  refine RU ?_
  have X := (AZ.f5.right.f6.right.f6.right.f6.right.f6.f2.f6.f4.f6.f6).mM.swap.mM.swap
  have X2 := V.zW X.f3
  exact (V.ad7 (es := es) (k := k + 1) (by rw [List.map_append, hfs, Yl (by omega)]; rfl) X2.swap).deep
 ·rintro D14 O9 BJ
  have Yf := BJ.ed
  try simp only [eX, xE, D9] at Yf
  have ahE := Yf.abm
  obtain ⟨u, fs, hfs, hfl, HI⟩ := (ahE.f4).Ym
  refine aS (aZ (kQ (dQ aV O (HI).get.2 O (iJ O ?_))))
  refine Qq (.inl O) (HI.f4) (fun Ry CJ => ?_)
  refine ⟨_, ahm results171 O, ?_⟩
  rw [List.take_of_length_le (by simp)] at hfs
  exact ⟨_, hfs, CJ.right.f3.right.f3.f3.f3⟩
 ·rintro D w H; exact absurd H.swap.fact.1 id
 ·rintro id D w H; exact absurd H.swap.fact.1 fun h => h
end
def oW (G : List (List jH)) (N : List jH) : Int := if G.length + N.length = 0 then 6 else 0
def abE (G : List (List jH)) (N : List jH) : List (List jH) := if G.length + N.length = 0 then G else (rF G N).dropLast
def abF (G : List (List jH)) (N : List jH) : List jH := if G.length + N.length = 0 then N else []
def abG (G : List (List jH)) (N : List jH) (op : Int) : Int := if G.length + N.length = 0 then op else 0
def abH (G : List (List jH)) (N : List jH) : List jH := if G.length + N.length = 0 then [] else ((rF G N).getLastD []).reverse.map xP
theorem Va {G : List (List jH)} {g N : List jH} : iH (G ++ [g]) N = iH G N + g.length := by simp [iH]; omega
section
variable {w0 w : World} {F : HP} {p : Nat} {G : List (List jH)} {N : List jH} {op : Int} {gv nv v : Value} {gs : List (Value × List gJ)} {now es : List gJ} {a : Int} {d z : Value} {dl il : List Int}
theorem aau (h : ¬ G.length + N.length = 0) : rF G N ≠ [] := by
  unfold rF; split
  · rename_i hN; rintro rfl; subst hN; exact h rfl
  · simp
theorem V.aav (H : V w0 w (lH p G [] op • F)) (hG : G ≠ []) : ∃ gv nv hs gl vO, G = hs.map (fun g => g.2.map gJ.says) ++ [vO.map gJ.says] ∧ UOk G [] op ∧ G.length = hs.length + 1 ∧ hs.length ≤ 16384 ∧ vO.length ≤ 16384 ∧ (∀ k, k < vO.length → EB (vO.getD k default).says) ∧
    V w0 w (gU p (.cells #[gv, nv, .int .i64 op, .int .i64 (iH G [] : Nat), .bool true] 177 (0, 0)) • Row 56 1 gv (hs.length + 1) (hs.map (·.1) ++ [gl]) • vW hs • Jm gl vO • Qv nv [] • F) := by
  obtain ⟨gv, nv, gs, now, h1, h2, h3, h4, h5, h6, H⟩ := H.Du
  obtain rfl : now = [] := List.eq_nil_of_length_eq_zero (by simpa using h5)
  rcases List.eq_nil_or_concat gs with rfl | ⟨hs, ⟨gl, vO⟩, rfl⟩
  · exact absurd h2.symm hG
  · have hG2 : G = hs.map (fun g => g.2.map gJ.says) ++ [vO.map gJ.says] := by rw [← h2]; simp
    have hle : vO.length ≤ 16384 := by
      have := h1.2.1
      rw [hG2, Va] at this
      simp at this
      omega
    refine ⟨gv, nv, hs, gl, vO, hG2, h1, ?_, ?_, hle, fun k hk => ?_, ?_⟩
    · rw [hG2]; simp
    · rw [hG2] at h6; simp at h6; omega
    · refine h1.2.2.2.2.1 (vO.map gJ.says) (by rw [hG2]; simp) _ ?_
      rw [List.getD_eq_getElem?_getD, List.getElem?_eq_getElem hk]
      exact List.mem_map_of_mem (List.getElem_mem hk)
    · rw [List.concat_eq_append, List.length_append, List.map_append] at H
      have H1 := (H.f3.X0 (k := hs.length) (by simp)).swap
      rw [show (hs ++ [(gl, vO)]).getD hs.length default = (gl, vO) from by simp [List.getD_eq_getElem?_getD]] at H1
      have H2 := H1.Rk hs.length
      rw [List.take_left' rfl] at H2
      exact H2.of_eq (by unfold Qv; ac_rfl)
theorem Gf (H : V w0 w (lH p G N op • F)) : iK prog 114 #[.pointer (some ⟨p, 0, none⟩)] w fun v w' => ∃ u, ∃ fs : List gJ, v = .tuple #[u, .int .i64 (oW G N)] ∧ fs.map gJ.says = abH G N ∧
  V w0 w' (Row 143 3 u fs.length (fs.flatMap gJ.enc) • oK fs • lH p (abE G N) (abF G N) (abG G N op) • F) := by
 unfold oW abH abE abF abG
 refine jl func114 ntmps114 ?_
 refine kQ (lg O (vI O (bT O (fH O func146 (pI H) ?_))))
 rintro _ _ ⟨rfl, rfl⟩
 refine iR (yh (gX (aI (aI ?_))))
 obtain ⟨Il, Ef, qB, qQ, qC, A8, zY, Nh, Nj, RJ, xO⟩ := (H).Du
 have Jl := xO.drew
 have jX := V.kp (Jl.f5.f5.f5.f5.f5)
 refine tH [4, 10] jX O (fM 0 O jX O (jF 1 O jX O (eP 2 O jX 0 dn O fD O (eP 3 O jX 0 dI O jr O (iD 4 O jX (fun W hW => jk bP O ((Kp.h hW)).get.2 O) (iE 5 O jX (fun _ => fV ((Jl.f2).aJ) bP O) (fM 6 O jX O (jF 7 O jX O (eP 8 O jX 0 dn O fD O (eP 9 O jX 1 dI O bU O (iD 10 O jX (fun W hW => jk aV O ((Kp.h hW)).get.2 O) (iE 11 O jX (fun _ => fV ((Jl.f4).aJ) aV O) (iE 12 O jX (fun _ => gY O O (by omega)) (iE 13 O jX (fun _ => fA O O) (oH (aZ (dw O (fun h1 => ?_) (fun h1 => ?_))))))))))))))))))
 ·(try simp only [aG] at h1)
  have hGN : G.length + N.length = 0 := by omega
  have Rn := Jl.f5.f5.f5.f5.f5
  have O6 := V.uj qC A8 zY rfl Rn
  refine kQ (lg O (iJ O (aC (Fp results114 O O ?_))))
  simp only [if_pos hGN]
  exact ⟨_, [], O, O, ((O6).zA none).edL⟩
 ·(try simp only [aG] at h1)
  have hGN : ¬ G.length + N.length = 0 := by omega
  have Qd := Jl.f5.f5.f5.f5.f5
  have Qe := V.uj qC A8 zY rfl Qd
  refine gX (bT O (fH O func170 (ES Qe) ?_))
  rintro _ w9 H9
  refine uV ?_
  obtain ⟨gv, nv, hs, gl, vO, hG, hok, hl1, hl2, hl3, hEB, HU⟩ := (H9).aav (aau hGN)
  have htot := hok.2.1
  refine aF (kY O O (bg 0 dn O fD O (bg 0 dI O jr O (dQ bP O (HU).get.2 O (aT (fV ((HU.f2).aJ) bP O) (aT (nN O O (by omega)) (iU O (bT O (dM O (bg 0 dn O fD O (bg 0 dI O jr O (dQ bP O (HU).get.2 O (cO O ?_)))))))))))))
  obtain ⟨bgv, ogv, cgv, egv⟩ := Rd.qX ((HU.f2).aJ) (by omega)
  cases egv
  refine aT (dP bP bU O O (by omega)) ?_
  refine aT (fB (dG aV O) O (by first | exact Rd.yc ((HU.f2).aJ) (by omega) | exact Rd.I8 ((HU.f2).aJ) (by omega) | exact Rd.Ib ((HU.f2).aJ) (by omega))) ?_
  rw [show (hs.map (·.1) ++ [gl]).getD ((((hs.length + 1 : Nat)) : Int) - 1).toNat undef = gl from by rw [show ((((hs.length + 1 : Nat)) : Int) - 1).toNat = hs.length from by omega]; simp [List.getD_eq_getElem?_getD]]
  refine iU O (bT O (kY O O (bg 0 dn O fD O (bg 0 dI O jr O (dQ bP O (HU).get.2 O (cO O (aT (rP ((HU.f2).aJ) bP bU O O O (by omega)) ?_)))))))
  refine dM O (bg 0 dn O fD O (bg 0 dI O jr O (aH (iw 0 (l' := [_, _, _, _, _]) HU jr O O (by first | rfl | exact Rd.one (Rd.agT ((HU.f2).aJ) (by omega))) O O) ?_)))
  rintro _ w10 rU
  refine qG O (dM O (bg 0 dn O fD O (bg 3 dI O ah O (dQ ay O (rU).get.2 O (cO O (aT (fV ((rU.f4).yU) aV O) (aT (nN O O (by omega)) (dM O (bg 0 dn O fD O (bg 3 dI O ah O (aH (st5 3 rU ah) ?_)))))))))))
  rintro _ Ii rE
  refine qG O (fH O func171 (FN rE.f4 hEB hl3) ?_)
  rintro u12 w12 ⟨aea, agX, uP⟩
  refine lg O (iJ O (Fp results114 O O ?_))
  simp only [if_neg hGN]
  have hdl : (rF G N).dropLast = hs.map (fun g => g.2.map gJ.says) := by rw [hG]; simp
  have hlast : (rF G N).getLastD [] = vO.map gJ.says := by rw [hG]; simp
  have hX := (uP.f3.right.f6.f6.f5.f5.f5.f6).XR (h := hs.length) (by omega)
  rw [hdl, hlast]
  rw [Nat.mul_one, List.take_left' (by simp), show (((hs.length + 1 : Nat) : Int) - 1).toNat = hs.length from by omega, show Int.toNat 0 = 0 from rfl] at hX
  have hT : iH (rF G N) [] = iH (hs.map (fun g => g.2.map gJ.says)) [] + vO.length := by rw [hG, Va, List.length_map]
  have hok2 : UOk (hs.map (fun g => g.2.map gJ.says)) [] 0 := ⟨fun g hg => hok.1 g (by rw [hG]; exact List.mem_append_left _ hg), by omega, by decide, by decide, fun g hg => hok.2.2.2.2.1 g (by rw [hG]; exact List.mem_append_left _ hg), by simp⟩
  refine ⟨_, _, O, (by assumption), ?_⟩
  have hU := V.Dv (gv := xI 1 0 hs.length (.slice (some ⟨bgv, ogv, none⟩) (hs.length + 1) cgv)) (nv := nv) (gs := hs) (now := []) (ed := (iH (rF G N) [] : Nat) - (vO.length : Int)) (F := Row 143 3 u12 aea.length (aea.flatMap gJ.enc) • oK aea • F) hok2 rfl rfl (by omega) (hX.of_eq (by unfold LM; ac_rfl))
  exact hU.of_eq (by ac_rfl)
end
def Gg (op : Int) : Int := if op = 0 then 1 else 0
def ahF (G : List (List jH)) (N : List jH) (op : Int) : List (List jH) := if op = 1 then rF G N else G
def ahG (N : List jH) (op : Int) : List jH := if op = 1 then [] else N
def af8 (op : Int) : Int := if op = 0 then 0 else op - 1
theorem acz {es : List gJ} {k : Nat} (hk : k < es.length) : (es.take (k + 1)).map gJ.says = (es.take k).map gJ.says ++ [(es.getD k default).says] := by
  rw [List.take_succ_eq_append_getElem hk, List.map_append, List.getD_eq_getElem?_getD, List.getElem?_eq_getElem hk]
  rfl
section
variable {w0 w : World} {F : HP} {p : Nat} {G : List (List jH)} {N : List jH} {op : Int} {gv nv v : Value} {gs : List (Value × List gJ)} {now es : List gJ} {a : Int} {d z : Value} {dl il : List Int}
theorem Ir (H : V w0 w (lH p G N op • F)) : iK prog 117 #[.pointer (some ⟨p, 0, none⟩)] w fun v w' => v = .int .i64 (Gg op) ∧ V w0 w' (lH p (ahF G N op) (ahG N op) (af8 op) • F) := by
 unfold Gg ahF ahG af8
 refine jl func117 ntmps117 ?_
 refine kG O (aI (bT O (fH O func146 (pI H) ?_)))
 rintro _ _ ⟨rfl, rfl⟩
 refine iR (yh (gX (aI (aI ?_))))
 obtain ⟨Il, Ef, qB, qQ, qC, A8, zY, Nh, Nj, RJ, xO⟩ := (H).Du
 have hop := qC.2.2.1
 have hop2 := qC.2.2.2.1
 refine aF (kY O O (bg 0 dn O fD O (bg 2 dI O ah O (dQ ay O (xO).get.2 O (aT (fA O O) (jo O (fun h1 => ?_) (fun h1 => ?_)))))))
 ·(try simp only [aG] at h1)
  have h0 : op = 0 := by omega
  refine jE O (aC (dO results117 O ?_))
  have Rn := xO.f5.f5.f5.f5.f5
  have O6 := V.uj qC A8 zY rfl Rn
  subst h0
  exact ⟨O, O6⟩
 ·(try simp only [aG] at h1)
  have h0 : ¬ op = 0 := by omega
  refine gX (aI (bT O (dM O (bg 0 dn O fD O (bg 2 dI O ah O (dQ ay O (xO).get.2 O (aT (nN O O (by omega)) (dM O (bg 0 dn O fD O (bg 2 dI O ah O (aH (st5 2 xO ah) ?_)))))))))))
  rintro _ w6 H6
  refine qG O (dM O (bg 0 dn O fD O (bg 2 dI O ah O (dQ ay O (H6).get.2 O (aT (fA O O) (jo O (fun h2 => ?_) (fun h2 => ?_)))))))
  ·(try simp only [aG] at h2)
   have h1 : op = 1 := by omega
   have Qd := H6.f5.f5.f5.f5.f5
   have Qe := V.uj (op := op - 1) ⟨qC.1, qC.2.1, by omega, by omega, qC.2.2.2.2⟩ A8 zY rfl Qd
   refine aF (cO O (fH O func170 (ES Qe) ?_))
   rintro _ w9 H9
   refine iR (jE O (dO results117 O ?_))
   subst h1
   exact ⟨O, H9⟩
  ·(try simp only [aG] at h2)
   have h1 : ¬ op = 1 := by omega
   refine gX (jE O (dO results117 O ?_))
   rw [if_neg h0, if_neg h1, if_neg h1, if_neg h0]
   exact ⟨O, V.uj ⟨qC.1, qC.2.1, by omega, by omega, qC.2.2.2.2⟩ A8 zY O H6.f5.f5.f5.f5.f5⟩
theorem RZ (H : V w0 w F) (hv : Ht w0 F 3 v es.length (es.flatMap gJ.enc)) (he : ∀ k, k < es.length → jZ w0 F .i32 (es.getD k default).d (es.getD k default).dl ∧ jZ w0 F .i32 (es.getD k default).i (es.getD k default).il)
  (hB : ∀ k, k < es.length → EB (es.getD k default).says) (hL : es.length ≤ 16384) :
  iK prog 147 #[v] w fun v' w' => ∃ fs : List gJ, fs.map gJ.says = es.map gJ.says ∧ V w0 w' (Row 143 3 v' fs.length (fs.flatMap gJ.enc) • oK fs • F) := by
 refine jl func147 ntmps147 ?_
 refine kG O (kG O (aI (bT O (aT (fV (hv _ (H)) aV O) (cO O (iR (bK ?_)))))))
 refine jh [(6, _), (7, _)] (fun (⟨k, u⟩ : Nat × Value) => [(3, u), (8, .int .i64 (k : Int))]) (fun (⟨k, u⟩ : Nat × Value) W => k ≤ es.length ∧ ∃ fs : List gJ, fs.map gJ.says = (es.take k).map gJ.says ∧ V w0 W (Row 143 3 u fs.length (fs.flatMap gJ.enc) • oK fs • F)) (fun (⟨k, u⟩ : Nat × Value) => es.length - k) ((0, .slice none 0 0)) vV vV ⟨by omega, [], O, (H.zA none).edL⟩ ?_
 rintro ⟨k, u⟩ w1 ⟨hk, fs, hfs, HL⟩
 dsimp only [List.cons_append, List.nil_append]
 refine kQ (aT (fJ O O) (uV (dw O (fun h1 => ?_) (fun h1 => ?_))))
 ·(try simp only [aG] at h1)
  refine gX (aI (bK (kQ ?_)))
  obtain ⟨bv, ov, cv, ev⟩ := Rd.qX (hv _ (HL.right.right)) (by omega)
  cases ev
  refine aT (dP aV bM O O (by omega)) (aT (mF (ys := [_, _, _]) (hv _ (HL.right.right)) (by omega) aQ O bM O (mY gJ.Ah (by omega) default) O) ?_)
  have hkl : k < es.length := by omega
  obtain ⟨f1, f2⟩ := he k hkl
  obtain ⟨hb1, hb2⟩ := hB k hkl
  have hb1 : (es.getD k default).dl.length ≤ 35184372087808 := hb1
  have hb2 : (es.getD k default).il.length ≤ 35184372087808 := hb2
  have hfl : fs.length = k := by have h9 := congrArg List.length hfs; simp at h9; omega
  refine jT (iI (l := [_, _, _]) HL cZ O) ?_
  rintro _ w2 ⟨b2, rfl, H2⟩
  refine aH (dR 0 (l' := [_, _, _]) (us := [_, _, _]) H2 bM O O O (aP (bD (by first | rfl | exact Rd.one (f1 _ (H2.right.right.right))) (bD (by first | rfl | exact Rd.one (f2 _ (H2.right.right.right))) bW))) O O) ?_
  rintro _ w3 H3
  refine iR (aF (cO O (aT (dU aQ O bM O O (H3).get.2) (fH O func172 (Ec H3 (fun W HW => f1 _ (HW.right.right.right)) (fun W HW => f2 _ (HW.right.right.right)) (by omega) (by omega)) ?_))))
  rintro _ w4 ⟨d4, s4, rfl, H4⟩
  refine jT (qL H4 aV bM cZ O O O (by decide) (by decide)) ?_
  rintro l5 w5 H5
  refine jT (gK H5.f5 aV Ap O O O ((H5).aJ) (aP (bD (by first | rfl | exact Rd.one ((H5.f2).aJ)) (bD (by first | rfl | exact Rd.one ((H5.f3).aJ)) bW))) (by omega) (by omega)) ?_
  rintro l6 w6 H6
  have Wx := H6.f2.right
  refine lg O (dJ (aS (aZ (aF (aT (gY O O (by omega)) (cO O (dJ ?_)))))))
  refine fG ((k + 1, l6)) ?_ ?_ ?_ ?_
  ·exact vV
  ·exact vV
  ·(try dsimp only)
   first | done | exact ⟨by omega, _, by rw [List.map_append, hfs, acz (by omega)]; rfl, (V.zW (Wx.f4.right.f4.f2.f4.f4).mM.swap.mM.swap.f3).edL⟩
  ·(try dsimp only); omega
 ·(try simp only [aG] at h1)
  refine iZ (bC (bC (dK (aZ (bT O (iJ O (dO results147 O ?_)))))))
  rw [List.take_of_length_le (by omega)] at hfs
  exact ⟨_, hfs, HL.f2.f2⟩
theorem V.qE {es : List gJ} (H : V w0 w (oK es • F)) {k : Nat} (hk : k < es.length) : mP w .i32 (es.getD k default).d (es.getD k default).dl ∧ mP w .i32 (es.getD k default).i (es.getD k default).il := let ⟨I, h, hI⟩ := H.zx; ⟨(h k hk).1.rd hI, (h k hk).2.rd hI⟩
theorem JE (H : V w0 w (Row 143 3 v es.length (es.flatMap gJ.enc) • oK es • F)) (hB : ∀ k, k < es.length → EB (es.getD k default).says) (hL : es.length ≤ 16384) :
    iK prog 147 #[v] w fun v' w' => ∃ fs : List gJ, fs.map gJ.says = es.map gJ.says ∧ V w0 w' (Row 143 3 v' fs.length (fs.flatMap gJ.enc) • oK fs • Row 143 3 v es.length (es.flatMap gJ.enc) • oK es • F) :=
  RZ H (fun W HW => HW.aJ) (fun k hk => ⟨fun W HW => (HW.right.qE hk).1, fun W HW => (HW.right.qE hk).2⟩) hB hL
theorem Gh (H : V w0 w (Jm v es • F)) (hB : ∀ k, k < es.length → EB (es.getD k default).says) (hL : es.length ≤ 16384) :
    iK prog 147 #[v] w fun v' w' => ∃ fs : List gJ, fs.map gJ.says = es.map gJ.says ∧ V w0 w' (Row 143 3 v' fs.length (fs.flatMap gJ.enc) • oK fs • Jm v es • F) :=
  RZ H (fun W HW => HW.yU) (fun k hk => ⟨fun W HW => HW.ai1 hk, fun W HW => HW.ai2 hk⟩) hB hL
end
end Go.Proofs.YtnhhmieghbfalaaGreatDoor
end
