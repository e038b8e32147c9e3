import Derived.Test.YtpdeedplgmbopaaGreatDoorZ4
import Derived.Test.YtpdeedplgmbopaaGreatDoorZ7
set_option linter.unusedSimpArgs false
set_option linter.unusedVariables false
/- Texts of mine, joined, their names in short: UList Range UList2 UList3 UList4 UList5 UList6. -/
section
namespace Go.Proofs.YtpdeedplgmbopaaGreatDoor
open Go.RowKit
open _root_.Go.Proofs.Tryz
abbrev jl := Int × List Int × List Int
def gG (G : List (List jl)) (N : List jl) : Nat := (G.map List.length).sum + N.length
def EB (e : jl) : Prop := e.2.1.length ≤ 35184372087808 ∧ e.2.2.length ≤ 35184372087808
theorem aaP {N : List jl} {x : jl} (h : ∀ e ∈ N, EB e) (hx : EB x) : ∀ e ∈ N ++ [x], EB e := fun e he => by
  rcases List.mem_append.1 he with he | he
  · exact h e he
  · rw [List.mem_singleton.1 he]; exact hx
theorem QA {G : List (List jl)} {N : List jl} (h : ∀ g ∈ G, ∀ e ∈ g, EB e) (hx : ∀ e ∈ N, EB e) : ∀ g ∈ G ++ [N], ∀ e ∈ g, EB e := fun g hg => by
  rcases List.mem_append.1 hg with hg | hg
  · exact h g hg
  · rw [List.mem_singleton.1 hg]; exact hx
theorem Vr {G : List (List jl)} {N : List jl} (h : ∀ g ∈ G, g ≠ []) (hx : N ≠ []) : ∀ g ∈ G ++ [N], g ≠ [] := fun g hg => by
  rcases List.mem_append.1 hg with hg | hg
  · exact h g hg
  · rw [List.mem_singleton.1 hg]; exact hx
def UOk (G : List (List jl)) (N : List jl) (op : Int) : Prop := (∀ g ∈ G, g ≠ []) ∧ gG G N ≤ 16384 ∧ 0 ≤ op ∧ op ≤ 4611686018427387904 ∧ (∀ g ∈ G, ∀ e ∈ g, EB e) ∧ ∀ e ∈ N, EB e
theorem TM {G : List (List jl)} (h : ∀ g ∈ G, g ≠ []) : G.length ≤ (G.map List.length).sum := by
  induction G with
  | nil => simp
  | cons g G ih =>
    have h1 := ih fun x hx => h x (by simp [hx])
    have h2 : 0 < g.length := List.length_pos_iff.2 (h g (by simp))
    simp; omega
theorem UOk.len {G : List (List jl)} {N : List jl} {op : Int} (h : UOk G N op) : G.length + N.length ≤ 16384 := by
  have := TM h.1
  have := h.2.1
  unfold gG at this
  omega
def jm (p : Nat) (G : List (List jl)) (N : List jl) (op : Int) : HP := uZ fun (x : Value × Value × List (Value × List eF) × List eF) =>
  fact (UOk G N op ∧ x.2.2.1.map (fun g => g.2.map eF.says) = G ∧ x.2.2.2.map eF.says = N) • dW p (.cells #[x.1, x.2.1, .int .i64 op, .int .i64 (gG G N : Nat), .bool true] 235 (0, 0)) • Fh x.1 x.2.2.1 • LX x.2.1 x.2.2.2
section
variable {w0 w : World} {F : HP} {p : Nat} {G : List (List jl)} {N : List jl} {op : Int} {gv nv : Value} {gs : List (Value × List eF)} {now : List eF} {a : Int} {d z : Value} {dl il : List Int}
theorem V.zh (H : V w0 w (jm p G N op • F)) : ∃ gv nv gs now, UOk G N op ∧ gs.map (fun g => g.2.map eF.says) = G ∧ now.map eF.says = N ∧ gs.length = G.length ∧ now.length = N.length ∧ G.length + N.length ≤ 16384 ∧
    V w0 w (dW p (.cells #[gv, nv, .int .i64 op, .int .i64 (gG G N : Nat), .bool true] 235 (0, 0)) • Row 80 1 gv gs.length (gs.map (·.1)) • pJ gs • Row 189 3 nv now.length (now.flatMap eF.enc) • lU now • F) := by
  obtain ⟨⟨gv, nv, gs, now⟩, H⟩ := H.nN
  obtain ⟨⟨h1, h2, h3⟩, H⟩ := H.flat.fact
  refine ⟨gv, nv, gs, now, h1, h2, h3, ?_, ?_, h1.len, ?_⟩
  · rw [← h2]; simp
  · rw [← h3]; simp
  · have := H.flat
    unfold Fh LX at this
    exact this.of_eq (by ac_rfl)
theorem V.xu (h1 : UOk G N op) (h2 : gs.map (fun g => g.2.map eF.says) = G) (h3 : now.map eF.says = N) {ed : Int} (he : ed = (gG G N : Nat))
    (H : V w0 w (dW p (.cells #[gv, nv, .int .i64 op, .int .i64 ed, .bool true] 235 (0, 0)) • Fh gv gs • LX nv now • F)) : V w0 w (jm p G N op • F) := by
  subst he
  exact V.jv (gv, nv, gs, now) (V.deep (V.lJ ⟨h1, h2, h3⟩ (H.of_eq (by ac_rfl))))
theorem V.oD (h1 : UOk G N op) (h2 : gs.map (fun g => g.2.map eF.says) = G) (h3 : now.map eF.says = N) {ed : Int} (he : ed = (gG G N : Nat))
    (H : V w0 w (dW p (.cells #[gv, nv, .int .i64 op, .int .i64 ed, .bool true] 235 (0, 0)) • Row 80 1 gv gs.length (gs.map (·.1)) • pJ gs • Row 189 3 nv now.length (now.flatMap eF.enc) • lU now • F)) : V w0 w (jm p G N op • F) :=
  V.xu h1 h2 h3 he (H.of_eq (by unfold Fh LX; ac_rfl))
theorem lQ (H : V w0 w (jm p G N op • F)) : iI prog 158 #[.pointer (some ⟨p, 0, none⟩)] w fun v w' => v = .bool false ∧ w = w' := by
 refine jr func158 ntmps158 ?_
 refine jR O (aO ?_)
 obtain ⟨CS, Aj, oO, nP, lV, wP, uJ, Ic, Ie, MG, rC⟩ := (H).zh
 refine aC (bP O (Z (iR underlying184 O O) (jJ O (fun h1 => ?_) (fun h1 => ?_))))
 ·(try simp only [aA] at h1)
  exfalso; first | contradiction | omega
 ·(try simp only [aA] at h1)
  refine bg (bP O (bg (dL O (bg (bJ 4 bK O aP O (bg (fV bZ O (rC).get.2 O (bg (Z (lC O) (ig O O (fC O (dK results158 O ?_))))))))))))
  exact ⟨O, O⟩
theorem OO (H : V w0 w F) : iI prog 174 #[] w fun v w' => ∃ p, v = .pointer (some ⟨p, 0, none⟩) ∧ V w0 w' (jm p [] [] 0 • F) := by
  refine WB func174 ntmps174 ?_
  refine jR O (iV (Z (mF (pl := #[(0, 4), (4, 1)]) (#[_, _, _, _, _]) bK zeroValue235 (fun w => by kernel_rfl) O (O)) (jV (jH (l := [_, _, _, _, _]) H O O) ?_)))
  rintro _ w1 ⟨b1, rfl, H1⟩
  refine fC O (dK results174 O ?_)
  refine ⟨_, O, V.xu (gv := .slice none 0 0) (nv := .slice none 0 0) (gs := []) (now := []) ⟨by simp, by decide, by decide, by decide, by simp, by simp⟩ O O O ?_⟩
  exact (((H1).tY none).Gm none).of_eq (by ac_rfl)
theorem OQ (H : V w0 w (jm p G N op • F)) : iI prog 120 #[.pointer (some ⟨p, 0, none⟩)] w fun v w' => v = .int .i64 ((G.length : Int) + min 1 N.length) ∧ V w0 w' (jm p G N op • F) := by
 refine jr func120 ntmps120 ?_
 refine jR O (aO (bT O (dS O func158 (lQ H) ?_)))
 rintro _ _ ⟨rfl, rfl⟩
 refine iL (qH (gQ (aO ?_)))
 obtain ⟨CS, Aj, oO, nP, lV, wP, uJ, Ic, Ie, MG, rC⟩ := (H).zh
 have Ez := rC.drew
 have je := V.kp (Ez.f5.f5.f5.f5.f5)
 refine y9 [4, 10] je O (iU 0 O je O (jY 1 O je O (iq 2 O je 0 bK O dJ O (iq 3 O je 0 bU O fZ O (jQ 4 O je (fun W hW => kF bI O ((Kp.h hW)).get.2 O) (jB 5 O je (fun _ => kH ((Ez.f2).aQ) bI O) (iU 6 O je O (jY 7 O je O (iq 8 O je 0 bK O dJ O (iq 9 O je 1 bU O bM O (jQ 10 O je (fun W hW => kF aV O ((Kp.h hW)).get.2 O) (jB 11 O je (fun _ => kH ((Ez.f4).aQ) aV O) (jB 12 O je (fun _ => Cb O O) (jB 13 O je (fun _ => fO O O (by omega)) (jB 14 O je (fun _ => dR O) (ru (aW (nO (dK results120 O ?_)))))))))))))))))))
 have QB := Ez.f5.f5.f5.f5.f5
 have P7 := V.oD lV wP uJ rfl QB
 exact ⟨by rw [Ic, Ie]; congr 1; omega, P7⟩
theorem Ko (H : V w0 w (jm p G N op • F)) : iI prog 203 #[.pointer (some ⟨p, 0, none⟩)] w fun v w' => v = .int .i64 (gG G N : Nat) ∧ V w0 w' (jm p G N op • F) := by
 refine jr func203 ntmps203 ?_
 refine jR O (aO (bT O (dS O func158 (lQ H) ?_)))
 rintro _ _ ⟨rfl, rfl⟩
 refine iL (qH (gQ (aO ?_)))
 obtain ⟨CS, Aj, oO, nP, lV, wP, uJ, Ic, Ie, MG, rC⟩ := (H).zh
 refine aC (nK O O (bJ 0 bK O dJ O (bJ 3 bU O ay O (fV aH O (rC).get.2 O (fC O (dK results203 O ?_))))))
 have QB := rC.f5.f5.f5.f5.f5
 have P7 := V.oD lV wP uJ rfl QB
 exact ⟨O, P7⟩
theorem zi (H : V w0 w (jm p G N op • F)) (hb : op < 4611686018427387904) : iI prog 137 #[.pointer (some ⟨p, 0, none⟩)] w fun v w' => v = .int .i64 0 ∧ V w0 w' (jm p G N (op + 1) • F) := by
 have hop : 0 ≤ op := by obtain ⟨gv, nv, gs, now, k1, _⟩ := H.zh; exact k1.2.2.1
 refine jr func137 ntmps137 ?_
 refine jR O (aO (bT O (dS O func158 (lQ H) ?_)))
 rintro _ _ ⟨rfl, rfl⟩
 refine iL (qH (gQ (aO ?_)))
 obtain ⟨CS, Aj, oO, nP, lV, wP, uJ, Ic, Ie, MG, rC⟩ := (H).zh
 refine aC (nK O O (bJ 0 bK O dJ O (bJ 2 bU O ay O (fV aH O (rC).get.2 O (Z (fO O O (by omega)) (dL O (bJ 0 bK O dJ O (bJ 2 bU O ay O (aI (st5 2 rC ay) ?_)))))))))
 rintro _ w3 H3
 refine iL (jP O (dK results137 O ?_))
 exact ⟨O, V.oD ⟨lV.1, lV.2.1, by omega, by omega, lV.2.2.2.2⟩ wP uJ O H3.f5.f5.f5.f5.f5⟩
def xP (G : List (List jl)) (N : List jl) (a : Int) (dl il : List Int) : Int := if dl.length + il.length = 0 ∨ a < 0 then 1 else if 16384 ≤ gG G N then 3 else 0
def TN (G : List (List jl)) (N : List jl) (op a : Int) (dl il : List Int) : List (List jl) := if xP G N a dl il = 0 then (if 0 < op then G else G ++ [[(a, dl, il)]]) else G
def TP (G : List (List jl)) (N : List jl) (op a : Int) (dl il : List Int) : List jl := if xP G N a dl il = 0 then (if 0 < op then N ++ [(a, dl, il)] else N) else N
theorem OT {x : jl} : gG G (N ++ [x]) = gG G N + 1 := by simp [gG]; omega
theorem QC {x : jl} : gG (G ++ [[x]]) N = gG G N + 1 := by simp [gG]; omega
theorem Kq (h : xP G N a dl il ≠ 0) : TN G N op a dl il = G := by unfold TN; rw [if_neg h]
theorem Kr (h : xP G N a dl il ≠ 0) : TP G N op a dl il = N := by unfold TP; rw [if_neg h]
theorem Jy (h : xP G N a dl il = 0) (ho : 0 < op) : TN G N op a dl il = G := by unfold TN; rw [if_pos h, if_pos ho]
theorem Jz (h : xP G N a dl il = 0) (ho : 0 < op) : TP G N op a dl il = N ++ [(a, dl, il)] := by unfold TP; rw [if_pos h, if_pos ho]
theorem YC (h : xP G N a dl il = 0) (ho : ¬ 0 < op) : TN G N op a dl il = G ++ [[(a, dl, il)]] := by unfold TN; rw [if_pos h, if_neg ho]
theorem YD (h : xP G N a dl il = 0) (ho : ¬ 0 < op) : TP G N op a dl il = N := by unfold TP; rw [if_pos h, if_neg ho]
theorem Bz (H : V w0 w (jm p G N op • F)) (hd : jE w0 F .i32 d dl) (hi : jE w0 F .i32 z il) (b2 : dl.length ≤ 35184372087808) (b3 : il.length ≤ 35184372087808) :
  iI prog 138 #[.pointer (some ⟨p, 0, none⟩), edV a d z] w fun v w' => v = .int .i64 (xP G N a dl il) ∧ V w0 w' (jm p (TN G N op a dl il) (TP G N op a dl il) op • F) := by
 refine oN func138 ntmps138 ?_
 refine iV (jV (jH (l := [_, _, _]) H O O) ?_)
 rintro _ w1 ⟨b1, rfl, H1⟩
 refine vY O (bT O (dS O func158 (lQ H1.f2) ?_))
 rintro _ _ ⟨rfl, rfl⟩
 refine iL (qH (gQ (aO (iV (bJ 1 bf O dh O (fV aj O (H1).get.2 O (Z (jy (hd _ (H1.right.right)) aj O) (bJ 2 bf O dh O (fV aj O (H1).get.2 O (Z (jy (hi _ (H1.right.right)) aj O) (Z (fO O O (by omega)) (Z (dX O O) (jJ O (fun h1 => ?_) (fun h1 => ?_))))))))))))))
 ·(try simp only [aA] at h1)
  refine bF (bF (bF (jh O O (iL (C9 (jP O (aB (dK results138 O ?_))))))))
  have e : xP G N a dl il = 1 := by unfold xP; rw [if_pos (by omega)]
  rw [Kq (by rw [e]; decide), Kr (by rw [e]; decide), e]
  exact ⟨O, H1.right⟩
 ·(try simp only [aA] at h1)
  refine bg (bJ 0 bf O ay O (bg (fV aH O (H1).get.2 O (bg (Z (gB O O) (ig O O (jL O (fun h2 => ?_) (fun h2 => ?_))))))))
  ·(try simp only [aA] at h2)
   refine jP O (aB (dK results138 O ?_))
   have e : xP G N a dl il = 1 := by unfold xP; rw [if_pos (by omega)]
   rw [Kq (by rw [e]; decide), Kr (by rw [e]; decide), e]
   exact ⟨O, H1.right⟩
  ·(try simp only [aA] at h2)
   refine gQ (aO (aO ?_))
   obtain ⟨CS, Aj, oO, nP, lV, wP, uJ, Ic, Ie, MG, rC⟩ := (H1.f2).zh
   refine aC (nK O O (bJ 0 bK O dJ O (bJ 3 bU O ay O (fV aH O (rC).get.2 O (Z (mX O O) (jL O (fun h3 => ?_) (fun h3 => ?_)))))))
   ·(try simp only [aA] at h3)
    refine jP O (aB (dK results138 O ?_))
    have e : xP G N a dl il = 3 := by unfold xP; rw [if_neg (by omega), if_pos (by omega)]
    have Ho5 := rC.f5.f5.f5.f5.f5
    have Hc6 := V.oD lV wP uJ rfl Ho5
    rw [Kq (by rw [e]; decide), Kr (by rw [e]; decide), e]
    exact ⟨O, Hc6.f2.right⟩
   ·(try simp only [aA] at h3)
    refine gQ (bT O (dL O (bJ 0 bK O dJ O (bJ 3 bU O ay O (fV aH O (rC).get.2 O (Z (fO O O (by omega)) (dL O (bJ 0 bK O dJ O (bJ 3 bU O ay O (aI (st5 3 rC ay) ?_))))))))))
    rintro _ w7 H7
    refine qR (bT O (dL O (bJ 0 bK O dJ O (bJ 2 bU O ay O (fV aH O (H7).get.2 O (Z (dY O O) (jL O (fun h4 => ?_) (fun h4 => ?_))))))))
    ·(try simp only [aA] at h4)
     have aeb := H7.drew
     have IY := V.kp (aeb.f6.f6.f6.f6.f6.f6)
     refine y9 [5, 6] IY O (iU 0 O IY O (iU 1 O IY O (jY 2 O IY O (iq 3 O IY 0 bK O dJ O (iq 4 O IY 1 bU O bM O (jQ 5 O IY (fun W hW => kF aV O ((Kp.h hW)).get.2 O) (jQ 6 O IY (fun W hW => dM bf O cO O O ((Kp.h hW).f6).get.2) (nD 7 O (xW O func179 (yE aeb (fun W HW => hd _ (HW.right.right.right.right.right.right)) (fun W HW => hi _ (HW.right.right.right.right.right.right)) (by omega) (by omega))) ?_))))))))
     rintro _ w8 ⟨d8, s8, rfl, H8⟩
     have TQ := V.kp (H8.f8.f8.f8.f8.f8.f8.f8.f8)
     refine eG TQ (fun W hW => (Kp.h hW).right.right.f6.f6.f6.f6.f6.f6) ?_
     refine nD 8 O (uo H8 aV cO dQ O O O (by decide) (by decide)) ?_
     rintro l9 w9 H9
     have TR := V.kp (H9.f9.f9.f9.f9.f9.f9.f9.f9.f9)
     refine eG TR (fun W hW => (Kp.h hW).right.f8.f8.f8.f8.f8.f8.f8.f8) ?_
     refine nD 9 O (iw H9.f7 aV Ak O O O ((H9).aQ) (aG (aX (by first | rfl | exact Rd.one ((H9.f2).aQ)) (aX (by first | rfl | exact Rd.one ((H9.f3).aQ)) bQ))) (by omega) (by omega)) ?_
     rintro l10 w10 pW
     have TS := pW.f2.right
     have Cm := V.kp (TS.f8.f8.f8.f8.f8.f8.f8.f8)
     refine gU Cm (by kernel_rfl) ?_
     refine jY 10 O Cm O (iq 11 O Cm 0 bK O dJ O (iq 12 O Cm 1 bU O bM O ?_))
     refine gy 13 O (by kernel_rfl) (fU 1 (l' := [_, _, _, _, _]) TS.f4 bM O O (by first | rfl | exact Rd.one ((TS).aQ)) O O) ?_
     rintro _ w12 wL
     have Kt := V.kp (wL.f8.f8.f8.f8.f8.f8.f8.f8)
     refine gU Kt (by kernel_rfl) ?_
     have hadd : 0 < op := by omega
     refine ru (aW (jP O (dK results138 O ?_)))
     have e : xP G N a dl il = 0 := by unfold xP; rw [if_neg (by omega), if_neg (by omega)]
     rw [Jy e hadd, Jz e hadd, e]
     have X := (wL.f8.right.f6.f6.f3.f7.f5.f7.f7).lM.swap.lM.swap
     have X2 := V.AP X.f3
     refine ⟨O, V.xu (gv := CS) (nv := l10) (gs := oO) (now := nP ++ [⟨a, d8, dl, s8, il⟩]) (ed := (gG G N : Nat) + 1) ⟨lV.1, by rw [OT]; omega, lV.2.2.1, lV.2.2.2.1, lV.2.2.2.2.1, aaP lV.2.2.2.2.2 ⟨b2, b3⟩⟩ wP (by rw [List.map_append, uJ]; rfl) (by rw [OT]; rfl) (X2.of_eq (by unfold Fh; ac_rfl))⟩
    ·(try simp only [aA] at h4)
     have YE := H7.drew
     have zQ := V.kp (YE.f6.f6.f6.f6.f6.f6)
     refine y9 [5, 6] zQ O (iU 0 O zQ O (iU 1 O zQ O (jY 2 O zQ O (iq 3 O zQ 0 bK O dJ O (iq 4 O zQ 0 bU O fZ O (jQ 5 O zQ (fun W hW => kF bI O ((Kp.h hW)).get.2 O) (jQ 6 O zQ (fun W hW => dM bf O cO O O ((Kp.h hW).f6).get.2) (nD 7 O (xW O func179 (yE YE (fun W HW => hd _ (HW.right.right.right.right.right.right)) (fun W HW => hi _ (HW.right.right.right.right.right.right)) (by omega) (by omega))) ?_))))))))
     rintro _ Qs ⟨d13, s13, rfl, xZ⟩
     have yc := V.kp (xZ.f8.f8.f8.f8.f8.f8.f8.f8)
     refine eG yc (fun W hW => (Kp.h hW).right.right.f6.f6.f6.f6.f6.f6) ?_
     refine nD 8 O (uo xZ aV cO dQ O O O (by decide) (by decide)) ?_
     rintro l14 P6 Az
     have Gn := V.kp (Az.f9.f9.f9.f9.f9.f9.f9.f9.f9)
     refine eG Gn (fun W hW => (Kp.h hW).right.f8.f8.f8.f8.f8.f8.f8.f8) ?_
     refine nD 9 O (kZ (vs := [_]) Az bI bM ny O O O (by decide) (aX (by first | rfl | exact Rd.one ((Az).aQ)) bQ)) ?_
     rintro l15 Qu zI
     have yg := V.kp (zI.f10.f10.f10.f10.f10.f10.f10.f10.f10.f10)
     refine eG yg (fun W hW => (Kp.h hW).right.f9.f9.f9.f9.f9.f9.f9.f9.f9) ?_
     refine nD 10 O (iw zI.f6 bI IZ O O O ((zI).aQ) (aX (by first | rfl | exact Rd.one ((zI.f2).aQ)) bQ) (by omega) (by omega)) ?_
     rintro l16 w16 uY
     have TT := uY.f2.right
     have I4 := V.kp (TT.f9.f9.f9.f9.f9.f9.f9.f9.f9)
     refine gU I4 (by kernel_rfl) ?_
     refine jY 11 O I4 O (iq 12 O I4 0 bK O dJ O (iq 13 O I4 0 bU O fZ O ?_))
     refine gy 14 O (by kernel_rfl) (fU 0 (l' := [_, _, _, _, _]) TT.f5 fZ O O (by first | rfl | exact Rd.one ((TT).aQ)) O O) ?_
     rintro _ Ym Eb
     have Ku := V.kp (Eb.f9.f9.f9.f9.f9.f9.f9.f9.f9)
     refine gU Ku (by kernel_rfl) ?_
     have hadd : ¬ 0 < op := by omega
     refine ru (aW (jP O (dK results138 O ?_)))
     have e : xP G N a dl il = 0 := by unfold xP; rw [if_neg (by omega), if_neg (by omega)]
     rw [YC e hadd, YD e hadd, e]
     have X := (Eb.f9.right.f8.f8.f3.f8.f5.f6.f8.f8).lM.swap.lM.swap
     have X2 := V.AP (es := []) X.J8.f3.f3.f4
     have X4 := V.uz X2.rO.swap
     refine ⟨O, V.xu (gv := l16) (nv := Aj) (gs := oO ++ [(l14, [⟨a, d13, dl, s13, il⟩])]) (now := nP) (ed := (gG G N : Nat) + 1) ⟨Vr lV.1 (List.cons_ne_nil _ _), by rw [QC]; omega, lV.2.2.1, lV.2.2.2.1, QA lV.2.2.2.2.1 (by intro e he; rw [List.mem_singleton.1 he]; exact ⟨b2, b3⟩), lV.2.2.2.2.2⟩ (by rw [List.map_append, wP]; rfl) uJ (by rw [QC]; rfl) (X4.of_eq (by unfold LX; ac_rfl))⟩
end
end Go.Proofs.YtpdeedplgmbopaaGreatDoor
end
section
namespace Go.Proofs.YtpdeedplgmbopaaGreatDoor
open Go.RowKit
def OU (P : Program) (l : Nat) (vs : List Value) (w : World) (T : Value → World → Prop) : Prop :=
  ∃ f tmps c d, (Instr.yield l vs.toArray).run P w = .ok (.round l f tmps c d) w ∧ RoundIn Fence.wide 0 P l f tmps c d w fun e w' => ∃ v, e = .returned v ∧ T v w'
theorem OU.mono {P : Program} {l : Nat} {vs : List Value} {w : World} {T T' : Value → World → Prop} (h : OU P l vs w T) (k : ∀ v w', T v w' → T' v w') : OU P l vs w T' :=
  let ⟨f, tmps, c, d, h1, h2⟩ := h; ⟨f, tmps, c, d, h1, RoundIn.mono h2 fun _ _ ⟨v, e, t⟩ => ⟨v, e, k _ _ t⟩⟩
theorem OU.bool {P : Program} {l : Nat} {vs : List Value} {w : World} {A B : World → Prop} (h : OU P l vs w fun v W' => (v = .bool true ∧ A W') ∨ (v = .bool false ∧ B W')) : OU P l vs w fun v W' => ∃ t, v = .bool t ∧ (t = true → A W') ∧ (t = false → B W') :=
  h.mono fun v W' hv => by
    rcases hv with ⟨rfl, h⟩ | ⟨rfl, h⟩
    · exact ⟨true, rfl, fun _ => h, fun e => by cases e⟩
    · exact ⟨false, rfl, (fun e => by cases e), fun _ => h⟩
theorem OV {P : Program} {L : List (Nat × Value)} {w : World} {ty : TypeId} {x : Operand} {args : List Operand} {ts : Array TypeId} {l : Nat} {vs : List Value} {T : Value → World → Prop} (hx : ev L x = some (.func (.yield l) #[] #[])) (ha : FW L args = some vs) (h : OU P l vs w T) :
    wH P L (.call ⟨.value x, args.toArray, ts⟩) ty w T := by
  obtain ⟨f, tmps, c, d, hy, hr⟩ := h
  refine aax (fun ρ hρ dd pos oM g => ?_) hr
  have hg := hρ _ _ hx
  simp [execOp, resolve, invoke, evs hρ _ _ ha, hg, Deferred.ofValue, hy]
def Iter (P : Program) (w0 : World) (fv : Value) (R : HP) (n : Nat) (E : Nat → List Value → HP → Prop) : Prop :=
  ∀ (l : Nat) (J : Nat → HP) (X : HP) (w : World),
    (∀ k, k < n → ∀ vs A, E k vs A → ∀ G W, V w0 W (A • J k • G) → OU P l vs W fun v W' => (v = .bool true ∧ V w0 W' (J (k + 1) • G)) ∨ (v = .bool false ∧ V w0 W' (X • G))) →
    V w0 w (J 0 • R) → uq P fv [.func (.yield l) #[] #[]] w fun _ W' => V w0 W' (J n • R) ∨ V w0 W' (X • R)
def QD (w0 : World) (I : HP) (Xr : HP) (Xe : Nat → HP) (G : HP) : Exit → Act → World → Prop
  | .normal, _, W => V w0 W (I • G)
  | .ret, _, W => V w0 W (Xr • G)
  | .exit id, _, W => V w0 W (Xe id • G)
  | _, _, _ => False
def Vs (P : Program) (N : Sh) (w0 : World) (body : Code) (I : HP) (Xr : HP) (Xe : Nat → HP) (G : HP) (a : Act) (W : World) : Prop :=
  ∃ (L : List (Nat × Value)) (B : HP), Fits N L a ∧ V w0 W (B • G) ∧ ∀ G' W', V w0 W' (B • G') → WC P N body (QD w0 I Xr Xe G') L W'
def YF : Exit → Act → World → Prop := fun _ _ _ => False
theorem TU {P : Program} {N : Sh} {w0 w : World} {body : Code} {I Xr : HP} {Xe : Nat → HP} {G B : HP} {L : List (Nat × Value)} (H : V w0 w (B • G)) (h : ∀ G' W', V w0 W' (B • G') → WC P N body (QD w0 I Xr Xe G') L W') :
    WQ N (Exit.then (Vs P N w0 body I Xr Xe G) YF) .normal L w := fun _ a ha => ⟨L, B, ha, H, h⟩
theorem Kv {N : Sh} {w0 w : World} {I Xr : HP} {Xe : Nat → HP} {G : HP} {L : List (Nat × Value)} (H : V w0 w (I • G)) : WQ N (QD w0 I Xr Xe G) .normal L w := fun _ _ _ => H
theorem YG {N : Sh} {w0 w : World} {I Xr : HP} {Xe : Nat → HP} {G : HP} {id : Nat} {L : List (Nat × Value)} (H : V w0 w (Xe id • G)) : WQ N (QD w0 I Xr Xe G) (.exit id) L w := fun _ _ _ => H
theorem YH {w0 : World} {I Xr : HP} {Xe : Nat → HP} {G : HP} : NP (QD w0 I Xr Xe G) := fun _ _ _ h => h
def TV : List Nat → List Value → List (Nat × Value) → List (Nat × Value)
  | [], _, L => L
  | _ :: _, [], L => L
  | p :: ps, v :: vs, L => TV ps vs ((p, v) :: L)
theorem QE {n l : Nat} : ∀ (ps : List Nat) (vs : List Value) (L : List (Nat × Value)) (tmps : Array Value), (∀ p ∈ ps, p < n) → Fits ⟨n, [], some l⟩ L { tmps := tmps, defers := [] } →
    Fits ⟨n, [], some l⟩ (TV ps vs L) { tmps := (ps.zip vs).foldl (fun t (p : Nat × Value) => t.setIfInBounds p.1 p.2) tmps, defers := [] }
  | [], _, _, _, _, h => h
  | _ :: _, [], _, _, _, h => h
  | p :: ps, v :: vs, L, tmps, hp, h => QE ps vs _ _ (fun q hq => hp q (by simp [hq])) (h.put (hp p (by simp)) v)
section
variable {P : Program} {N : Sh} {Q : Exit → Act → World → Prop} {L : List (Nat × Value)} {w0 w : World}
theorem BA {g : Operand} {ps : List Nat} {assign body : Code} {fv : Value} {R : HP} {n : Nat} {E : Nat → List Value → HP → Prop} (hg : ev L g = some fv) (hit : Iter P w0 fv R n E) (I : Nat → HP) (Xr : HP) (Xe : Nat → HP) (H : V w0 w (I 0 • R))
    (hps : ps.all (· < N.n) = true)
    (hbody : ∀ l k, k < n → ∀ vs A, E k vs A → ∀ G W, V w0 W (A • I k • G) → vs.length = ps.length ∧ WC P ⟨N.n, [], some l⟩ assign (Exit.then (Vs P ⟨N.n, [], some l⟩ w0 body (I (k + 1)) Xr Xe G) YF) (TV ps vs L) W)
    (hdone : ∀ D W, V w0 W (dW D (.deferred (some [])) • I n • R) → WQ ⟨N.n, D :: N.ds, none⟩ Q .normal L W)
    (hret : ∀ D W, V w0 W (dW D (.deferred (some [])) • Xr • R) → WQ ⟨N.n, D :: N.ds, none⟩ Q .ret L W)
    (aec : ∀ id D W, V w0 W (dW D (.deferred (some [])) • Xe id • R) → WQ ⟨N.n, D :: N.ds, none⟩ Q (.exit id) L W)
    (hro : N.ro = none := by rfl) : WC P N (.rangeFunc g ps.toArray assign body) Q L w := fun np a ha => by
  rw [hro]
  refine wpIn_rangeFunc fun fn _ => ?_
  let wo : LoopState → Option Code → Loop := fun s j => { state := s, pending := j, fn, tmps := a.tmps, params := ps.toArray, assign, body, defers := w.heap.size }
  have afx := run_enterLoop_outer (P := P) (w := w) fn a.tmps ps.toArray assign body
  have H1 : V w0 ((w.alloc (.deferred (some []))).alloc (.loop (wo .ready none))) (dW (w.heap.size + 1) (.loop (wo .ready none)) • dW w.heap.size (.deferred (some [])) • I 0 • R) := by
    have := (H.alloc (.deferred (some []))).alloc (.loop (wo .ready none))
    rw [World.size_alloc] at this
    exact this
  let Lk : LoopState → Option Code → HP := fun s j => dW (w.heap.size + 1) (.loop (wo s j)) • dW w.heap.size (.deferred (some []))
  have acy : ∀ k, k < n → ∀ vs A, E k vs A → ∀ G W, V w0 W (A • (Lk .ready none • I k) • G) → OU P (w.heap.size + 1) vs W fun v W' => (v = .bool true ∧ V w0 W' ((Lk .ready none • I (k + 1)) • G)) ∨
      (v = .bool false ∧ V w0 W' (uZ (fun c : Code => Lk .done (some c) • (match c with | .ret => Xr | .exit id => Xe id | _ => fact False)) • G)) := by
    intro k hk vs A hE G W HW
    have e1 : (A • (Lk .ready none • I k) • G) = (dW (w.heap.size + 1) (.loop (wo .ready none)) • A • I k • dW w.heap.size (.deferred (some [])) • G) := by
      show (A • ((dW (w.heap.size + 1) (.loop (wo .ready none)) • dW w.heap.size (.deferred (some []))) • I k) • G) = _
      ac_rfl
    have HW1 := HW.of_eq e1
    have hl := HW1.get.2
    have hlen := (hbody (w.heap.size + 1) k hk vs A hE _ W (HW1.of_eq (show _ = (A • I k • dW (w.heap.size + 1) (.loop (wo .ready none)) • dW w.heap.size (.deferred (some [])) • G) by ac_rfl))).1
    refine ⟨fn, _, assign, body, run_yield hl (by rw [List.size_toArray, hlen]; exact List.size_toArray.symm), ?_⟩
    have hfit : Fits ⟨N.n, [], some (w.heap.size + 1)⟩ (TV ps vs L) { tmps := (ps.toArray.zip vs.toArray).foldl (fun tmps (t, a) => tmps.setIfInBounds t a) a.tmps, defers := [] } := by
      have := QE (n := N.n) (l := w.heap.size + 1) ps vs L a.tmps (fun p hp => by simpa using List.all_eq_true.1 hps p hp) ⟨ha.size, rfl, ha.at_⟩
      simpa using this
    refine roundIn_of_wpIn trivial ?_
    have HW2 : V w0 W (A • I k • dW (w.heap.size + 1) (.loop (wo .ready none)) • dW w.heap.size (.deferred (some [])) • G) := HW1.of_eq (by ac_rfl)
    have hb := (hbody (w.heap.size + 1) k hk vs A hE _ W HW2).2 (fun c a w h => h) _ hfit
    refine wpIn_mono hb ?_
    rintro e a1 W1 hq
    cases e with
    | exit id => exact hq.elim
    | goto l => exact hq.elim
    | ret => exact hq.elim
    | panic c => exact hq.elim
    | outgrown => exact hq.elim
    | normal =>
      obtain ⟨L1, B, hf1, HB, hgo⟩ := hq
      have HB1 : V w0 W1 (dW (w.heap.size + 1) (.loop (wo .ready none)) • B • dW w.heap.size (.deferred (some [])) • G) := HB.of_eq (by ac_rfl)
      have hl1 := HB1.get.2
      refine ⟨_, run_beginRound hl1 rfl, ?_⟩
      have HB2 : V w0 (W1.putObj (w.heap.size + 1) (.loop (wo .busy none))) (dW (w.heap.size + 1) (.loop (wo .busy none)) • B • dW w.heap.size (.deferred (some [])) • G) := HB1.turn rfl rfl rfl (by simp) (World.putObj_heap_same HB1.lt) fun k hk _ => World.putObj_heap_other hk
      have hbd := hgo (dW (w.heap.size + 1) (.loop (wo .busy none)) • dW w.heap.size (.deferred (some [])) • G) _ (HB2.of_eq (by ac_rfl)) YH a1 hf1
      refine wpIn_mono hbd ?_
      have fin : ∀ (j : Option Code) (W3 : World) (A3 : HP), V w0 W3 (A3 • dW (w.heap.size + 1) (.loop (wo .busy none)) • dW w.heap.size (.deferred (some [])) • G) →
          (Instr.endRound (w.heap.size + 1) j).run P W3 = .ok (.bool j.isNone) (W3.putObj (w.heap.size + 1) (.loop (wo (if j.isNone then .ready else .done) j))) ∧
          V w0 (W3.putObj (w.heap.size + 1) (.loop (wo (if j.isNone then .ready else .done) j))) ((Lk (if j.isNone then .ready else .done) j • A3) • G) := by
        intro j W3 A3 H3
        have H4 := H3.swap
        refine ⟨run_endRound j H4.get.2, ?_⟩
        have H5 : V w0 (W3.putObj (w.heap.size + 1) (.loop (wo (if j.isNone then .ready else .done) j))) (dW (w.heap.size + 1) (.loop (wo (if j.isNone then .ready else .done) j)) • A3 • dW w.heap.size (.deferred (some [])) • G) := H4.turn rfl rfl rfl (by simp) (World.putObj_heap_same H4.lt) fun k hk _ => World.putObj_heap_other hk
        refine H5.of_eq ?_
        show _ = (((dW (w.heap.size + 1) (.loop (wo (if j.isNone then .ready else .done) j)) • dW w.heap.size (.deferred (some []))) • A3) • G)
        ac_rfl
      rintro e a3 W3 hp
      cases e with
      | normal => obtain ⟨h1, h2⟩ := fin none W3 _ hp; exact ⟨_, _, h1, _, rfl, .inl ⟨rfl, h2⟩⟩
      | ret => obtain ⟨h1, h2⟩ := fin (some .ret) W3 _ hp; exact ⟨_, _, h1, _, rfl, .inr ⟨rfl, V.jv .ret h2⟩⟩
      | exit id => obtain ⟨h1, h2⟩ := fin (some (.exit id)) W3 _ hp; exact ⟨_, _, h1, _, rfl, .inr ⟨rfl, V.jv (.exit id) h2⟩⟩
      | goto l => exact hp.elim
      | panic c => exact hp.elim
      | outgrown => exact hp.elim
  have hcall := hit (w.heap.size + 1) (fun k => Lk .ready none • I k) _ _ acy (H1.of_eq (by
    show _ = (((dW (w.heap.size + 1) (.loop (wo .ready none)) • dW w.heap.size (.deferred (some []))) • I 0) • R)
    ac_rfl))
  obtain ⟨f, first, cap, fn', c, rfl, hf, hn, hb, aed⟩ := hcall
  refine ⟨w.heap.size + 1, _, _, { target := .fn (.func f) cap.toArray, args := (first ++ [Value.func (.yield (w.heap.size + 1)) #[] #[]]).toArray }, (w.alloc (.deferred (some []))).alloc (.loop (wo .ready none)), f, _, (w.alloc (.deferred (some []))).alloc (.loop (wo .ready none)), afx, ?_, fun _ _ => trivial, ?_, (fun h => by cases h), Ya.2 (Calls.mono aed ?_)⟩
  · have he := ha.ev hg
    have he2 : a.eval (.const (.func (.yield (w.heap.size + 1)) #[] #[])) = .func (.yield (w.heap.size + 1)) #[] #[] := rfl
    simp [resolve, rangeCall, he, he2, Deferred.ofValue, wo]
  · simp [invoke, callFunc, hf, hb]
    simpa using hn
  · rintro e W2 ⟨v, rfl, hv⟩
    have fin : ∀ (s : LoopState) (j : Option Code) (A : HP), s ≠ .busy → V w0 W2 ((Lk s j • A) • R) → (Instr.endLoop (w.heap.size + 1)).run P W2 = .ok j (W2.putObj (w.heap.size + 1) (.loop (wo .exhausted j))) ∧
        V w0 (W2.putObj (w.heap.size + 1) (.loop (wo .exhausted j))) (dW w.heap.size (.deferred (some [])) • A • R) := by
      intro s j A hs H3
      have H4 : V w0 W2 (dW (w.heap.size + 1) (.loop (wo s j)) • dW w.heap.size (.deferred (some [])) • A • R) := H3.of_eq (by
        show (((dW (w.heap.size + 1) (.loop (wo s j)) • dW w.heap.size (.deferred (some []))) • A) • R) = _
        ac_rfl)
      refine ⟨run_endLoop H4.get.2 hs, ?_⟩
      have H5 : V w0 (W2.putObj (w.heap.size + 1) (.loop (wo .exhausted j))) (dW (w.heap.size + 1) (.loop (wo .exhausted j)) • dW w.heap.size (.deferred (some [])) • A • R) := H4.turn rfl rfl rfl (by simp) (World.putObj_heap_same H4.lt) fun k hk _ => World.putObj_heap_other hk
      exact H5.right
    have hfit : Fits ⟨N.n, w.heap.size :: N.ds, none⟩ L { a with defers := [{ target := .collected w.heap.size, args := #[] }] ++ a.defers } := ⟨ha.size, by simp [ha.defers, X9], ha.at_⟩
    rcases hv with hv | hv
    · obtain ⟨h1, h2⟩ := fin _ _ _ (by decide) hv
      exact ⟨none, _, h1, hdone _ _ h2 np _ hfit⟩
    · obtain ⟨c, hv⟩ := hv.nN
      obtain ⟨h1, h2⟩ := fin _ _ _ (by decide) hv
      cases c with
      | ret => exact ⟨some .ret, _, h1, wpIn_ret (hret _ _ h2 np _ hfit)⟩
      | exit id => exact ⟨some (.exit id), _, h1, wpIn_exit (aec id _ _ h2 np _ hfit)⟩
      | _ => exact absurd h2.swap.fact.1 id
end
end Go.Proofs.YtpdeedplgmbopaaGreatDoor
end
section
namespace Go.Proofs.YtpdeedplgmbopaaGreatDoor
open Go.RowKit
open _root_.Go.Proofs.Tryz
def og (G : List (List jl)) (N : List jl) : List (List jl) := if N = [] then G else G ++ [N]
theorem TW {G : List (List jl)} {N : List jl} (h : N = []) : og G N = G := by unfold og; rw [if_pos h]
theorem uD {G : List (List jl)} {N : List jl} (h : N ≠ []) : og G N = G ++ [N] := by unfold og; rw [if_neg h]
theorem Kw {G : List (List jl)} {N : List jl} : gG (og G N) [] = gG G N := by
  unfold og; split
  · rename_i h; rw [h]
  · simp [gG]
section
variable {w0 w : World} {F : HP} {p : Nat} {G : List (List jl)} {N : List jl} {op : Int} {gv nv v : Value} {gs : List (Value × List eF)} {now es : List eF} {a : Int} {d z : Value} {dl il : List Int}
theorem Dv (H : V w0 w (jm p G N op • F)) : iI prog 177 #[.pointer (some ⟨p, 0, none⟩)] w fun _ w' => V w0 w' (jm p (og G N) [] 0 • F) := by
 refine jr func177 ntmps177 ?_
 refine aO (aO ?_)
 obtain ⟨CS, Aj, oO, nP, lV, wP, uJ, Ic, Ie, MG, rC⟩ := (H).zh
 refine aC (nK O O (bJ 0 bK O dJ O (bJ 1 bU O bM O (fV aV O (rC).get.2 O (Z (kH ((rC.f4).aQ) aV O) (Z (dY O O) (jL O (fun h1 => ?_) (fun h1 => ?_))))))))
 ·(try simp only [aA] at h1)
  have aee : 0 < nP.length := by omega
  have TY := rC.drew
  have qj := V.kp (TY.f5.f5.f5.f5.f5)
  refine y9 [5, 10] qj O (iU 0 O qj O (iU 1 O qj O (jY 2 O qj O (iq 3 O qj 0 bK O dJ O (iq 4 O qj 0 bU O fZ O (jQ 5 O qj (fun W hW => kF bI O ((Kp.h hW)).get.2 O) (iU 6 O qj O (jY 7 O qj O (iq 8 O qj 0 bK O dJ O (iq 9 O qj 1 bU O bM O (jQ 10 O qj (fun W hW => kF aV O ((Kp.h hW)).get.2 O) (nD 11 O (kZ (vs := [_]) TY bI bM ny O O O (by decide) (aX (by first | rfl | exact Rd.one ((TY.f4).aQ)) bQ)) ?_))))))))))))
  rintro l2 w2 H2
  have Am := V.kp (H2.f6.f6.f6.f6.f6.f6)
  refine eG Am (fun W hW => (Kp.h hW).right.f5.f5.f5.f5.f5) ?_
  refine nD 12 O (iw H2.f3 bI IZ O O O ((H2).aQ) (aX (by first | rfl | exact Rd.one ((H2.f5).aQ)) bQ) (by omega) (by omega)) ?_
  rintro l3 w3 H3
  have Hd4 := H3.f2.right
  have Ai := V.kp (Hd4.f5.f5.f5.f5.f5)
  refine gU Ai (by kernel_rfl) ?_
  refine jY 13 O Ai O (iq 14 O Ai 0 bK O dJ O (iq 15 O Ai 0 bU O fZ O ?_))
  refine gy 16 O (by kernel_rfl) (fU 0 (l' := [_, _, _, _, _]) Hd4.f2 fZ O O (by first | rfl | exact Rd.one ((Hd4).aQ)) O O) ?_
  rintro _ w5 H5
  have Fj := V.kp (H5.f5.f5.f5.f5.f5)
  refine gU Fj (by kernel_rfl) ?_
  refine ru (aW (aC (jO O O (dL O (bJ 0 bK O dJ O (bJ 1 bU O bM O (aI (st5 1 H5 bM) ?_)))))))
  rintro _ w6 H6
  refine dL O (bJ 0 bK O dJ O (bJ 2 bU O ay O (aI (st5 2 H6 ay) ?_)))
  rintro _ w7 H7
  refine bY (lK (.inr O) results177 ?_)
  have hN : N ≠ [] := by rintro rfl; exact absurd Ie (by simp only [List.length_nil]; omega)
  rw [uD hN]
  have X := V.rO (v := Aj) (es := nP) (H7.f3.f3.f5.f5).deep
  have X4 := V.uz X.swap
  refine V.xu (gv := l3) (nv := .slice none 0 0) (gs := oO ++ [(Aj, nP)]) (now := []) (ed := (gG G N : Nat)) ⟨Vr lV.1 hN, by rw [← uD hN, Kw]; exact lV.2.1, by decide, by decide, QA lV.2.2.2.2.1 lV.2.2.2.2.2, by simp⟩ (by rw [List.map_append, wP, ← uJ]; rfl) O (by rw [← uD hN, Kw]) ((X4.tY none).of_eq (by ac_rfl))
 ·(try simp only [aA] at h1)
  have aee : nP.length = 0 := by omega
  refine gQ (aC (jO O O (dL O (bJ 0 bK O dJ O (bJ 1 bU O bM O (aI (st5 1 rC bM) ?_))))))
  rintro _ w8 H8
  refine dL O (bJ 0 bK O dJ O (bJ 2 bU O ay O (aI (st5 2 H8 ay) ?_)))
  rintro _ w9 H9
  refine bY (lK (.inr O) results177 ?_)
  have hN : N = [] := by rw [← uJ, List.eq_nil_of_length_eq_zero aee]; rfl
  subst hN
  rw [TW rfl]
  refine V.xu (gv := CS) (nv := .slice none 0 0) (gs := oO) (now := []) (ed := (gG G [] : Nat)) ⟨lV.1, lV.2.1, by decide, by decide, lV.2.2.2.2⟩ wP O O (((H9.f4.right.f4.right.f3.f3).tY none).of_eq (by unfold Fh; ac_rfl))
theorem V.OW (H : V w0 w (EJ v es • F)) : V w0 w (EJ v es • EJ v es • F) := H.vw
theorem WS (b : Nat) : Iter prog w0 (.func (.func 210) #[] #[.pointer (some ⟨b, 0, none⟩)]) (dW b (.cells #[v] 80 (0, 0)) • EJ v es) es.length
  (fun k vs A => vs = [.int .i64 ((es.length - (k + 1) : Nat) : Int), .agg (es.getD (es.length - (k + 1)) default).enc.toArray] ∧ A = EJ v es) := by
 intro l J X w hy H
 refine ⟨210, [], [.pointer (some ⟨b, 0, none⟩)], _, _, O, func210, O, O, ?_⟩
 have H1 : V w0 w (dW b (.cells #[v] 80 (0, 0)) • EJ v es • J 0) := H.of_eq (by ac_rfl)
 obtain ⟨a, c, hv, hc1, hc2, _⟩ := (H1.swap.xO).form
 subst hv
 simp only [List.nil_append, List.cons_append]
 refine X3 func210 ntmps210 ?_
 dsimp only [yY, Nat.reduceAdd]
 refine iV (fV aV O (H1).get.2 O (Z (kH ((H1.f2).xO) aV O) (Z (iZ O O (by omega)) (fP O (aY ?_)))))
 refine gV [(0, _), (1, _)] (fun (k : Nat) => [(3, .int .i64 ((k : Int) - 1))]) (fun (k : Nat) W => k ≤ es.length ∧ V w0 W (dW b (.cells #[.slice a es.length c] 80 (0, 0)) • EJ (.slice a es.length c) es • J (es.length - k))) (fun (k : Nat) => k) (es.length) ug mG ⟨by omega, by rw [Nat.sub_self]; exact H1⟩ ?_
 rintro k w1 ⟨hk, HL⟩
 dsimp only [List.cons_append, List.nil_append]
 refine aO (bT O (Z (mX O O) (jL O (fun h1 => ?_) (fun h1 => ?_))))
 ·(try simp only [aA] at h1)
  refine gQ (aO (aY (aO ?_)))
  obtain ⟨m, rfl⟩ : ∃ m, k = m + 1 := ⟨k - 1, by omega⟩
  rw [show (((m + 1 : Nat) : Int) - 1) = (m : Int) from by omega]
  refine aC (jO O O (fV aV O (HL).get.2 O (bP O ?_)))
  obtain ⟨bv, ov, cv, ev⟩ := Rd.rG ((HL.f2).xO) (by omega)
  cases ev
  refine Z (dP aV cO O O (by omega)) (Z (uy (ys := [_, _, _]) ((HL.f2).xO) (by omega) bf O cO O (wO eF.Gl (by omega) default) O) (jV (OV O O (hy (es.length - (m + 1)) (by omega) _ _ ⟨by rw [show es.length - (es.length - (m + 1) + 1) = m from by omega]; rfl, O⟩ (EJ (.slice (some ⟨bv, ov, none⟩) es.length c) es • dW b (.cells #[.slice (some ⟨bv, ov, none⟩) es.length c] 80 (0, 0))) _ (HL.swap.OW.of_eq (by ac_rfl))).bool) ?_))
  rintro _ w2 ⟨t, rfl, ht1, ht2⟩
  refine Z (lC O) (jL O (fun h2 => ?_) (fun h2 => ?_))
  ·(try simp only [aA] at h2)
   have HX := ht2 (by simpa using h2)
   refine nO (aT (aB (aB (aT (we0 results210 ?_)))))
   exact .inr (HX.of_eq (by ac_rfl))
  ·(try simp only [aA] at h2)
   have HN : V w0 w2 (dW b (.cells #[.slice (some ⟨bv, ov, none⟩) es.length c] 80 (0, 0)) • EJ (.slice (some ⟨bv, ov, none⟩) es.length c) es • J (es.length - m)) := by
    have h9 := ht1 (by simpa using h2)
    rw [show es.length - (m + 1) + 1 = es.length - m from by omega] at h9
    exact h9.of_eq (by ac_rfl)
   refine dn (aK (aW (aC (bP O (Z (iZ O O (by omega)) (iJ O (bY ?_)))))))
   refine dU (m) ?_ ?_ ?_ ?_
   ·exact mG
   ·exact ug
   ·(try dsimp only)
    first | done | exact ⟨by omega, HN.f2.f2⟩
   ·(try dsimp only); omega
 ·(try simp only [aA] at h1)
  refine dO (aN (aN (bn (lK (.inr O) results210 ?_))))
  obtain rfl : k = 0 := by omega
  rw [Nat.sub_zero] at HL
  exact .inl (HL.of_eq (by ac_rfl))
end
def Jp (e : jl) : jl := (e.1, e.2.2, e.2.1)
def YI (c : Nat) (es : List eF) (k : Nat) : HP := uZ fun (x : Value × List eF) => fact (x.2.map eF.says = ((es.map eF.says).reverse.take k).map Jp) • dW c (.cells #[x.1] 80 (0, 0)) • LX x.1 x.2
theorem YJ {es : List eF} {k : Nat} (hk : k < es.length) : ((es.map eF.says).reverse.take (k + 1)).map Jp = ((es.map eF.says).reverse.take k).map Jp ++ [Jp (es.getD (es.length - (k + 1)) default).says] := by
  rw [List.take_succ_eq_append_getElem (by simpa using hk), List.map_append]
  congr 1
  simp only [List.map_cons, List.map_nil, List.getElem_reverse, List.getElem_map, List.length_map]
  rw [List.getD_eq_getElem?_getD, List.getElem?_eq_getElem (by omega)]
  have e : es.length - 1 - k = es.length - (k + 1) := by omega
  simp only [Option.getD_some, e]
section
variable {w0 w : World} {F : HP} {p : Nat} {G : List (List jl)} {N : List jl} {op : Int} {gv nv v : Value} {gs : List (Value × List eF)} {now es : List eF} {a : Int} {d z : Value} {dl il : List Int}
theorem V.QF {c k : Nat} (H : V w0 w (YI c es k • F)) : ∃ u fs, fs.map eF.says = ((es.map eF.says).reverse.take k).map Jp ∧ fs.length ≤ es.length ∧ V w0 w (dW c (.cells #[u] 80 (0, 0)) • Row 189 3 u fs.length (fs.flatMap eF.enc) • lU fs • F) := by
  obtain ⟨⟨u, fs⟩, H⟩ := H.nN
  obtain ⟨h, H⟩ := H.flat.fact
  refine ⟨u, fs, h, ?_, ?_⟩
  · have := congrArg List.length h
    simp at this
    omega
  · have := H.flat
    unfold LX at this
    exact this.of_eq (by ac_rfl)
theorem V.YK {c k : Nat} {u : Value} {fs : List eF} (h : fs.map eF.says = ((es.map eF.says).reverse.take k).map Jp) (H : V w0 w (dW c (.cells #[u] 80 (0, 0)) • LX u fs • F)) : V w0 w (YI c es k • F) :=
  V.jv (u, fs) (V.deep (V.lJ h H.deep))
theorem V.acz (H : V w0 w (EJ v es • F)) {k : Nat} (hk : k < es.length) : V w0 w (oI .i32 (es.getD k default).d (es.getD k default).dl • oI .i32 (es.getD k default).i (es.getD k default).il • EJ v es • F) := by
  have h1 : V w0 w (oI .i32 (es.getD k default).d (es.getD k default).dl • EJ v es • EJ v es • F) := H.OW.OW.FV (qI (fun I h => (h.2 k hk).1) _)
  have h2 : V w0 w (oI .i32 (es.getD k default).i (es.getD k default).il • oI .i32 (es.getD k default).d (es.getD k default).dl • EJ v es • F) := h1.swap.FV (qI (fun I h => (h.2 k hk).2) _)
  exact h2.swap
theorem WT (H : V w0 w F) (hv : v.oneCell' = true) : iI prog 197 #[v] w fun v' w' => ∃ b, v' = .func (.func 210) #[] #[.pointer (some ⟨b, 0, none⟩)] ∧ V w0 w' (dW b (.cells #[v] 80 (0, 0)) • F) := by
  refine jr func197 ntmps197 ?_
  refine iV (jV (jH (l := [_]) H O (by first | rfl | exact Ea (by first | rfl | assumption))) ?_)
  rintro _ w1 ⟨b1, rfl, H1⟩
  refine fP O (iV (Z (y5 O O) (fC O (dK results197 O ?_))))
  exact ⟨_, O, H1⟩
theorem Gp (H : V w0 w (EJ v es • F)) (hB : ∀ k, k < es.length → EB (es.getD k default).says) (hL : es.length ≤ 16384) :
  iI prog 178 #[v] w fun v' w' => ∃ fs : List eF, fs.map eF.says = (es.map eF.says).reverse.map Jp ∧ V w0 w' (Row 189 3 v' fs.length (fs.flatMap eF.enc) • lU fs • EJ v es • F) := by
 refine jr func178 ntmps178 ?_
 refine jR O (iV (jV (iy (l := [_]) H ny O) ?_))
 rintro _ w1 ⟨b1, rfl, H1⟩
 refine qR (bT O (dS O func197 (WT H1 (Rd.one ((H1.f2).xO))) ?_))
 rintro _ w2 ⟨bB2, rfl, H2⟩
 refine iL (aY ?_)
 have WU := H2.f2
 have Vt := V.YK (es := es) (k := 0) (fs := []) rfl (WU.tY none).swap
 refine BA O (WS bB2) (fun k => YI b1 es k • F) (fact False) (fun _ => fact False) (Vt.f3.f3.f3.f3.f3.g2.comm) (by rfl) ?_ ?_ ?_ ?_
 ·rintro l5 k acA vs5 A5 ⟨rfl, rfl⟩ G5 w5 H5
  try simp only [dD, pz, yw] at H5
  refine ⟨O, ?_⟩
  dsimp only [TV]
  have Hq := (H5).acz (k := es.length - (k + 1)) (by omega)
  obtain ⟨hb1, hb2⟩ := hB (es.length - (k + 1)) (by omega)
  have hb1 : (es.getD (es.length - (k + 1)) default).dl.length ≤ 35184372087808 := hb1
  have hb2 : (es.getD (es.length - (k + 1)) default).il.length ≤ 35184372087808 := hb2
  obtain ⟨u, fs, hfs, hfl, HI⟩ := (Hq.f4).QF
  refine aC (jV (iy (l := [_, _, _]) HI dQ O) ?_)
  rintro _ w6 ⟨b6, rfl, H6⟩
  refine aI (dw 0 (l' := [_, _, _]) (us := [_, _, _]) H6 cO O O O (aG (aX (by first | rfl | exact Rd.one ((H6.f5).kN)) (aX (by first | rfl | exact Rd.one ((H6.f6).kN)) bQ))) O O) ?_
  rintro _ w7 H7
  refine bY ?_
  refine TU (H7.g8) ?_
  intro G8 w8 H8
  try simp only [dD] at H8
  refine aY ?_
  have aef := H8.drew
  have YL := V.kp (aef.f7.f7.f7.f7.f7.f7.f7)
  refine y9 [0, 1] YL O (jQ 0 O YL (fun W hW => kF aV O ((Kp.h hW).f2).get.2 O) (jQ 1 O YL (fun W hW => dM bf O cO O O ((Kp.h hW)).get.2) (nD 2 O (xW O func198 (Ib aef (fun W HW => (HW.f5).kN) (fun W HW => (HW.f6).kN) (by omega) (by omega))) ?_)))
  rintro _ w9 ⟨d9, s9, rfl, H9⟩
  have TR := V.kp (H9.f9.f9.f9.f9.f9.f9.f9.f9.f9)
  refine eG TR (fun W hW => (Kp.h hW).right.right.f7.f7.f7.f7.f7.f7.f7) ?_
  refine nD 3 O (uo H9 aV cO dQ O O O (by decide) (by decide)) ?_
  rintro l10 w10 pW
  have YM := V.kp (pW.f10.f10.f10.f10.f10.f10.f10.f10.f10.f10)
  refine eG YM (fun W hW => (Kp.h hW).right.f9.f9.f9.f9.f9.f9.f9.f9.f9) ?_
  refine nD 4 O (iw pW.f6 aV Ak O O O ((pW).aQ) (aG (aX (by first | rfl | exact Rd.one ((pW.f2).aQ)) (aX (by first | rfl | exact Rd.one ((pW.f3).aQ)) bQ))) (by omega) (by omega)) ?_
  rintro l11 FX sW
  have MH := sW.f2.right
  have Kt := V.kp (MH.f9.f9.f9.f9.f9.f9.f9.f9.f9)
  refine gU Kt (by kernel_rfl) ?_
  refine gy 5 O (by kernel_rfl) (fU 0 (l' := [_]) MH.f5 bM O O (by first | rfl | exact Rd.one ((MH).aQ)) O O) ?_
  rintro _ Qs xZ
  have yc := V.kp (xZ.f9.f9.f9.f9.f9.f9.f9.f9.f9)
  refine gU yc (by kernel_rfl) ?_
  refine ru (aK ?_)
  refine Kv ?_
  have X := (xZ.f5.right.f6.right.f6.right.f6.right.f6.f2.f6.f4.f6.f6).lM.swap.lM.swap
  have X2 := V.AP X.f3
  exact (V.YK (es := es) (k := k + 1) (by rw [List.map_append, hfs, YJ (by omega)]; rfl) X2.swap).deep
 ·rintro D14 P6 Az
  have Qw := Az.ed
  try simp only [dD, pz, yw] at Qw
  have acB := Qw.Va
  obtain ⟨u, fs, hfs, hfl, HI⟩ := (acB.f4).QF
  refine aK (aW (iV (fV aV O (HI).get.2 O (fC O ?_))))
  refine Jv (.inl O) (HI.f4) (fun Qu zI => ?_)
  refine ⟨_, ack results178 O, ?_⟩
  rw [List.take_of_length_le (by simp)] at hfs
  exact ⟨_, hfs, zI.right.f3.right.f3.f3.f3⟩
 ·rintro D w H; exact absurd H.swap.fact.1 id
 ·rintro id D w H; exact absurd H.swap.fact.1 fun h => h
end
def YN (G : List (List jl)) (N : List jl) : Int := if G.length + N.length = 0 then 6 else 0
def Vu (G : List (List jl)) (N : List jl) : List (List jl) := if G.length + N.length = 0 then G else (og G N).dropLast
def Vw (G : List (List jl)) (N : List jl) : List jl := if G.length + N.length = 0 then N else []
def Vx (G : List (List jl)) (N : List jl) (op : Int) : Int := if G.length + N.length = 0 then op else 0
def abP (G : List (List jl)) (N : List jl) : List jl := if G.length + N.length = 0 then [] else ((og G N).getLastD []).reverse.map Jp
theorem NM {G : List (List jl)} {g N : List jl} : gG (G ++ [g]) N = gG G N + g.length := by simp [gG]; omega
section
variable {w0 w : World} {F : HP} {p : Nat} {G : List (List jl)} {N : List jl} {op : Int} {gv nv v : Value} {gs : List (Value × List eF)} {now es : List eF} {a : Int} {d z : Value} {dl il : List Int}
theorem Ua (h : ¬ G.length + N.length = 0) : og G N ≠ [] := by
  unfold og; split
  · rename_i hN; rintro rfl; subst hN; exact h rfl
  · simp
theorem V.Ub (H : V w0 w (jm p G [] op • F)) (hG : G ≠ []) : ∃ gv nv hs gl zk, G = hs.map (fun g => g.2.map eF.says) ++ [zk.map eF.says] ∧ UOk G [] op ∧ G.length = hs.length + 1 ∧ hs.length ≤ 16384 ∧ zk.length ≤ 16384 ∧ (∀ k, k < zk.length → EB (zk.getD k default).says) ∧
    V w0 w (dW p (.cells #[gv, nv, .int .i64 op, .int .i64 (gG G [] : Nat), .bool true] 235 (0, 0)) • Row 80 1 gv (hs.length + 1) (hs.map (·.1) ++ [gl]) • pJ hs • EJ gl zk • LX nv [] • F) := by
  obtain ⟨gv, nv, gs, now, h1, h2, h3, h4, h5, h6, H⟩ := H.zh
  obtain rfl : now = [] := List.eq_nil_of_length_eq_zero (by simpa using h5)
  rcases List.eq_nil_or_concat gs with rfl | ⟨hs, ⟨gl, zk⟩, rfl⟩
  · exact absurd h2.symm hG
  · have hG2 : G = hs.map (fun g => g.2.map eF.says) ++ [zk.map eF.says] := by rw [← h2]; simp
    have hle : zk.length ≤ 16384 := by
      have := h1.2.1
      rw [hG2, NM] at this
      simp at this
      omega
    refine ⟨gv, nv, hs, gl, zk, hG2, h1, ?_, ?_, hle, fun k hk => ?_, ?_⟩
    · rw [hG2]; simp
    · rw [hG2] at h6; simp at h6; omega
    · refine h1.2.2.2.2.1 (zk.map eF.says) (by rw [hG2]; simp) _ ?_
      rw [List.getD_eq_getElem?_getD, List.getElem?_eq_getElem hk]
      exact List.mem_map_of_mem (List.getElem_mem hk)
    · rw [List.concat_eq_append, List.length_append, List.map_append] at H
      have H1 := (H.f3.Qy (k := hs.length) (by simp)).swap
      rw [show (hs ++ [(gl, zk)]).getD hs.length default = (gl, zk) from by simp [List.getD_eq_getElem?_getD]] at H1
      have H2 := H1.Qz hs.length
      rw [List.take_left' rfl] at H2
      exact H2.of_eq (by unfold LX; ac_rfl)
theorem EK (H : V w0 w (jm p G N op • F)) : iI prog 136 #[.pointer (some ⟨p, 0, none⟩)] w fun v w' => ∃ u, ∃ fs : List eF, v = .tuple #[u, .int .i64 (YN G N)] ∧ fs.map eF.says = abP G N ∧
  V w0 w' (Row 189 3 u fs.length (fs.flatMap eF.enc) • lU fs • jm p (Vu G N) (Vw G N) (Vx G N op) • F) := by
 unfold YN abP Vu Vw Vx
 refine jr func136 ntmps136 ?_
 refine iV (iJ O (vY O (bT O (dS O func158 (lQ H) ?_))))
 rintro _ _ ⟨rfl, rfl⟩
 refine iL (qH (gQ (aO (aO ?_))))
 obtain ⟨CS, Aj, oO, nP, lV, wP, uJ, Ic, Ie, MG, rC⟩ := (H).zh
 have Ez := rC.drew
 have je := V.kp (Ez.f5.f5.f5.f5.f5)
 refine y9 [4, 10] je O (iU 0 O je O (jY 1 O je O (iq 2 O je 0 bK O dJ O (iq 3 O je 0 bU O fZ O (jQ 4 O je (fun W hW => kF bI O ((Kp.h hW)).get.2 O) (jB 5 O je (fun _ => kH ((Ez.f2).aQ) bI O) (iU 6 O je O (jY 7 O je O (iq 8 O je 0 bK O dJ O (iq 9 O je 1 bU O bM O (jQ 10 O je (fun W hW => kF aV O ((Kp.h hW)).get.2 O) (jB 11 O je (fun _ => kH ((Ez.f4).aQ) aV O) (jB 12 O je (fun _ => fO O O (by omega)) (jB 13 O je (fun _ => dX O O) (ru (aW (bH O (fun h1 => ?_) (fun h1 => ?_))))))))))))))))))
 ·(try simp only [aA] at h1)
  have hGN : G.length + N.length = 0 := by omega
  have QB := Ez.f5.f5.f5.f5.f5
  have P7 := V.oD lV wP uJ rfl QB
  refine iV (iJ O (fC O (aB (P5 results136 O O ?_))))
  simp only [if_pos hGN]
  exact ⟨_, [], O, O, ((P7).tY none).edL⟩
 ·(try simp only [aA] at h1)
  have hGN : ¬ G.length + N.length = 0 := by omega
  have YO := Ez.f5.f5.f5.f5.f5
  have YP := V.oD lV wP uJ rfl YO
  refine gQ (bT O (dS O func177 (Dv YP) ?_))
  rintro _ w9 H9
  refine qR ?_
  obtain ⟨gv, nv, hs, gl, zk, hG, hok, hl1, hl2, hl3, hEB, HU⟩ := (H9).Ub (Ua hGN)
  have htot := hok.2.1
  refine aC (nK O O (bJ 0 bK O dJ O (bJ 0 bU O fZ O (fV bI O (HU).get.2 O (Z (kH ((HU.f2).aQ) bI O) (Z (iZ O O (by omega)) (fP O (bT O (dL O (bJ 0 bK O dJ O (bJ 0 bU O fZ O (fV bI O (HU).get.2 O (bP O ?_)))))))))))))
  obtain ⟨bgv, ogv, cgv, egv⟩ := Rd.rG ((HU.f2).aQ) (by omega)
  cases egv
  refine Z (dP bI bM O O (by omega)) ?_
  refine Z (fG (dA aV O) O (by first | exact Rd.mZ ((HU.f2).aQ) (by omega) | exact Rd.yA ((HU.f2).aQ) (by omega) | exact Rd.xX ((HU.f2).aQ) (by omega))) ?_
  rw [show (hs.map (·.1) ++ [gl]).getD ((((hs.length + 1 : Nat)) : Int) - 1).toNat undef = gl from by rw [show ((((hs.length + 1 : Nat)) : Int) - 1).toNat = hs.length from by omega]; simp [List.getD_eq_getElem?_getD]]
  refine fP O (bT O (nK O O (bJ 0 bK O dJ O (bJ 0 bU O fZ O (fV bI O (HU).get.2 O (bP O (Z (rH ((HU.f2).aQ) bI bM O O O (by omega)) ?_)))))))
  refine dL O (bJ 0 bK O dJ O (bJ 0 bU O fZ O (aI (fU 0 (l' := [_, _, _, _, _]) HU fZ O O (by first | rfl | exact Rd.one (Rd.ad8 ((HU.f2).aQ) (by omega))) O O) ?_)))
  rintro _ w10 pW
  refine rZ O (dL O (bJ 0 bK O dJ O (bJ 3 bU O ay O (fV aH O (pW).get.2 O (bP O (Z (kH ((pW.f4).xO) aV O) (Z (iZ O O (by omega)) (dL O (bJ 0 bK O dJ O (bJ 3 bU O ay O (aI (st5 3 pW ay) ?_)))))))))))
  rintro _ FX sW
  refine rZ O (dS O func178 (Gp sW.f4 hEB hl3) ?_)
  rintro u12 w12 ⟨YQ, abQ, wL⟩
  refine iJ O (fC O (P5 results136 O O ?_))
  simp only [if_neg hGN]
  have hdl : (og G N).dropLast = hs.map (fun g => g.2.map eF.says) := by rw [hG]; simp
  have hlast : (og G N).getLastD [] = zk.map eF.says := by rw [hG]; simp
  have hX := (wL.f3.right.f6.f6.f5.f5.f5.f6).Yi (h := hs.length) (by omega)
  rw [hdl, hlast]
  rw [Nat.mul_one, List.take_left' (by simp), show (((hs.length + 1 : Nat) : Int) - 1).toNat = hs.length from by omega, show Int.toNat 0 = 0 from rfl] at hX
  have hT : gG (og G N) [] = gG (hs.map (fun g => g.2.map eF.says)) [] + zk.length := by rw [hG, NM, List.length_map]
  have hok2 : UOk (hs.map (fun g => g.2.map eF.says)) [] 0 := ⟨fun g hg => hok.1 g (by rw [hG]; exact List.mem_append_left _ hg), by omega, by decide, by decide, fun g hg => hok.2.2.2.2.1 g (by rw [hG]; exact List.mem_append_left _ hg), by simp⟩
  refine ⟨_, _, O, (by assumption), ?_⟩
  have hU := V.xu (gv := vH 1 0 hs.length (.slice (some ⟨bgv, ogv, none⟩) (hs.length + 1) cgv)) (nv := nv) (gs := hs) (now := []) (ed := (gG (og G N) [] : Nat) - (zk.length : Int)) (F := Row 189 3 u12 YQ.length (YQ.flatMap eF.enc) • lU YQ • F) hok2 rfl rfl (by omega) (hX.of_eq (by unfold Fh; ac_rfl))
  exact hU.of_eq (by ac_rfl)
end
def AQ (op : Int) : Int := if op = 0 then 1 else 0
def acC (G : List (List jl)) (N : List jl) (op : Int) : List (List jl) := if op = 1 then og G N else G
def acD (N : List jl) (op : Int) : List jl := if op = 1 then [] else N
def aaQ (op : Int) : Int := if op = 0 then 0 else op - 1
theorem WV {es : List eF} {k : Nat} (hk : k < es.length) : (es.take (k + 1)).map eF.says = (es.take k).map eF.says ++ [(es.getD k default).says] := by
  rw [List.take_succ_eq_append_getElem hk, List.map_append, List.getD_eq_getElem?_getD, List.getElem?_eq_getElem hk]
  rfl
section
variable {w0 w : World} {F : HP} {p : Nat} {G : List (List jl)} {N : List jl} {op : Int} {gv nv v : Value} {gs : List (Value × List eF)} {now es : List eF} {a : Int} {d z : Value} {dl il : List Int}
theorem BD (H : V w0 w (jm p G N op • F)) : iI prog 139 #[.pointer (some ⟨p, 0, none⟩)] w fun v w' => v = .int .i64 (AQ op) ∧ V w0 w' (jm p (acC G N op) (acD N op) (aaQ op) • F) := by
 unfold AQ acC acD aaQ
 refine jr func139 ntmps139 ?_
 refine jR O (aO (bT O (dS O func158 (lQ H) ?_)))
 rintro _ _ ⟨rfl, rfl⟩
 refine iL (qH (gQ (aO (aO ?_))))
 obtain ⟨CS, Aj, oO, nP, lV, wP, uJ, Ic, Ie, MG, rC⟩ := (H).zh
 have hop := lV.2.2.1
 have hop2 := lV.2.2.2.1
 refine aC (nK O O (bJ 0 bK O dJ O (bJ 2 bU O ay O (fV aH O (rC).get.2 O (Z (dX O O) (jL O (fun h1 => ?_) (fun h1 => ?_)))))))
 ·(try simp only [aA] at h1)
  have h0 : op = 0 := by omega
  refine jP O (aB (dK results139 O ?_))
  have QB := rC.f5.f5.f5.f5.f5
  have P7 := V.oD lV wP uJ rfl QB
  subst h0
  exact ⟨O, P7⟩
 ·(try simp only [aA] at h1)
  have h0 : ¬ op = 0 := by omega
  refine gQ (aO (bT O (dL O (bJ 0 bK O dJ O (bJ 2 bU O ay O (fV aH O (rC).get.2 O (Z (iZ O O (by omega)) (dL O (bJ 0 bK O dJ O (bJ 2 bU O ay O (aI (st5 2 rC ay) ?_)))))))))))
  rintro _ w6 H6
  refine rZ O (dL O (bJ 0 bK O dJ O (bJ 2 bU O ay O (fV aH O (H6).get.2 O (Z (dX O O) (jL O (fun h2 => ?_) (fun h2 => ?_)))))))
  ·(try simp only [aA] at h2)
   have h1 : op = 1 := by omega
   have YO := H6.f5.f5.f5.f5.f5
   have YP := V.oD (op := op - 1) ⟨lV.1, lV.2.1, by omega, by omega, lV.2.2.2.2⟩ wP uJ rfl YO
   refine aC (bP O (dS O func177 (Dv YP) ?_))
   rintro _ w9 H9
   refine iL (jP O (dK results139 O ?_))
   subst h1
   exact ⟨O, H9⟩
  ·(try simp only [aA] at h2)
   have h1 : ¬ op = 1 := by omega
   refine gQ (jP O (dK results139 O ?_))
   rw [if_neg h0, if_neg h1, if_neg h1, if_neg h0]
   exact ⟨O, V.oD ⟨lV.1, lV.2.1, by omega, by omega, lV.2.2.2.2⟩ wP uJ O H6.f5.f5.f5.f5.f5⟩
theorem Ky (H : V w0 w F) (hv : Wy w0 F 3 v es.length (es.flatMap eF.enc)) (he : ∀ k, k < es.length → jE w0 F .i32 (es.getD k default).d (es.getD k default).dl ∧ jE w0 F .i32 (es.getD k default).i (es.getD k default).il)
  (hB : ∀ k, k < es.length → EB (es.getD k default).says) (hL : es.length ≤ 16384) :
  iI prog 173 #[v] w fun v' w' => ∃ fs : List eF, fs.map eF.says = es.map eF.says ∧ V w0 w' (Row 189 3 v' fs.length (fs.flatMap eF.enc) • lU fs • F) := by
 refine jr func173 ntmps173 ?_
 refine jR O (jR O (aO (bT O (Z (kH (hv _ (H)) aV O) (bP O (iL (aY ?_)))))))
 refine gV [(6, _), (7, _)] (fun (⟨k, u⟩ : Nat × Value) => [(3, u), (8, .int .i64 (k : Int))]) (fun (⟨k, u⟩ : Nat × Value) W => k ≤ es.length ∧ ∃ fs : List eF, fs.map eF.says = (es.take k).map eF.says ∧ V w0 W (Row 189 3 u fs.length (fs.flatMap eF.enc) • lU fs • F)) (fun (⟨k, u⟩ : Nat × Value) => es.length - k) ((0, .slice none 0 0)) ug ug ⟨by omega, [], O, (H.tY none).edL⟩ ?_
 rintro ⟨k, u⟩ w1 ⟨hk, fs, hfs, HL⟩
 dsimp only [List.cons_append, List.nil_append]
 refine iV (Z (gB O O) (qR (bH O (fun h1 => ?_) (fun h1 => ?_))))
 ·(try simp only [aA] at h1)
  refine gQ (aO (aY (iV ?_)))
  obtain ⟨bv, ov, cv, ev⟩ := Rd.rG (hv _ (HL.right.right)) (by omega)
  cases ev
  refine Z (dP aV cO O O (by omega)) (Z (uy (ys := [_, _, _]) (hv _ (HL.right.right)) (by omega) bf O cO O (wO eF.Gl (by omega) default) O) ?_)
  have hkl : k < es.length := by omega
  obtain ⟨f1, f2⟩ := he k hkl
  obtain ⟨hb1, hb2⟩ := hB k hkl
  have hb1 : (es.getD k default).dl.length ≤ 35184372087808 := hb1
  have hb2 : (es.getD k default).il.length ≤ 35184372087808 := hb2
  have hfl : fs.length = k := by have h9 := congrArg List.length hfs; simp at h9; omega
  refine jV (iy (l := [_, _, _]) HL dQ O) ?_
  rintro _ w2 ⟨b2, rfl, H2⟩
  refine aI (dw 0 (l' := [_, _, _]) (us := [_, _, _]) H2 cO O O O (aG (aX (by first | rfl | exact Rd.one (f1 _ (H2.right.right.right))) (aX (by first | rfl | exact Rd.one (f2 _ (H2.right.right.right))) bQ))) O O) ?_
  rintro _ w3 H3
  refine iL (aC (bP O (Z (dM bf O cO O O (H3).get.2) (dS O func179 (yE H3 (fun W HW => f1 _ (HW.right.right.right)) (fun W HW => f2 _ (HW.right.right.right)) (by omega) (by omega)) ?_))))
  rintro _ w4 ⟨d4, s4, rfl, H4⟩
  refine jV (uo H4 aV cO dQ O O O (by decide) (by decide)) ?_
  rintro l5 w5 H5
  refine jV (iw H5.f5 aV Ak O O O ((H5).aQ) (aG (aX (by first | rfl | exact Rd.one ((H5.f2).aQ)) (aX (by first | rfl | exact Rd.one ((H5.f3).aQ)) bQ))) (by omega) (by omega)) ?_
  rintro l6 w6 H6
  have Hd7 := H6.f2.right
  refine iJ O (bY (aK (aW (aC (Z (fO O O (by omega)) (bP O (bY ?_)))))))
  refine dU ((k + 1, l6)) ?_ ?_ ?_ ?_
  ·exact ug
  ·exact ug
  ·(try dsimp only)
   first | done | exact ⟨by omega, _, by rw [List.map_append, hfs, WV (by omega)]; rfl, (V.AP (Hd7.f4.right.f4.f2.f4.f4).lM.swap.lM.swap.f3).edL⟩
  ·(try dsimp only); omega
 ·(try simp only [aA] at h1)
  refine dO (aN (aN (bn (aW (bT O (fC O (dK results173 O ?_)))))))
  rw [List.take_of_length_le (by omega)] at hfs
  exact ⟨_, hfs, HL.f2.f2⟩
theorem V.qV {es : List eF} (H : V w0 w (lU es • F)) {k : Nat} (hk : k < es.length) : gJ w .i32 (es.getD k default).d (es.getD k default).dl ∧ gJ w .i32 (es.getD k default).i (es.getD k default).il := let ⟨I, h, hI⟩ := H.tX; ⟨(h k hk).1.rd hI, (h k hk).2.rd hI⟩
theorem Dw (H : V w0 w (Row 189 3 v es.length (es.flatMap eF.enc) • lU es • F)) (hB : ∀ k, k < es.length → EB (es.getD k default).says) (hL : es.length ≤ 16384) :
    iI prog 173 #[v] w fun v' w' => ∃ fs : List eF, fs.map eF.says = es.map eF.says ∧ V w0 w' (Row 189 3 v' fs.length (fs.flatMap eF.enc) • lU fs • Row 189 3 v es.length (es.flatMap eF.enc) • lU es • F) :=
  Ky H (fun W HW => HW.aQ) (fun k hk => ⟨fun W HW => (HW.right.qV hk).1, fun W HW => (HW.right.qV hk).2⟩) hB hL
theorem Ap (H : V w0 w (EJ v es • F)) (hB : ∀ k, k < es.length → EB (es.getD k default).says) (hL : es.length ≤ 16384) :
    iI prog 173 #[v] w fun v' w' => ∃ fs : List eF, fs.map eF.says = es.map eF.says ∧ V w0 w' (Row 189 3 v' fs.length (fs.flatMap eF.enc) • lU fs • EJ v es • F) :=
  Ky H (fun W HW => HW.xO) (fun k hk => ⟨fun W HW => HW.ad9 hk, fun W HW => HW.aea hk⟩) hB hL
end
def ahu (G : List (List jl)) (N : List jl) : List jl := (og G N).flatten.reverse.map Jp
section
variable {w0 w : World} {F : HP} {p : Nat} {G : List (List jl)} {N : List jl} {op : Int} {gv nv v u : Value} {gs : List (Value × List eF)} {now es fs : List eF} {a : Int} {d z : Value} {dl il : List Int}
theorem Kz (H : V w0 w (jm p G N op • F)) : iI prog 204 #[.pointer (some ⟨p, 0, none⟩)] w fun _ w' => V w0 w' (jm p [] [] 0 • F) := by
 refine jr func204 ntmps204 ?_
 refine bT O (dS O func158 (lQ H) ?_)
 rintro _ _ ⟨rfl, rfl⟩
 refine Z (lC O) (iL (wcE O (fun h1 => ?_)))
 (try simp only [aA] at h1)
 obtain ⟨CS, Aj, oO, nP, lV, wP, uJ, Ic, Ie, MG, rC⟩ := (H).zh
 refine aC (bP O (Z (mF (pl := #[(0, 4), (4, 1)]) (#[_, _, _, _, _]) bK zeroValue235 (fun w => by kernel_rfl) O (O)) (dL O (aI (dw 0 (l' := [_, _, _, _, _]) (us := [_, _, _, _, _]) rC sizeOf235 O O O (aG (aG (aG (aG (aG bQ))))) O O) ?_))))
 rintro _ w3 H3
 refine bY (lK (.inr O) results204 ?_)
 refine V.xu (gv := .slice none 0 0) (nv := .slice none 0 0) (gs := []) (now := []) ⟨by simp, by decide, by decide, by decide, by simp, by simp⟩ O O O ?_
 exact (((H3.f2.right.f2.right.f2.right.f2.right).tY none).Gm none).of_eq (by ac_rfl)
theorem V.YR (H : V w0 w (EJ v es • F)) : ∀ x ∈ es.flatMap eF.enc, x.oneCell' = true :=
  V.Du (es := es) (w0 := w0) (w := w) (F := F) (H.FV (qI (fun I h => h.2) F))
theorem V.JA (H : V w0 w (pJ gs • F)) {k : Nat} {gl : Value} {zk : List eF} (hk : k < gs.length) (hg : gs.getD k default = (gl, zk)) : V w0 w (EJ gl zk • pJ gs • F) := by
  have := H.Qy hk
  rwa [hg] at this
end
end Go.Proofs.YtpdeedplgmbopaaGreatDoor
end
