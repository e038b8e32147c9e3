import Derived.Test.YtpdeedplgmbopaaGreatDoorZ4
import Derived.Test.YtpdeedplgmbopaaGreatDoorZ7
set_option linter.unusedSimpArgs false
set_option linter.unusedVariables false
/- Texts of mine, joined, their names in short: UList Range UList2 UList3 UList4 UList5 UList6. -/
section
namespace Go.Proofs.YtpdeedplgmbopaaGreatDoor
open Go.RowKit
open _root_.Go.Proofs.Tryz
abbrev jl := Int × List Int × List Int
def ig (G : List (List jl)) (N : List jl) : Nat := (G.map List.length).sum + N.length
def EB (e : jl) : Prop := e.2.1.length ≤ 35184372087808 ∧ e.2.2.length ≤ 35184372087808
theorem acT {N : List jl} {x : jl} (h : ∀ e ∈ N, EB e) (hx : EB x) : ∀ e ∈ N ++ [x], EB e := fun e he => by
  rcases List.mem_append.1 he with he | he
  · exact h e he
  · rw [List.mem_singleton.1 he]; exact hx
theorem Tz {G : List (List jl)} {N : List jl} (h : ∀ g ∈ G, ∀ e ∈ g, EB e) (hx : ∀ e ∈ N, EB e) : ∀ g ∈ G ++ [N], ∀ e ∈ g, EB e := fun g hg => by
  rcases List.mem_append.1 hg with hg | hg
  · exact h g hg
  · rw [List.mem_singleton.1 hg]; exact hx
theorem XO {G : List (List jl)} {N : List jl} (h : ∀ g ∈ G, g ≠ []) (hx : N ≠ []) : ∀ g ∈ G ++ [N], g ≠ [] := fun g hg => by
  rcases List.mem_append.1 hg with hg | hg
  · exact h g hg
  · rw [List.mem_singleton.1 hg]; exact hx
def UOk (G : List (List jl)) (N : List jl) (op : Int) : Prop := (∀ g ∈ G, g ≠ []) ∧ ig G N ≤ 16384 ∧ 0 ≤ op ∧ op ≤ 4611686018427387904 ∧ (∀ g ∈ G, ∀ e ∈ g, EB e) ∧ ∀ e ∈ N, EB e
theorem VQ {G : List (List jl)} (h : ∀ g ∈ G, g ≠ []) : G.length ≤ (G.map List.length).sum := by
  induction G with
  | nil => simp
  | cons g G ih =>
    have h1 := ih fun x hx => h x (by simp [hx])
    have h2 : 0 < g.length := List.length_pos_iff.2 (h g (by simp))
    simp; omega
theorem UOk.len {G : List (List jl)} {N : List jl} {op : Int} (h : UOk G N op) : G.length + N.length ≤ 16384 := by
  have := VQ h.1
  have := h.2.1
  unfold ig at this
  omega
def jP (p : Nat) (G : List (List jl)) (N : List jl) (op : Int) : HP := xQ fun (x : Value × Value × List (Value × List fM) × List fM) =>
  fact (UOk G N op ∧ x.2.2.1.map (fun g => g.2.map fM.says) = G ∧ x.2.2.2.map fM.says = N) • eP p (.cells #[x.1, x.2.1, .int .i64 op, .int .i64 (ig G N : Nat), .bool true] 235 (0, 0)) • Gu x.1 x.2.2.1 • Oj x.2.1 x.2.2.2
section
variable {w0 w : World} {F : HP} {p : Nat} {G : List (List jl)} {N : List jl} {op : Int} {gv nv : Value} {gs : List (Value × List fM)} {now : List fM} {a : Int} {d z : Value} {dl il : List Int}
theorem V.Am (H : V w0 w (jP p G N op • F)) : ∃ gv nv gs now, UOk G N op ∧ gs.map (fun g => g.2.map fM.says) = G ∧ now.map fM.says = N ∧ gs.length = G.length ∧ now.length = N.length ∧ G.length + N.length ≤ 16384 ∧
    V w0 w (eP p (.cells #[gv, nv, .int .i64 op, .int .i64 (ig G N : Nat), .bool true] 235 (0, 0)) • Row 80 1 gv gs.length (gs.map (·.1)) • qP gs • Row 189 3 nv now.length (now.flatMap fM.enc) • nC now • F) := by
  obtain ⟨⟨gv, nv, gs, now⟩, H⟩ := H.oN
  obtain ⟨⟨h1, h2, h3⟩, H⟩ := H.flat.fact
  refine ⟨gv, nv, gs, now, h1, h2, h3, ?_, ?_, h1.len, ?_⟩
  · rw [← h2]; simp
  · rw [← h3]; simp
  · have := H.flat
    unfold Gu Oj at this
    exact this.of_eq (by ac_rfl)
theorem V.yH (h1 : UOk G N op) (h2 : gs.map (fun g => g.2.map fM.says) = G) (h3 : now.map fM.says = N) {ed : Int} (he : ed = (ig G N : Nat))
    (H : V w0 w (eP p (.cells #[gv, nv, .int .i64 op, .int .i64 ed, .bool true] 235 (0, 0)) • Gu gv gs • Oj nv now • F)) : V w0 w (jP p G N op • F) := by
  subst he
  exact V.jV (gv, nv, gs, now) (V.deep (V.mW ⟨h1, h2, h3⟩ (H.of_eq (by ac_rfl))))
theorem V.pR (h1 : UOk G N op) (h2 : gs.map (fun g => g.2.map fM.says) = G) (h3 : now.map fM.says = N) {ed : Int} (he : ed = (ig G N : Nat))
    (H : V w0 w (eP p (.cells #[gv, nv, .int .i64 op, .int .i64 ed, .bool true] 235 (0, 0)) • Row 80 1 gv gs.length (gs.map (·.1)) • qP gs • Row 189 3 nv now.length (now.flatMap fM.enc) • nC now • F)) : V w0 w (jP p G N op • F) :=
  V.yH h1 h2 h3 he (H.of_eq (by unfold Gu Oj; ac_rfl))
theorem ng (H : V w0 w (jP p G N op • F)) : iQ prog 158 #[.pointer (some ⟨p, 0, none⟩)] w fun v w' => v = .bool false ∧ w = w' := by
 refine ji func158 ntmps158 ?_
 refine ku O (aI ?_)
 obtain ⟨DW, BO, qB, oP, nD, xZ, wo, Jf, Jg, OC, sO⟩ := (H).Am
 refine aB (bJ O (aQ (iJ underlying184 O O) (jm O (fun h1 => ?_) (fun h1 => ?_))))
 ·(try simp only [Z] at h1)
  exfalso; first | contradiction | omega
 ·(try simp only [Z] at h1)
  refine aY (bJ O (aY (dK O (aY (bI 4 bT O aS O (aY (fC cZ O (sO).get.2 O (aY (aQ (kG O) (fG O O (fA O (dI results158 O ?_))))))))))))
  exact ⟨O, O⟩
theorem QO (H : V w0 w F) : iQ prog 174 #[] w fun v w' => ∃ p, v = .pointer (some ⟨p, 0, none⟩) ∧ V w0 w' (jP p [] [] 0 • F) := by
  refine YP func174 ntmps174 ?_
  refine ku O (iy (aQ (nP (pl := #[(0, 4), (4, 1)]) (#[_, _, _, _, _]) bT zeroValue235 (fun w => by kernel_rfl) O (O)) (kF (jF (l := [_, _, _, _, _]) H O O) ?_)))
  rintro _ w1 ⟨b1, rfl, H1⟩
  refine fA O (dI results174 O ?_)
  refine ⟨_, O, V.yH (gv := .slice none 0 0) (nv := .slice none 0 0) (gs := []) (now := []) ⟨by simp, by decide, by decide, by decide, by simp, by simp⟩ O O O ?_⟩
  exact (((H1).vk none).Hy none).of_eq (by ac_rfl)
theorem QS (H : V w0 w (jP p G N op • F)) : iQ prog 120 #[.pointer (some ⟨p, 0, none⟩)] w fun v w' => v = .int .i64 ((G.length : Int) + min 1 N.length) ∧ V w0 w' (jP p G N op • F) := by
 refine ji func120 ntmps120 ?_
 refine ku O (aI (bM O (dS O func158 (ng H) ?_)))
 rintro _ _ ⟨rfl, rfl⟩
 refine iE (oh (fV (aI ?_)))
 obtain ⟨DW, BO, qB, oP, nD, xZ, wo, Jf, Jg, OC, sO⟩ := (H).Am
 have FP := sO.drew
 have jL := V.kp (FP.f5.f5.f5.f5.f5)
 refine uN [4, 10] jL O (gX 0 O jL O (jE 1 O jL O (gy 2 O jL 0 bT O dP O (gy 3 O jL 0 cO O iF O (jf 4 O jL (fun W hW => jv bQ O ((Kp.h hW)).get.2 O) (iI 5 O jL (fun _ => kX ((FP.f2).aP) bQ O) (gX 6 O jL O (jE 7 O jL O (gy 8 O jL 0 bT O dP O (gy 9 O jL 1 cO O bU O (jf 10 O jL (fun W hW => jv aW O ((Kp.h hW)).get.2 O) (iI 11 O jL (fun _ => kX ((FP.f4).aP) aW O) (iI 12 O jL (fun _ => wO O O) (iI 13 O jL (fun _ => fQ O O (by omega)) (iI 14 O jL (fun _ => dB O) (pq (aX (lQ (dI results120 O ?_)))))))))))))))))))
 have TA := FP.f5.f5.f5.f5.f5
 have SA := V.pR nD xZ wo rfl TA
 exact ⟨by rw [Jf, Jg]; congr 1; omega, SA⟩
theorem L9 (H : V w0 w (jP p G N op • F)) : iQ prog 203 #[.pointer (some ⟨p, 0, none⟩)] w fun v w' => v = .int .i64 (ig G N : Nat) ∧ V w0 w' (jP p G N op • F) := by
 refine ji func203 ntmps203 ?_
 refine ku O (aI (bM O (dS O func158 (ng H) ?_)))
 rintro _ _ ⟨rfl, rfl⟩
 refine iE (oh (fV (aI ?_)))
 obtain ⟨DW, BO, qB, oP, nD, xZ, wo, Jf, Jg, OC, sO⟩ := (H).Am
 refine aB (oq O O (bI 0 bT O dP O (bI 3 cO O ay O (fC aC O (sO).get.2 O (fA O (dI results203 O ?_))))))
 have TA := sO.f5.f5.f5.f5.f5
 have SA := V.pR nD xZ wo rfl TA
 exact ⟨O, SA⟩
theorem Ap (H : V w0 w (jP p G N op • F)) (hb : op < 4611686018427387904) : iQ prog 137 #[.pointer (some ⟨p, 0, none⟩)] w fun v w' => v = .int .i64 0 ∧ V w0 w' (jP p G N (op + 1) • F) := by
 have hop : 0 ≤ op := by obtain ⟨gv, nv, gs, now, k1, _⟩ := H.Am; exact k1.2.2.1
 refine ji func137 ntmps137 ?_
 refine ku O (aI (bM O (dS O func158 (ng H) ?_)))
 rintro _ _ ⟨rfl, rfl⟩
 refine iE (oh (fV (aI ?_)))
 obtain ⟨DW, BO, qB, oP, nD, xZ, wo, Jf, Jg, OC, sO⟩ := (H).Am
 refine aB (oq O O (bI 0 bT O dP O (bI 2 cO O ay O (fC aC O (sO).get.2 O (aQ (fQ O O (by omega)) (dK O (bI 0 bT O dP O (bI 2 cO O ay O (aJ (st5 2 sO ay) ?_)))))))))
 rintro _ w3 H3
 refine iE (kC O (dI results137 O ?_))
 exact ⟨O, V.pR ⟨nD.1, nD.2.1, by omega, by omega, nD.2.2.2.2⟩ xZ wo O H3.f5.f5.f5.f5.f5⟩
def yX (G : List (List jl)) (N : List jl) (a : Int) (dl il : List Int) : Int := if dl.length + il.length = 0 ∨ a < 0 then 1 else if 16384 ≤ ig G N then 3 else 0
def VR (G : List (List jl)) (N : List jl) (op a : Int) (dl il : List Int) : List (List jl) := if yX G N a dl il = 0 then (if 0 < op then G else G ++ [[(a, dl, il)]]) else G
def VT (G : List (List jl)) (N : List jl) (op a : Int) (dl il : List Int) : List jl := if yX G N a dl il = 0 then (if 0 < op then N ++ [(a, dl, il)] else N) else N
theorem QT {x : jl} : ig G (N ++ [x]) = ig G N + 1 := by simp [ig]; omega
theorem TB {x : jl} : ig (G ++ [[x]]) N = ig G N + 1 := by simp [ig]; omega
theorem Mc (h : yX G N a dl il ≠ 0) : VR G N op a dl il = G := by unfold VR; rw [if_neg h]
theorem Md (h : yX G N a dl il ≠ 0) : VT G N op a dl il = N := by unfold VT; rw [if_neg h]
theorem KT (h : yX G N a dl il = 0) (ho : 0 < op) : VR G N op a dl il = G := by unfold VR; rw [if_pos h, if_pos ho]
theorem KU (h : yX G N a dl il = 0) (ho : 0 < op) : VT G N op a dl il = N ++ [(a, dl, il)] := by unfold VT; rw [if_pos h, if_pos ho]
theorem aaB (h : yX G N a dl il = 0) (ho : ¬ 0 < op) : VR G N op a dl il = G ++ [[(a, dl, il)]] := by unfold VR; rw [if_pos h, if_neg ho]
theorem aaC (h : yX G N a dl il = 0) (ho : ¬ 0 < op) : VT G N op a dl il = N := by unfold VT; rw [if_pos h, if_neg ho]
theorem Dh (H : V w0 w (jP p G N op • F)) (hd : jh w0 F .i32 d dl) (hi : jh w0 F .i32 z il) (b2 : dl.length ≤ 35184372087808) (b3 : il.length ≤ 35184372087808) :
  iQ prog 138 #[.pointer (some ⟨p, 0, none⟩), edV a d z] w fun v w' => v = .int .i64 (yX G N a dl il) ∧ V w0 w' (jP p (VR G N op a dl il) (VT G N op a dl il) op • F) := by
 refine qc func138 ntmps138 ?_
 refine iy (kF (jF (l := [_, _, _]) H O O) ?_)
 rintro _ w1 ⟨b1, rfl, H1⟩
 refine uf O (bM O (dS O func158 (ng H1.f2) ?_))
 rintro _ _ ⟨rfl, rfl⟩
 refine iE (oh (fV (aI (iy (bI 1 bD O bV O (fC ah O (H1).get.2 O (aQ (iT (hd _ (H1.right.right)) ah O) (bI 2 bD O bV O (fC ah O (H1).get.2 O (aQ (iT (hi _ (H1.right.right)) ah O) (aQ (fQ O O (by omega)) (aQ (eF O O) (jm O (fun h1 => ?_) (fun h1 => ?_))))))))))))))
 ·(try simp only [Z] at h1)
  refine bn (bn (bn (je O O (iE (C9 (kC O (aA (dI results138 O ?_))))))))
  have e : yX G N a dl il = 1 := by unfold yX; rw [if_pos (by omega)]
  rw [Mc (by rw [e]; decide), Md (by rw [e]; decide), e]
  exact ⟨O, H1.right⟩
 ·(try simp only [Z] at h1)
  refine aY (bI 0 bD O ay O (aY (fC aC O (H1).get.2 O (aY (aQ (gW O O) (fG O O (jr O (fun h2 => ?_) (fun h2 => ?_))))))))
  ·(try simp only [Z] at h2)
   refine kC O (aA (dI results138 O ?_))
   have e : yX G N a dl il = 1 := by unfold yX; rw [if_pos (by omega)]
   rw [Mc (by rw [e]; decide), Md (by rw [e]; decide), e]
   exact ⟨O, H1.right⟩
  ·(try simp only [Z] at h2)
   refine fV (aI (aI ?_))
   obtain ⟨DW, BO, qB, oP, nD, xZ, wo, Jf, Jg, OC, sO⟩ := (H1.f2).Am
   refine aB (oq O O (bI 0 bT O dP O (bI 3 cO O ay O (fC aC O (sO).get.2 O (aQ (lI O O) (jr O (fun h3 => ?_) (fun h3 => ?_)))))))
   ·(try simp only [Z] at h3)
    refine kC O (aA (dI results138 O ?_))
    have e : yX G N a dl il = 3 := by unfold yX; rw [if_neg (by omega), if_pos (by omega)]
    have Ho5 := sO.f5.f5.f5.f5.f5
    have Hc6 := V.pR nD xZ wo rfl Ho5
    rw [Mc (by rw [e]; decide), Md (by rw [e]; decide), e]
    exact ⟨O, Hc6.f2.right⟩
   ·(try simp only [Z] at h3)
    refine fV (bM O (dK O (bI 0 bT O dP O (bI 3 cO O ay O (fC aC O (sO).get.2 O (aQ (fQ O O (by omega)) (dK O (bI 0 bT O dP O (bI 3 cO O ay O (aJ (st5 3 sO ay) ?_))))))))))
    rintro _ w7 H7
    refine rP (bM O (dK O (bI 0 bT O dP O (bI 2 cO O ay O (fC aC O (H7).get.2 O (aQ (eX O O) (jr O (fun h4 => ?_) (fun h4 => ?_))))))))
    ·(try simp only [Z] at h4)
     have Y0 := H7.drew
     have xO := V.kp (Y0.f6.f6.f6.f6.f6.f6)
     refine uN [5, 6] xO O (gX 0 O xO O (gX 1 O xO O (jE 2 O xO O (gy 3 O xO 0 bT O dP O (gy 4 O xO 1 cO O bU O (jf 5 O xO (fun W hW => jv aW O ((Kp.h hW)).get.2 O) (jf 6 O xO (fun W hW => dV bD O dn O O ((Kp.h hW).f6).get.2) (mQ 7 O (wR O func179 (zu Y0 (fun W HW => hd _ (HW.right.right.right.right.right.right)) (fun W HW => hi _ (HW.right.right.right.right.right.right)) (by omega) (by omega))) ?_))))))))
     rintro _ w8 ⟨d8, s8, rfl, H8⟩
     have VU := V.kp (H8.f8.f8.f8.f8.f8.f8.f8.f8)
     refine fD VU (fun W hW => (Kp.h hW).right.right.f6.f6.f6.f6.f6.f6) ?_
     refine mQ 8 O (vK H8 aW dn dY O O O (by decide) (by decide)) ?_
     rintro l9 w9 H9
     have VW := V.kp (H9.f9.f9.f9.f9.f9.f9.f9.f9.f9)
     refine fD VW (fun W hW => (Kp.h hW).right.f8.f8.f8.f8.f8.f8.f8.f8) ?_
     refine mQ 9 O (iY H9.f7 aW BP O O O ((H9).aP) (aG (bg (by first | rfl | exact Rd.one ((H9.f2).aP)) (bg (by first | rfl | exact Rd.one ((H9.f3).aP)) bW))) (by omega) (by omega)) ?_
     rintro l10 w10 pz
     have VX := pz.f2.right
     have Aq := V.kp (VX.f8.f8.f8.f8.f8.f8.f8.f8)
     refine iK Aq (by kernel_rfl) ?_
     refine jE 10 O Aq O (gy 11 O Aq 0 bT O dP O (gy 12 O Aq 1 cO O bU O ?_))
     refine iH 13 O (by kernel_rfl) (gB 1 (l' := [_, _, _, _, _]) VX.f4 bU O O (by first | rfl | exact Rd.one ((VX).aP)) O O) ?_
     rintro _ w12 vM
     have FZ := V.kp (vM.f8.f8.f8.f8.f8.f8.f8.f8)
     refine iK FZ (by kernel_rfl) ?_
     have hadd : 0 < op := by omega
     refine pq (aX (kC O (dI results138 O ?_)))
     have e : yX G N a dl il = 0 := by unfold yX; rw [if_neg (by omega), if_neg (by omega)]
     rw [KT e hadd, KU e hadd, e]
     have X := (vM.f8.right.f6.f6.f3.f7.f5.f7.f7).mY.swap.mY.swap
     have X2 := V.Ci X.f3
     refine ⟨O, V.yH (gv := DW) (nv := l10) (gs := qB) (now := oP ++ [⟨a, d8, dl, s8, il⟩]) (ed := (ig G N : Nat) + 1) ⟨nD.1, by rw [QT]; omega, nD.2.2.1, nD.2.2.2.1, nD.2.2.2.2.1, acT nD.2.2.2.2.2 ⟨b2, b3⟩⟩ xZ (by rw [List.map_append, wo]; rfl) (by rw [QT]; rfl) (X2.of_eq (by unfold Gu; ac_rfl))⟩
    ·(try simp only [Z] at h4)
     have aaD := H7.drew
     have Bj := V.kp (aaD.f6.f6.f6.f6.f6.f6)
     refine uN [5, 6] Bj O (gX 0 O Bj O (gX 1 O Bj O (jE 2 O Bj O (gy 3 O Bj 0 bT O dP O (gy 4 O Bj 0 cO O iF O (jf 5 O Bj (fun W hW => jv bQ O ((Kp.h hW)).get.2 O) (jf 6 O Bj (fun W hW => dV bD O dn O O ((Kp.h hW).f6).get.2) (mQ 7 O (wR O func179 (zu aaD (fun W HW => hd _ (HW.right.right.right.right.right.right)) (fun W HW => hi _ (HW.right.right.right.right.right.right)) (by omega) (by omega))) ?_))))))))
     rintro _ PD ⟨d13, s13, rfl, xI⟩
     have y8 := V.kp (xI.f8.f8.f8.f8.f8.f8.f8.f8)
     refine fD y8 (fun W hW => (Kp.h hW).right.right.f6.f6.f6.f6.f6.f6) ?_
     refine mQ 8 O (vK xI aW dn dY O O O (by decide) (by decide)) ?_
     rintro l14 Pz yF
     have Hz := V.kp (yF.f9.f9.f9.f9.f9.f9.f9.f9.f9)
     refine fD Hz (fun W hW => (Kp.h hW).right.f8.f8.f8.f8.f8.f8.f8.f8) ?_
     refine mQ 9 O (lW (vs := [_]) yF bQ bU oG O O O (by decide) (bg (by first | rfl | exact Rd.one ((yF).aP)) bW)) ?_
     rintro l15 QI yA
     have y9 := V.kp (yA.f10.f10.f10.f10.f10.f10.f10.f10.f10.f10)
     refine fD y9 (fun W hW => (Kp.h hW).right.f9.f9.f9.f9.f9.f9.f9.f9.f9) ?_
     refine mQ 10 O (iY yA.f6 bQ JO O O O ((yA).aP) (bg (by first | rfl | exact Rd.one ((yA.f2).aP)) bW) (by omega) (by omega)) ?_
     rintro l16 w16 vN
     have VY := vN.f2.right
     have Ep := V.kp (VY.f9.f9.f9.f9.f9.f9.f9.f9.f9)
     refine iK Ep (by kernel_rfl) ?_
     refine jE 11 O Ep O (gy 12 O Ep 0 bT O dP O (gy 13 O Ep 0 cO O iF O ?_))
     refine iH 14 O (by kernel_rfl) (gB 0 (l' := [_, _, _, _, _]) VY.f5 iF O O (by first | rfl | exact Rd.one ((VY).aP)) O O) ?_
     rintro _ w18 DZ
     have Me := V.kp (DZ.f9.f9.f9.f9.f9.f9.f9.f9.f9)
     refine iK Me (by kernel_rfl) ?_
     have hadd : ¬ 0 < op := by omega
     refine pq (aX (kC O (dI results138 O ?_)))
     have e : yX G N a dl il = 0 := by unfold yX; rw [if_neg (by omega), if_neg (by omega)]
     rw [aaB e hadd, aaC e hadd, e]
     have X := (DZ.f9.right.f8.f8.f3.f8.f5.f6.f8.f8).mY.swap.mY.swap
     have X2 := V.Ci (es := []) X.L6.f3.f3.f4
     have X4 := V.vS X2.tq.swap
     refine ⟨O, V.yH (gv := l16) (nv := BO) (gs := qB ++ [(l14, [⟨a, d13, dl, s13, il⟩])]) (now := oP) (ed := (ig G N : Nat) + 1) ⟨XO nD.1 (List.cons_ne_nil _ _), by rw [TB]; omega, nD.2.2.1, nD.2.2.2.1, Tz nD.2.2.2.2.1 (by intro e he; rw [List.mem_singleton.1 he]; exact ⟨b2, b3⟩), nD.2.2.2.2.2⟩ (by rw [List.map_append, xZ]; rfl) wo (by rw [TB]; rfl) (X4.of_eq (by unfold Oj; ac_rfl))⟩
end
end Go.Proofs.YtpdeedplgmbopaaGreatDoor
end
section
namespace Go.Proofs.YtpdeedplgmbopaaGreatDoor
open Go.RowKit
def QU (P : Program) (l : Nat) (vs : List Value) (w : World) (T : Value → World → Prop) : Prop :=
  ∃ f tmps c d, (Instr.yield l vs.toArray).run P w = .ok (.round l f tmps c d) w ∧ RoundIn Fence.wide 0 P l f tmps c d w fun e w' => ∃ v, e = .returned v ∧ T v w'
theorem QU.mono {P : Program} {l : Nat} {vs : List Value} {w : World} {T T' : Value → World → Prop} (h : QU P l vs w T) (k : ∀ v w', T v w' → T' v w') : QU P l vs w T' :=
  let ⟨f, tmps, c, d, h1, h2⟩ := h; ⟨f, tmps, c, d, h1, RoundIn.mono h2 fun _ _ ⟨v, e, t⟩ => ⟨v, e, k _ _ t⟩⟩
theorem QU.bool {P : Program} {l : Nat} {vs : List Value} {w : World} {A B : World → Prop} (h : QU P l vs w fun v W' => (v = .bool true ∧ A W') ∨ (v = .bool false ∧ B W')) : QU P l vs w fun v W' => ∃ t, v = .bool t ∧ (t = true → A W') ∧ (t = false → B W') :=
  h.mono fun v W' hv => by
    rcases hv with ⟨rfl, h⟩ | ⟨rfl, h⟩
    · exact ⟨true, rfl, fun _ => h, fun e => by cases e⟩
    · exact ⟨false, rfl, (fun e => by cases e), fun _ => h⟩
theorem QV {P : Program} {L : List (Nat × Value)} {w : World} {ty : TypeId} {x : Operand} {args : List Operand} {ts : Array TypeId} {l : Nat} {vs : List Value} {T : Value → World → Prop} (hx : ev L x = some (.func (.yield l) #[] #[])) (ha : FV L args = some vs) (h : QU P l vs w T) :
    xU P L (.call ⟨.value x, args.toArray, ts⟩) ty w T := by
  obtain ⟨f, tmps, c, d, hy, hr⟩ := h
  refine acC (fun ρ hρ dd pos qK g => ?_) hr
  have hg := hρ _ _ hx
  simp [execOp, resolve, invoke, evs hρ _ _ ha, hg, Deferred.ofValue, hy]
def Iter (P : Program) (w0 : World) (fv : Value) (R : HP) (n : Nat) (E : Nat → List Value → HP → Prop) : Prop :=
  ∀ (l : Nat) (J : Nat → HP) (X : HP) (w : World),
    (∀ k, k < n → ∀ vs A, E k vs A → ∀ G W, V w0 W (A • J k • G) → QU P l vs W fun v W' => (v = .bool true ∧ V w0 W' (J (k + 1) • G)) ∨ (v = .bool false ∧ V w0 W' (X • G))) →
    V w0 w (J 0 • R) → wS P fv [.func (.yield l) #[] #[]] w fun _ W' => V w0 W' (J n • R) ∨ V w0 W' (X • R)
def TD (w0 : World) (I : HP) (Xr : HP) (Xe : Nat → HP) (G : HP) : Exit → Act → World → Prop
  | .normal, _, W => V w0 W (I • G)
  | .ret, _, W => V w0 W (Xr • G)
  | .exit id, _, W => V w0 W (Xe id • G)
  | _, _, _ => False
def XP (P : Program) (N : Sh) (w0 : World) (body : Code) (I : HP) (Xr : HP) (Xe : Nat → HP) (G : HP) (a : Act) (W : World) : Prop :=
  ∃ (L : List (Nat × Value)) (B : HP), Fits N L a ∧ V w0 W (B • G) ∧ ∀ G' W', V w0 W' (B • G') → WC P N body (TD w0 I Xr Xe G') L W'
def aaE : Exit → Act → World → Prop := fun _ _ _ => False
theorem VZ {P : Program} {N : Sh} {w0 w : World} {body : Code} {I Xr : HP} {Xe : Nat → HP} {G B : HP} {L : List (Nat × Value)} (H : V w0 w (B • G)) (h : ∀ G' W', V w0 W' (B • G') → WC P N body (TD w0 I Xr Xe G') L W') :
    WQ N (Exit.then (XP P N w0 body I Xr Xe G) aaE) .normal L w := fun _ a ha => ⟨L, B, ha, H, h⟩
theorem MB {N : Sh} {w0 w : World} {I Xr : HP} {Xe : Nat → HP} {G : HP} {L : List (Nat × Value)} (H : V w0 w (I • G)) : WQ N (TD w0 I Xr Xe G) .normal L w := fun _ _ _ => H
theorem aaF {N : Sh} {w0 w : World} {I Xr : HP} {Xe : Nat → HP} {G : HP} {id : Nat} {L : List (Nat × Value)} (H : V w0 w (Xe id • G)) : WQ N (TD w0 I Xr Xe G) (.exit id) L w := fun _ _ _ => H
theorem aaG {w0 : World} {I Xr : HP} {Xe : Nat → HP} {G : HP} : NP (TD w0 I Xr Xe G) := fun _ _ _ h => h
def V3 : List Nat → List Value → List (Nat × Value) → List (Nat × Value)
  | [], _, L => L
  | _ :: _, [], L => L
  | p :: ps, v :: vs, L => V3 ps vs ((p, v) :: L)
theorem TF {n l : Nat} : ∀ (ps : List Nat) (vs : List Value) (L : List (Nat × Value)) (tmps : Array Value), (∀ p ∈ ps, p < n) → Fits ⟨n, [], some l⟩ L { tmps := tmps, defers := [] } →
    Fits ⟨n, [], some l⟩ (V3 ps vs L) { tmps := (ps.zip vs).foldl (fun t (p : Nat × Value) => t.setIfInBounds p.1 p.2) tmps, defers := [] }
  | [], _, _, _, _, h => h
  | _ :: _, [], _, _, _, h => h
  | p :: ps, v :: vs, L, tmps, hp, h => TF ps vs _ _ (fun q hq => hp q (by simp [hq])) (h.put (hp p (by simp)) v)
section
variable {P : Program} {N : Sh} {Q : Exit → Act → World → Prop} {L : List (Nat × Value)} {w0 w : World}
theorem Di {g : Operand} {ps : List Nat} {assign body : Code} {fv : Value} {R : HP} {n : Nat} {E : Nat → List Value → HP → Prop} (hg : ev L g = some fv) (hit : Iter P w0 fv R n E) (I : Nat → HP) (Xr : HP) (Xe : Nat → HP) (H : V w0 w (I 0 • R))
    (hps : ps.all (· < N.n) = true)
    (hbody : ∀ l k, k < n → ∀ vs A, E k vs A → ∀ G W, V w0 W (A • I k • G) → vs.length = ps.length ∧ WC P ⟨N.n, [], some l⟩ assign (Exit.then (XP P ⟨N.n, [], some l⟩ w0 body (I (k + 1)) Xr Xe G) aaE) (V3 ps vs L) W)
    (hdone : ∀ D W, V w0 W (eP D (.deferred (some [])) • I n • R) → WQ ⟨N.n, D :: N.ds, none⟩ Q .normal L W)
    (hret : ∀ D W, V w0 W (eP D (.deferred (some [])) • Xr • R) → WQ ⟨N.n, D :: N.ds, none⟩ Q .ret L W)
    (agz : ∀ id D W, V w0 W (eP D (.deferred (some [])) • Xe id • R) → WQ ⟨N.n, D :: N.ds, none⟩ Q (.exit id) L W)
    (hro : N.ro = none := by rfl) : WC P N (.rangeFunc g ps.toArray assign body) Q L w := fun np a ha => by
  rw [hro]
  refine wpIn_rangeFunc fun fn _ => ?_
  let xK : LoopState → Option Code → Loop := fun s j => { state := s, pending := j, fn, tmps := a.tmps, params := ps.toArray, assign, body, defers := w.heap.size }
  have ahY := run_enterLoop_outer (P := P) (w := w) fn a.tmps ps.toArray assign body
  have H1 : V w0 ((w.alloc (.deferred (some []))).alloc (.loop (xK .ready none))) (eP (w.heap.size + 1) (.loop (xK .ready none)) • eP w.heap.size (.deferred (some [])) • I 0 • R) := by
    have := (H.alloc (.deferred (some []))).alloc (.loop (xK .ready none))
    rw [World.size_alloc] at this
    exact this
  let Lk : LoopState → Option Code → HP := fun s j => eP (w.heap.size + 1) (.loop (xK s j)) • eP w.heap.size (.deferred (some []))
  have aeU : ∀ k, k < n → ∀ vs A, E k vs A → ∀ G W, V w0 W (A • (Lk .ready none • I k) • G) → QU P (w.heap.size + 1) vs W fun v W' => (v = .bool true ∧ V w0 W' ((Lk .ready none • I (k + 1)) • G)) ∨
      (v = .bool false ∧ V w0 W' (xQ (fun c : Code => Lk .done (some c) • (match c with | .ret => Xr | .exit id => Xe id | _ => fact False)) • G)) := by
    intro k hk vs A hE G W HW
    have e1 : (A • (Lk .ready none • I k) • G) = (eP (w.heap.size + 1) (.loop (xK .ready none)) • A • I k • eP w.heap.size (.deferred (some [])) • G) := by
      show (A • ((eP (w.heap.size + 1) (.loop (xK .ready none)) • eP w.heap.size (.deferred (some []))) • I k) • G) = _
      ac_rfl
    have HW1 := HW.of_eq e1
    have hl := HW1.get.2
    have hlen := (hbody (w.heap.size + 1) k hk vs A hE _ W (HW1.of_eq (show _ = (A • I k • eP (w.heap.size + 1) (.loop (xK .ready none)) • eP w.heap.size (.deferred (some [])) • G) by ac_rfl))).1
    refine ⟨fn, _, assign, body, run_yield hl (by rw [List.size_toArray, hlen]; exact List.size_toArray.symm), ?_⟩
    have hfit : Fits ⟨N.n, [], some (w.heap.size + 1)⟩ (V3 ps vs L) { tmps := (ps.toArray.zip vs.toArray).foldl (fun tmps (t, a) => tmps.setIfInBounds t a) a.tmps, defers := [] } := by
      have := TF (n := N.n) (l := w.heap.size + 1) ps vs L a.tmps (fun p hp => by simpa using List.all_eq_true.1 hps p hp) ⟨ha.size, rfl, ha.at_⟩
      simpa using this
    refine roundIn_of_wpIn trivial ?_
    have HW2 : V w0 W (A • I k • eP (w.heap.size + 1) (.loop (xK .ready none)) • eP w.heap.size (.deferred (some [])) • G) := HW1.of_eq (by ac_rfl)
    have hb := (hbody (w.heap.size + 1) k hk vs A hE _ W HW2).2 (fun c a w h => h) _ hfit
    refine wpIn_mono hb ?_
    rintro e a1 W1 hq
    cases e with
    | exit id => exact hq.elim
    | goto l => exact hq.elim
    | ret => exact hq.elim
    | panic c => exact hq.elim
    | outgrown => exact hq.elim
    | normal =>
      obtain ⟨L1, B, hf1, HB, hgo⟩ := hq
      have HB1 : V w0 W1 (eP (w.heap.size + 1) (.loop (xK .ready none)) • B • eP w.heap.size (.deferred (some [])) • G) := HB.of_eq (by ac_rfl)
      have hl1 := HB1.get.2
      refine ⟨_, run_beginRound hl1 rfl, ?_⟩
      have HB2 : V w0 (W1.putObj (w.heap.size + 1) (.loop (xK .busy none))) (eP (w.heap.size + 1) (.loop (xK .busy none)) • B • eP w.heap.size (.deferred (some [])) • G) := HB1.turn rfl rfl rfl (by simp) (World.putObj_heap_same HB1.lt) fun k hk _ => World.putObj_heap_other hk
      have hbd := hgo (eP (w.heap.size + 1) (.loop (xK .busy none)) • eP w.heap.size (.deferred (some [])) • G) _ (HB2.of_eq (by ac_rfl)) aaG a1 hf1
      refine wpIn_mono hbd ?_
      have fin : ∀ (j : Option Code) (W3 : World) (A3 : HP), V w0 W3 (A3 • eP (w.heap.size + 1) (.loop (xK .busy none)) • eP w.heap.size (.deferred (some [])) • G) →
          (Instr.endRound (w.heap.size + 1) j).run P W3 = .ok (.bool j.isNone) (W3.putObj (w.heap.size + 1) (.loop (xK (if j.isNone then .ready else .done) j))) ∧
          V w0 (W3.putObj (w.heap.size + 1) (.loop (xK (if j.isNone then .ready else .done) j))) ((Lk (if j.isNone then .ready else .done) j • A3) • G) := by
        intro j W3 A3 H3
        have H4 := H3.swap
        refine ⟨run_endRound j H4.get.2, ?_⟩
        have H5 : V w0 (W3.putObj (w.heap.size + 1) (.loop (xK (if j.isNone then .ready else .done) j))) (eP (w.heap.size + 1) (.loop (xK (if j.isNone then .ready else .done) j)) • A3 • eP w.heap.size (.deferred (some [])) • G) := H4.turn rfl rfl rfl (by simp) (World.putObj_heap_same H4.lt) fun k hk _ => World.putObj_heap_other hk
        refine H5.of_eq ?_
        show _ = (((eP (w.heap.size + 1) (.loop (xK (if j.isNone then .ready else .done) j)) • eP w.heap.size (.deferred (some []))) • A3) • G)
        ac_rfl
      rintro e a3 W3 hp
      cases e with
      | normal => obtain ⟨h1, h2⟩ := fin none W3 _ hp; exact ⟨_, _, h1, _, rfl, .inl ⟨rfl, h2⟩⟩
      | ret => obtain ⟨h1, h2⟩ := fin (some .ret) W3 _ hp; exact ⟨_, _, h1, _, rfl, .inr ⟨rfl, V.jV .ret h2⟩⟩
      | exit id => obtain ⟨h1, h2⟩ := fin (some (.exit id)) W3 _ hp; exact ⟨_, _, h1, _, rfl, .inr ⟨rfl, V.jV (.exit id) h2⟩⟩
      | goto l => exact hp.elim
      | panic c => exact hp.elim
      | outgrown => exact hp.elim
  have hcall := hit (w.heap.size + 1) (fun k => Lk .ready none • I k) _ _ aeU (H1.of_eq (by
    show _ = (((eP (w.heap.size + 1) (.loop (xK .ready none)) • eP w.heap.size (.deferred (some []))) • I 0) • R)
    ac_rfl))
  obtain ⟨f, first, cap, fn', c, rfl, hf, hn, hb, agA⟩ := hcall
  refine ⟨w.heap.size + 1, _, _, { target := .fn (.func f) cap.toArray, args := (first ++ [Value.func (.yield (w.heap.size + 1)) #[] #[]]).toArray }, (w.alloc (.deferred (some []))).alloc (.loop (xK .ready none)), f, _, (w.alloc (.deferred (some []))).alloc (.loop (xK .ready none)), ahY, ?_, fun _ _ => trivial, ?_, (fun h => by cases h), aae.2 (Calls.mono agA ?_)⟩
  · have he := ha.ev hg
    have he2 : a.eval (.const (.func (.yield (w.heap.size + 1)) #[] #[])) = .func (.yield (w.heap.size + 1)) #[] #[] := rfl
    simp [resolve, rangeCall, he, he2, Deferred.ofValue, xK]
  · simp [invoke, callFunc, hf, hb]
    simpa using hn
  · rintro e W2 ⟨v, rfl, hv⟩
    have fin : ∀ (s : LoopState) (j : Option Code) (A : HP), s ≠ .busy → V w0 W2 ((Lk s j • A) • R) → (Instr.endLoop (w.heap.size + 1)).run P W2 = .ok j (W2.putObj (w.heap.size + 1) (.loop (xK .exhausted j))) ∧
        V w0 (W2.putObj (w.heap.size + 1) (.loop (xK .exhausted j))) (eP w.heap.size (.deferred (some [])) • A • R) := by
      intro s j A hs H3
      have H4 : V w0 W2 (eP (w.heap.size + 1) (.loop (xK s j)) • eP w.heap.size (.deferred (some [])) • A • R) := H3.of_eq (by
        show (((eP (w.heap.size + 1) (.loop (xK s j)) • eP w.heap.size (.deferred (some []))) • A) • R) = _
        ac_rfl)
      refine ⟨run_endLoop H4.get.2 hs, ?_⟩
      have H5 : V w0 (W2.putObj (w.heap.size + 1) (.loop (xK .exhausted j))) (eP (w.heap.size + 1) (.loop (xK .exhausted j)) • eP w.heap.size (.deferred (some [])) • A • R) := H4.turn rfl rfl rfl (by simp) (World.putObj_heap_same H4.lt) fun k hk _ => World.putObj_heap_other hk
      exact H5.right
    have hfit : Fits ⟨N.n, w.heap.size :: N.ds, none⟩ L { a with defers := [{ target := .collected w.heap.size, args := #[] }] ++ a.defers } := ⟨ha.size, by simp [ha.defers, aad], ha.at_⟩
    rcases hv with hv | hv
    · obtain ⟨h1, h2⟩ := fin _ _ _ (by decide) hv
      exact ⟨none, _, h1, hdone _ _ h2 np _ hfit⟩
    · obtain ⟨c, hv⟩ := hv.oN
      obtain ⟨h1, h2⟩ := fin _ _ _ (by decide) hv
      cases c with
      | ret => exact ⟨some .ret, _, h1, wpIn_ret (hret _ _ h2 np _ hfit)⟩
      | exit id => exact ⟨some (.exit id), _, h1, wpIn_exit (agz id _ _ h2 np _ hfit)⟩
      | _ => exact absurd h2.swap.fact.1 id
end
end Go.Proofs.YtpdeedplgmbopaaGreatDoor
end
section
namespace Go.Proofs.YtpdeedplgmbopaaGreatDoor
open Go.RowKit
open _root_.Go.Proofs.Tryz
def pG (G : List (List jl)) (N : List jl) : List (List jl) := if N = [] then G else G ++ [N]
theorem V4 {G : List (List jl)} {N : List jl} (h : N = []) : pG G N = G := by unfold pG; rw [if_pos h]
theorem vT {G : List (List jl)} {N : List jl} (h : N ≠ []) : pG G N = G ++ [N] := by unfold pG; rw [if_neg h]
theorem MC {G : List (List jl)} {N : List jl} : ig (pG G N) [] = ig G N := by
  unfold pG; split
  · rename_i h; rw [h]
  · simp [ig]
section
variable {w0 w : World} {F : HP} {p : Nat} {G : List (List jl)} {N : List jl} {op : Int} {gv nv v : Value} {gs : List (Value × List fM)} {now es : List fM} {a : Int} {d z : Value} {dl il : List Int}
theorem Es (H : V w0 w (jP p G N op • F)) : iQ prog 177 #[.pointer (some ⟨p, 0, none⟩)] w fun _ w' => V w0 w' (jP p (pG G N) [] 0 • F) := by
 refine ji func177 ntmps177 ?_
 refine aI (aI ?_)
 obtain ⟨DW, BO, qB, oP, nD, xZ, wo, Jf, Jg, OC, sO⟩ := (H).Am
 refine aB (oq O O (bI 0 bT O dP O (bI 1 cO O bU O (fC aW O (sO).get.2 O (aQ (kX ((sO.f4).aP) aW O) (aQ (eX O O) (jr O (fun h1 => ?_) (fun h1 => ?_))))))))
 ·(try simp only [Z] at h1)
  have agB : 0 < oP.length := by omega
  have V5 := sO.drew
  have qZ := V.kp (V5.f5.f5.f5.f5.f5)
  refine uN [5, 10] qZ O (gX 0 O qZ O (gX 1 O qZ O (jE 2 O qZ O (gy 3 O qZ 0 bT O dP O (gy 4 O qZ 0 cO O iF O (jf 5 O qZ (fun W hW => jv bQ O ((Kp.h hW)).get.2 O) (gX 6 O qZ O (jE 7 O qZ O (gy 8 O qZ 0 bT O dP O (gy 9 O qZ 1 cO O bU O (jf 10 O qZ (fun W hW => jv aW O ((Kp.h hW)).get.2 O) (mQ 11 O (lW (vs := [_]) V5 bQ bU oG O O O (by decide) (bg (by first | rfl | exact Rd.one ((V5.f4).aP)) bW)) ?_))))))))))))
  rintro l2 w2 H2
  have zx := V.kp (H2.f6.f6.f6.f6.f6.f6)
  refine fD zx (fun W hW => (Kp.h hW).right.f5.f5.f5.f5.f5) ?_
  refine mQ 12 O (iY H2.f3 bQ JO O O O ((H2).aP) (bg (by first | rfl | exact Rd.one ((H2.f5).aP)) bW) (by omega) (by omega)) ?_
  rintro l3 w3 H3
  have Hd4 := H3.f2.right
  have BN := V.kp (Hd4.f5.f5.f5.f5.f5)
  refine iK BN (by kernel_rfl) ?_
  refine jE 13 O BN O (gy 14 O BN 0 bT O dP O (gy 15 O BN 0 cO O iF O ?_))
  refine iH 16 O (by kernel_rfl) (gB 0 (l' := [_, _, _, _, _]) Hd4.f2 iF O O (by first | rfl | exact Rd.one ((Hd4).aP)) O O) ?_
  rintro _ w5 H5
  have Dj := V.kp (H5.f5.f5.f5.f5.f5)
  refine iK Dj (by kernel_rfl) ?_
  refine pq (aX (aB (jX O O (dK O (bI 0 bT O dP O (bI 1 cO O bU O (aJ (st5 1 H5 bU) ?_)))))))
  rintro _ w6 H6
  refine dK O (bI 0 bT O dP O (bI 2 cO O ay O (aJ (st5 2 H6 ay) ?_)))
  rintro _ w7 H7
  refine bZ (mX (.inr O) results177 ?_)
  have hN : N ≠ [] := by rintro rfl; exact absurd Jg (by simp only [List.length_nil]; omega)
  rw [vT hN]
  have X := V.tq (v := BO) (es := oP) (H7.f3.f3.f5.f5).deep
  have X4 := V.vS X.swap
  refine V.yH (gv := l3) (nv := .slice none 0 0) (gs := qB ++ [(BO, oP)]) (now := []) (ed := (ig G N : Nat)) ⟨XO nD.1 hN, by rw [← vT hN, MC]; exact nD.2.1, by decide, by decide, Tz nD.2.2.2.2.1 nD.2.2.2.2.2, by simp⟩ (by rw [List.map_append, xZ, ← wo]; rfl) O (by rw [← vT hN, MC]) ((X4.vk none).of_eq (by ac_rfl))
 ·(try simp only [Z] at h1)
  have agB : oP.length = 0 := by omega
  refine fV (aB (jX O O (dK O (bI 0 bT O dP O (bI 1 cO O bU O (aJ (st5 1 sO bU) ?_))))))
  rintro _ w8 H8
  refine dK O (bI 0 bT O dP O (bI 2 cO O ay O (aJ (st5 2 H8 ay) ?_)))
  rintro _ w9 H9
  refine bZ (mX (.inr O) results177 ?_)
  have hN : N = [] := by rw [← wo, List.eq_nil_of_length_eq_zero agB]; rfl
  subst hN
  rw [V4 rfl]
  refine V.yH (gv := DW) (nv := .slice none 0 0) (gs := qB) (now := []) (ed := (ig G [] : Nat)) ⟨nD.1, nD.2.1, by decide, by decide, nD.2.2.2.2⟩ xZ O O (((H9.f4.right.f4.right.f3.f3).vk none).of_eq (by unfold Gu; ac_rfl))
theorem V.QW (H : V w0 w (FY v es • F)) : V w0 w (FY v es • FY v es • F) := H.sQ
theorem Y1 (b : Nat) : Iter prog w0 (.func (.func 210) #[] #[.pointer (some ⟨b, 0, none⟩)]) (eP b (.cells #[v] 80 (0, 0)) • FY v es) es.length
  (fun k vs A => vs = [.int .i64 ((es.length - (k + 1) : Nat) : Int), .agg (es.getD (es.length - (k + 1)) default).enc.toArray] ∧ A = FY v es) := by
 intro l J X w hy H
 refine ⟨210, [], [.pointer (some ⟨b, 0, none⟩)], _, _, O, func210, O, O, ?_⟩
 have H1 : V w0 w (eP b (.cells #[v] 80 (0, 0)) • FY v es • J 0) := H.of_eq (by ac_rfl)
 obtain ⟨a, c, hv, hc1, hc2, _⟩ := (H1.swap.yV).form
 subst hv
 simp only [List.nil_append, List.cons_append]
 refine ZY func210 ntmps210 ?_
 dsimp only [zZ, Nat.reduceAdd]
 refine iy (fC aW O (H1).get.2 O (aQ (kX ((H1.f2).yV) aW O) (aQ (jk O O (by omega)) (dZ O (bf ?_)))))
 refine iC [(0, _), (1, _)] (fun (k : Nat) => [(3, .int .i64 ((k : Int) - 1))]) (fun (k : Nat) W => k ≤ es.length ∧ V w0 W (eP b (.cells #[.slice a es.length c] 80 (0, 0)) • FY (.slice a es.length c) es • J (es.length - k))) (fun (k : Nat) => k) (es.length) uh mO ⟨by omega, by rw [Nat.sub_self]; exact H1⟩ ?_
 rintro k w1 ⟨hk, HL⟩
 dsimp only [List.cons_append, List.nil_append]
 refine aI (bM O (aQ (lI O O) (jr O (fun h1 => ?_) (fun h1 => ?_))))
 ·(try simp only [Z] at h1)
  refine fV (aI (bf (aI ?_)))
  obtain ⟨m, rfl⟩ : ∃ m, k = m + 1 := ⟨k - 1, by omega⟩
  rw [show (((m + 1 : Nat) : Int) - 1) = (m : Int) from by omega]
  refine aB (jX O O (fC aW O (HL).get.2 O (bJ O ?_)))
  obtain ⟨bv, ov, cv, ev⟩ := Rd.rW ((HL.f2).yV) (by omega)
  cases ev
  refine aQ (dM aW dn O O (by omega)) (aQ (vP (ys := [_, _, _]) ((HL.f2).yV) (by omega) bD O dn O (xY fM.Fa (by omega) default) O) (kF (QV O O (hy (es.length - (m + 1)) (by omega) _ _ ⟨by rw [show es.length - (es.length - (m + 1) + 1) = m from by omega]; rfl, O⟩ (FY (.slice (some ⟨bv, ov, none⟩) es.length c) es • eP b (.cells #[.slice (some ⟨bv, ov, none⟩) es.length c] 80 (0, 0))) _ (HL.swap.QW.of_eq (by ac_rfl))).bool) ?_))
  rintro _ w2 ⟨t, rfl, ht1, ht2⟩
  refine aQ (kG O) (jr O (fun h2 => ?_) (fun h2 => ?_))
  ·(try simp only [Z] at h2)
   have HX := ht2 (by simpa using h2)
   refine lQ (aU (aA (aA (aU (we0 results210 ?_)))))
   exact .inr (HX.of_eq (by ac_rfl))
  ·(try simp only [Z] at h2)
   have HN : V w0 w2 (eP b (.cells #[.slice (some ⟨bv, ov, none⟩) es.length c] 80 (0, 0)) • FY (.slice (some ⟨bv, ov, none⟩) es.length c) es • J (es.length - m)) := by
    have h9 := ht1 (by simpa using h2)
    rw [show es.length - (m + 1) + 1 = es.length - m from by omega] at h9
    exact h9.of_eq (by ac_rfl)
   refine dh (aH (aX (aB (bJ O (aQ (jk O O (by omega)) (gU O (bZ ?_)))))))
   refine dX (m) ?_ ?_ ?_ ?_
   ·exact mO
   ·exact uh
   ·(try dsimp only)
    first | done | exact ⟨by omega, HN.f2.f2⟩
   ·(try dsimp only); omega
 ·(try simp only [Z] at h1)
  refine dR (aO (aO (bG (mX (.inr O) results210 ?_))))
  obtain rfl : k = 0 := by omega
  rw [Nat.sub_zero] at HL
  exact .inl (HL.of_eq (by ac_rfl))
end
def DX (e : jl) : jl := (e.1, e.2.2, e.2.1)
def aaH (c : Nat) (es : List fM) (k : Nat) : HP := xQ fun (x : Value × List fM) => fact (x.2.map fM.says = ((es.map fM.says).reverse.take k).map DX) • eP c (.cells #[x.1] 80 (0, 0)) • Oj x.1 x.2
theorem aaI {es : List fM} {k : Nat} (hk : k < es.length) : ((es.map fM.says).reverse.take (k + 1)).map DX = ((es.map fM.says).reverse.take k).map DX ++ [DX (es.getD (es.length - (k + 1)) default).says] := by
  rw [List.take_succ_eq_append_getElem (by simpa using hk), List.map_append]
  congr 1
  simp only [List.map_cons, List.map_nil, List.getElem_reverse, List.getElem_map, List.length_map]
  rw [List.getD_eq_getElem?_getD, List.getElem?_eq_getElem (by omega)]
  have e : es.length - 1 - k = es.length - (k + 1) := by omega
  simp only [Option.getD_some, e]
section
variable {w0 w : World} {F : HP} {p : Nat} {G : List (List jl)} {N : List jl} {op : Int} {gv nv v : Value} {gs : List (Value × List fM)} {now es : List fM} {a : Int} {d z : Value} {dl il : List Int}
theorem V.TG {c k : Nat} (H : V w0 w (aaH c es k • F)) : ∃ u fs, fs.map fM.says = ((es.map fM.says).reverse.take k).map DX ∧ fs.length ≤ es.length ∧ V w0 w (eP c (.cells #[u] 80 (0, 0)) • Row 189 3 u fs.length (fs.flatMap fM.enc) • nC fs • F) := by
  obtain ⟨⟨u, fs⟩, H⟩ := H.oN
  obtain ⟨h, H⟩ := H.flat.fact
  refine ⟨u, fs, h, ?_, ?_⟩
  · have := congrArg List.length h
    simp at this
    omega
  · have := H.flat
    unfold Oj at this
    exact this.of_eq (by ac_rfl)
theorem V.aaJ {c k : Nat} {u : Value} {fs : List fM} (h : fs.map fM.says = ((es.map fM.says).reverse.take k).map DX) (H : V w0 w (eP c (.cells #[u] 80 (0, 0)) • Oj u fs • F)) : V w0 w (aaH c es k • F) :=
  V.jV (u, fs) (V.deep (V.mW h H.deep))
theorem V.aeV (H : V w0 w (FY v es • F)) {k : Nat} (hk : k < es.length) : V w0 w (pF .i32 (es.getD k default).d (es.getD k default).dl • pF .i32 (es.getD k default).i (es.getD k default).il • FY v es • F) := by
  have h1 : V w0 w (pF .i32 (es.getD k default).d (es.getD k default).dl • FY v es • FY v es • F) := H.QW.QW.GY (rX (fun I h => (h.2 k hk).1) _)
  have h2 : V w0 w (pF .i32 (es.getD k default).i (es.getD k default).il • pF .i32 (es.getD k default).d (es.getD k default).dl • FY v es • F) := h1.swap.GY (rX (fun I h => (h.2 k hk).2) _)
  exact h2.swap
theorem Y2 (H : V w0 w F) (hv : v.oneCell' = true) : iQ prog 197 #[v] w fun v' w' => ∃ b, v' = .func (.func 210) #[] #[.pointer (some ⟨b, 0, none⟩)] ∧ V w0 w' (eP b (.cells #[v] 80 (0, 0)) • F) := by
  refine ji func197 ntmps197 ?_
  refine iy (kF (jF (l := [_]) H O (by first | rfl | exact E5 (by first | rfl | assumption))) ?_)
  rintro _ w1 ⟨b1, rfl, H1⟩
  refine dZ O (iy (aQ (Ad O O) (fA O (dI results197 O ?_))))
  exact ⟨_, O, H1⟩
theorem Ia (H : V w0 w (FY v es • F)) (hB : ∀ k, k < es.length → EB (es.getD k default).says) (hL : es.length ≤ 16384) :
  iQ prog 178 #[v] w fun v' w' => ∃ fs : List fM, fs.map fM.says = (es.map fM.says).reverse.map DX ∧ V w0 w' (Row 189 3 v' fs.length (fs.flatMap fM.enc) • nC fs • FY v es • F) := by
 refine ji func178 ntmps178 ?_
 refine ku O (iy (kF (iR (l := [_]) H oG O) ?_))
 rintro _ w1 ⟨b1, rfl, H1⟩
 refine rP (bM O (dS O func197 (Y2 H1 (Rd.one ((H1.f2).yV))) ?_))
 rintro _ w2 ⟨bB2, rfl, H2⟩
 refine iE (bf ?_)
 have V6 := H2.f2
 have XQ := V.aaJ (es := es) (k := 0) (fs := []) rfl (V6.vk none).swap
 refine Di O (Y1 bB2) (fun k => aaH b1 es k • F) (fact False) (fun _ => fact False) (XQ.f3.f3.f3.f3.f3.g2.comm) (by rfl) ?_ ?_ ?_ ?_
 ·rintro l5 k aeW vs5 A5 ⟨rfl, rfl⟩ G5 w5 H5
  try simp only [dH, qL, zi] at H5
  refine ⟨O, ?_⟩
  dsimp only [V3]
  have Hq := (H5).aeV (k := es.length - (k + 1)) (by omega)
  obtain ⟨hb1, hb2⟩ := hB (es.length - (k + 1)) (by omega)
  have hb1 : (es.getD (es.length - (k + 1)) default).dl.length ≤ 35184372087808 := hb1
  have hb2 : (es.getD (es.length - (k + 1)) default).il.length ≤ 35184372087808 := hb2
  obtain ⟨u, fs, hfs, hfl, HI⟩ := (Hq.f4).TG
  refine aB (kF (iR (l := [_, _, _]) HI dY O) ?_)
  rintro _ w6 ⟨b6, rfl, H6⟩
  refine aJ (dG 0 (l' := [_, _, _]) (us := [_, _, _]) H6 dn O O O (aG (bg (by first | rfl | exact Rd.one ((H6.f5).kD)) (bg (by first | rfl | exact Rd.one ((H6.f6).kD)) bW))) O O) ?_
  rintro _ w7 H7
  refine bZ ?_
  refine VZ (H7.g8) ?_
  intro G8 w8 H8
  try simp only [dH] at H8
  refine bf ?_
  have agC := H8.drew
  have aaK := V.kp (agC.f7.f7.f7.f7.f7.f7.f7)
  refine uN [0, 1] aaK O (jf 0 O aaK (fun W hW => jv aW O ((Kp.h hW).f2).get.2 O) (jf 1 O aaK (fun W hW => dV bD O dn O O ((Kp.h hW)).get.2) (mQ 2 O (wR O func198 (Je agC (fun W HW => (HW.f5).kD) (fun W HW => (HW.f6).kD) (by omega) (by omega))) ?_)))
  rintro _ w9 ⟨d9, s9, rfl, H9⟩
  have VW := V.kp (H9.f9.f9.f9.f9.f9.f9.f9.f9.f9)
  refine fD VW (fun W hW => (Kp.h hW).right.right.f7.f7.f7.f7.f7.f7.f7) ?_
  refine mQ 3 O (vK H9 aW dn dY O O O (by decide) (by decide)) ?_
  rintro l10 w10 pz
  have PL := V.kp (pz.f10.f10.f10.f10.f10.f10.f10.f10.f10.f10)
  refine fD PL (fun W hW => (Kp.h hW).right.f9.f9.f9.f9.f9.f9.f9.f9.f9) ?_
  refine mQ 4 O (iY pz.f6 aW BP O O O ((pz).aP) (aG (bg (by first | rfl | exact Rd.one ((pz.f2).aP)) (bg (by first | rfl | exact Rd.one ((pz.f3).aP)) bW))) (by omega) (by omega)) ?_
  rintro l11 FM rY
  have OD := rY.f2.right
  have FZ := V.kp (OD.f9.f9.f9.f9.f9.f9.f9.f9.f9)
  refine iK FZ (by kernel_rfl) ?_
  refine iH 5 O (by kernel_rfl) (gB 0 (l' := [_]) OD.f5 bU O O (by first | rfl | exact Rd.one ((OD).aP)) O O) ?_
  rintro _ PD xI
  have y8 := V.kp (xI.f9.f9.f9.f9.f9.f9.f9.f9.f9)
  refine iK y8 (by kernel_rfl) ?_
  refine pq (aH ?_)
  refine MB ?_
  have X := (xI.f5.right.f6.right.f6.right.f6.right.f6.f2.f6.f4.f6.f6).mY.swap.mY.swap
  have X2 := V.Ci X.f3
  exact (V.aaJ (es := es) (k := k + 1) (by rw [List.map_append, hfs, aaI (by omega)]; rfl) X2.swap).deep
 ·rintro D14 Pz yF
  have Tn := yF.ed
  try simp only [dH, qL, zi] at Tn
  have aeX := Tn.XD
  obtain ⟨u, fs, hfs, hfl, HI⟩ := (aeX.f4).TG
  refine aH (aX (iy (fC aW O (HI).get.2 O (fA O ?_))))
  refine KL (.inl O) (HI.f4) (fun QI yA => ?_)
  refine ⟨_, aeK results178 O, ?_⟩
  rw [List.take_of_length_le (by simp)] at hfs
  exact ⟨_, hfs, yA.right.f3.right.f3.f3.f3⟩
 ·rintro D w H; exact absurd H.swap.fact.1 id
 ·rintro id D w H; exact absurd H.swap.fact.1 fun h => h
end
def Ib (G : List (List jl)) (N : List jl) : Int := if G.length + N.length = 0 then 6 else 0
def XR (G : List (List jl)) (N : List jl) : List (List jl) := if G.length + N.length = 0 then G else (pG G N).dropLast
def XT (G : List (List jl)) (N : List jl) : List jl := if G.length + N.length = 0 then N else []
def XU (G : List (List jl)) (N : List jl) (op : Int) : Int := if G.length + N.length = 0 then op else 0
def ad5 (G : List (List jl)) (N : List jl) : List jl := if G.length + N.length = 0 then [] else ((pG G N).getLastD []).reverse.map DX
theorem PN {G : List (List jl)} {g N : List jl} : ig (G ++ [g]) N = ig G N + g.length := by simp [ig]; omega
section
variable {w0 w : World} {F : HP} {p : Nat} {G : List (List jl)} {N : List jl} {op : Int} {gv nv v : Value} {gs : List (Value × List fM)} {now es : List fM} {a : Int} {d z : Value} {dl il : List Int}
theorem V7 (h : ¬ G.length + N.length = 0) : pG G N ≠ [] := by
  unfold pG; split
  · rename_i hN; rintro rfl; subst hN; exact h rfl
  · simp
theorem V.V8 (H : V w0 w (jP p G [] op • F)) (hG : G ≠ []) : ∃ gv nv hs gl A8, G = hs.map (fun g => g.2.map fM.says) ++ [A8.map fM.says] ∧ UOk G [] op ∧ G.length = hs.length + 1 ∧ hs.length ≤ 16384 ∧ A8.length ≤ 16384 ∧ (∀ k, k < A8.length → EB (A8.getD k default).says) ∧
    V w0 w (eP p (.cells #[gv, nv, .int .i64 op, .int .i64 (ig G [] : Nat), .bool true] 235 (0, 0)) • Row 80 1 gv (hs.length + 1) (hs.map (·.1) ++ [gl]) • qP hs • FY gl A8 • Oj nv [] • F) := by
  obtain ⟨gv, nv, gs, now, h1, h2, h3, h4, h5, h6, H⟩ := H.Am
  obtain rfl : now = [] := List.eq_nil_of_length_eq_zero (by simpa using h5)
  rcases List.eq_nil_or_concat gs with rfl | ⟨hs, ⟨gl, A8⟩, rfl⟩
  · exact absurd h2.symm hG
  · have hG2 : G = hs.map (fun g => g.2.map fM.says) ++ [A8.map fM.says] := by rw [← h2]; simp
    have hle : A8.length ≤ 16384 := by
      have := h1.2.1
      rw [hG2, PN] at this
      simp at this
      omega
    refine ⟨gv, nv, hs, gl, A8, hG2, h1, ?_, ?_, hle, fun k hk => ?_, ?_⟩
    · rw [hG2]; simp
    · rw [hG2] at h6; simp at h6; omega
    · refine h1.2.2.2.2.1 (A8.map fM.says) (by rw [hG2]; simp) _ ?_
      rw [List.getD_eq_getElem?_getD, List.getElem?_eq_getElem hk]
      exact List.mem_map_of_mem (List.getElem_mem hk)
    · rw [List.concat_eq_append, List.length_append, List.map_append] at H
      have H1 := (H.f3.Tt (k := hs.length) (by simp)).swap
      rw [show (hs ++ [(gl, A8)]).getD hs.length default = (gl, A8) from by simp [List.getD_eq_getElem?_getD]] at H1
      have H2 := H1.Tv hs.length
      rw [List.take_left' rfl] at H2
      exact H2.of_eq (by unfold Oj; ac_rfl)
theorem F5 (H : V w0 w (jP p G N op • F)) : iQ prog 136 #[.pointer (some ⟨p, 0, none⟩)] w fun v w' => ∃ u, ∃ fs : List fM, v = .tuple #[u, .int .i64 (Ib G N)] ∧ fs.map fM.says = ad5 G N ∧
  V w0 w' (Row 189 3 u fs.length (fs.flatMap fM.enc) • nC fs • jP p (XR G N) (XT G N) (XU G N op) • F) := by
 unfold Ib ad5 XR XT XU
 refine ji func136 ntmps136 ?_
 refine iy (gU O (uf O (bM O (dS O func158 (ng H) ?_))))
 rintro _ _ ⟨rfl, rfl⟩
 refine iE (oh (fV (aI (aI ?_))))
 obtain ⟨DW, BO, qB, oP, nD, xZ, wo, Jf, Jg, OC, sO⟩ := (H).Am
 have FP := sO.drew
 have jL := V.kp (FP.f5.f5.f5.f5.f5)
 refine uN [4, 10] jL O (gX 0 O jL O (jE 1 O jL O (gy 2 O jL 0 bT O dP O (gy 3 O jL 0 cO O iF O (jf 4 O jL (fun W hW => jv bQ O ((Kp.h hW)).get.2 O) (iI 5 O jL (fun _ => kX ((FP.f2).aP) bQ O) (gX 6 O jL O (jE 7 O jL O (gy 8 O jL 0 bT O dP O (gy 9 O jL 1 cO O bU O (jf 10 O jL (fun W hW => jv aW O ((Kp.h hW)).get.2 O) (iI 11 O jL (fun _ => kX ((FP.f4).aP) aW O) (iI 12 O jL (fun _ => fQ O O (by omega)) (iI 13 O jL (fun _ => eF O O) (pq (aX (aZ O (fun h1 => ?_) (fun h1 => ?_))))))))))))))))))
 ·(try simp only [Z] at h1)
  have hGN : G.length + N.length = 0 := by omega
  have TA := FP.f5.f5.f5.f5.f5
  have SA := V.pR nD xZ wo rfl TA
  refine iy (gU O (fA O (aA (KP results136 O O ?_))))
  simp only [if_pos hGN]
  exact ⟨_, [], O, O, ((SA).vk none).edL⟩
 ·(try simp only [Z] at h1)
  have hGN : ¬ G.length + N.length = 0 := by omega
  have Ho7 := FP.f5.f5.f5.f5.f5
  have Hc8 := V.pR nD xZ wo rfl Ho7
  refine fV (bM O (dS O func177 (Es Hc8) ?_))
  rintro _ w9 H9
  refine rP ?_
  obtain ⟨gv, nv, hs, gl, A8, hG, hok, hl1, hl2, hl3, hEB, HU⟩ := (H9).V8 (V7 hGN)
  have htot := hok.2.1
  refine aB (oq O O (bI 0 bT O dP O (bI 0 cO O iF O (fC bQ O (HU).get.2 O (aQ (kX ((HU.f2).aP) bQ O) (aQ (jk O O (by omega)) (dZ O (bM O (dK O (bI 0 bT O dP O (bI 0 cO O iF O (fC bQ O (HU).get.2 O (bJ O ?_)))))))))))))
  obtain ⟨bgv, ogv, cgv, egv⟩ := Rd.rW ((HU.f2).aP) (by omega)
  cases egv
  refine aQ (dM bQ bU O O (by omega)) ?_
  refine aQ (fF (dA aW O) O (by first | exact Rd.lX ((HU.f2).aP) (by omega) | exact Rd.xJ ((HU.f2).aP) (by omega) | exact Rd.xH ((HU.f2).aP) (by omega))) ?_
  rw [show (hs.map (·.1) ++ [gl]).getD ((((hs.length + 1 : Nat)) : Int) - 1).toNat undef = gl from by rw [show ((((hs.length + 1 : Nat)) : Int) - 1).toNat = hs.length from by omega]; simp [List.getD_eq_getElem?_getD]]
  refine dZ O (bM O (oq O O (bI 0 bT O dP O (bI 0 cO O iF O (fC bQ O (HU).get.2 O (bJ O (aQ (oO ((HU.f2).aP) bQ bU O O O (by omega)) ?_)))))))
  refine dK O (bI 0 bT O dP O (bI 0 cO O iF O (aJ (gB 0 (l' := [_, _, _, _, _]) HU iF O O (by first | rfl | exact Rd.one (Rd.agw ((HU.f2).aP) (by omega))) O O) ?_)))
  rintro _ w10 pz
  refine sG O (dK O (bI 0 bT O dP O (bI 3 cO O ay O (fC aC O (pz).get.2 O (bJ O (aQ (kX ((pz.f4).yV) aW O) (aQ (jk O O (by omega)) (dK O (bI 0 bT O dP O (bI 3 cO O ay O (aJ (st5 3 pz ay) ?_)))))))))))
  rintro _ FM rY
  refine sG O (dS O func178 (Ia rY.f4 hEB hl3) ?_)
  rintro u12 w12 ⟨aaL, ad6, vM⟩
  refine gU O (fA O (KP results136 O O ?_))
  simp only [if_neg hGN]
  have hdl : (pG G N).dropLast = hs.map (fun g => g.2.map fM.says) := by rw [hG]; simp
  have hlast : (pG G N).getLastD [] = A8.map fM.says := by rw [hG]; simp
  have hX := (vM.f3.right.f6.f6.f5.f5.f5.f6).aal (h := hs.length) (by omega)
  rw [hdl, hlast]
  rw [Nat.mul_one, List.take_left' (by simp), show (((hs.length + 1 : Nat) : Int) - 1).toNat = hs.length from by omega, show Int.toNat 0 = 0 from rfl] at hX
  have hT : ig (pG G N) [] = ig (hs.map (fun g => g.2.map fM.says)) [] + A8.length := by rw [hG, PN, List.length_map]
  have hok2 : UOk (hs.map (fun g => g.2.map fM.says)) [] 0 := ⟨fun g hg => hok.1 g (by rw [hG]; exact List.mem_append_left _ hg), by omega, by decide, by decide, fun g hg => hok.2.2.2.2.1 g (by rw [hG]; exact List.mem_append_left _ hg), by simp⟩
  refine ⟨_, _, O, (by assumption), ?_⟩
  have hU := V.yH (gv := sV 1 0 hs.length (.slice (some ⟨bgv, ogv, none⟩) (hs.length + 1) cgv)) (nv := nv) (gs := hs) (now := []) (ed := (ig (pG G N) [] : Nat) - (A8.length : Int)) (F := Row 189 3 u12 aaL.length (aaL.flatMap fM.enc) • nC aaL • F) hok2 rfl rfl (by omega) (hX.of_eq (by unfold Gu; ac_rfl))
  exact hU.of_eq (by ac_rfl)
end
def Cj (op : Int) : Int := if op = 0 then 1 else 0
def aeY (G : List (List jl)) (N : List jl) (op : Int) : List (List jl) := if op = 1 then pG G N else G
def aeZ (N : List jl) (op : Int) : List jl := if op = 1 then [] else N
def acU (op : Int) : Int := if op = 0 then 0 else op - 1
theorem Y3 {es : List fM} {k : Nat} (hk : k < es.length) : (es.take (k + 1)).map fM.says = (es.take k).map fM.says ++ [(es.getD k default).says] := by
  rw [List.take_succ_eq_append_getElem hk, List.map_append, List.getD_eq_getElem?_getD, List.getElem?_eq_getElem hk]
  rfl
section
variable {w0 w : World} {F : HP} {p : Nat} {G : List (List jl)} {N : List jl} {op : Int} {gv nv v : Value} {gs : List (Value × List fM)} {now es : List fM} {a : Int} {d z : Value} {dl il : List Int}
theorem Dk (H : V w0 w (jP p G N op • F)) : iQ prog 139 #[.pointer (some ⟨p, 0, none⟩)] w fun v w' => v = .int .i64 (Cj op) ∧ V w0 w' (jP p (aeY G N op) (aeZ N op) (acU op) • F) := by
 unfold Cj aeY aeZ acU
 refine ji func139 ntmps139 ?_
 refine ku O (aI (bM O (dS O func158 (ng H) ?_)))
 rintro _ _ ⟨rfl, rfl⟩
 refine iE (oh (fV (aI (aI ?_))))
 obtain ⟨DW, BO, qB, oP, nD, xZ, wo, Jf, Jg, OC, sO⟩ := (H).Am
 have hop := nD.2.2.1
 have hop2 := nD.2.2.2.1
 refine aB (oq O O (bI 0 bT O dP O (bI 2 cO O ay O (fC aC O (sO).get.2 O (aQ (eF O O) (jr O (fun h1 => ?_) (fun h1 => ?_)))))))
 ·(try simp only [Z] at h1)
  have h0 : op = 0 := by omega
  refine kC O (aA (dI results139 O ?_))
  have TA := sO.f5.f5.f5.f5.f5
  have SA := V.pR nD xZ wo rfl TA
  subst h0
  exact ⟨O, SA⟩
 ·(try simp only [Z] at h1)
  have h0 : ¬ op = 0 := by omega
  refine fV (aI (bM O (dK O (bI 0 bT O dP O (bI 2 cO O ay O (fC aC O (sO).get.2 O (aQ (jk O O (by omega)) (dK O (bI 0 bT O dP O (bI 2 cO O ay O (aJ (st5 2 sO ay) ?_)))))))))))
  rintro _ w6 H6
  refine sG O (dK O (bI 0 bT O dP O (bI 2 cO O ay O (fC aC O (H6).get.2 O (aQ (eF O O) (jr O (fun h2 => ?_) (fun h2 => ?_)))))))
  ·(try simp only [Z] at h2)
   have h1 : op = 1 := by omega
   have Ho7 := H6.f5.f5.f5.f5.f5
   have Hc8 := V.pR (op := op - 1) ⟨nD.1, nD.2.1, by omega, by omega, nD.2.2.2.2⟩ xZ wo rfl Ho7
   refine aB (bJ O (dS O func177 (Es Hc8) ?_))
   rintro _ w9 H9
   refine iE (kC O (dI results139 O ?_))
   subst h1
   exact ⟨O, H9⟩
  ·(try simp only [Z] at h2)
   have h1 : ¬ op = 1 := by omega
   refine fV (kC O (dI results139 O ?_))
   rw [if_neg h0, if_neg h1, if_neg h1, if_neg h0]
   exact ⟨O, V.pR ⟨nD.1, nD.2.1, by omega, by omega, nD.2.2.2.2⟩ xZ wo O H6.f5.f5.f5.f5.f5⟩
theorem MF (H : V w0 w F) (hv : YN w0 F 3 v es.length (es.flatMap fM.enc)) (he : ∀ k, k < es.length → jh w0 F .i32 (es.getD k default).d (es.getD k default).dl ∧ jh w0 F .i32 (es.getD k default).i (es.getD k default).il)
  (hB : ∀ k, k < es.length → EB (es.getD k default).says) (hL : es.length ≤ 16384) :
  iQ prog 173 #[v] w fun v' w' => ∃ fs : List fM, fs.map fM.says = es.map fM.says ∧ V w0 w' (Row 189 3 v' fs.length (fs.flatMap fM.enc) • nC fs • F) := by
 refine ji func173 ntmps173 ?_
 refine ku O (ku O (aI (bM O (aQ (kX (hv _ (H)) aW O) (bJ O (iE (bf ?_)))))))
 refine iC [(6, _), (7, _)] (fun (⟨k, u⟩ : Nat × Value) => [(3, u), (8, .int .i64 (k : Int))]) (fun (⟨k, u⟩ : Nat × Value) W => k ≤ es.length ∧ ∃ fs : List fM, fs.map fM.says = (es.take k).map fM.says ∧ V w0 W (Row 189 3 u fs.length (fs.flatMap fM.enc) • nC fs • F)) (fun (⟨k, u⟩ : Nat × Value) => es.length - k) ((0, .slice none 0 0)) uh uh ⟨by omega, [], O, (H.vk none).edL⟩ ?_
 rintro ⟨k, u⟩ w1 ⟨hk, fs, hfs, HL⟩
 dsimp only [List.cons_append, List.nil_append]
 refine iy (aQ (gW O O) (rP (aZ O (fun h1 => ?_) (fun h1 => ?_))))
 ·(try simp only [Z] at h1)
  refine fV (aI (bf (iy ?_)))
  obtain ⟨bv, ov, cv, ev⟩ := Rd.rW (hv _ (HL.right.right)) (by omega)
  cases ev
  refine aQ (dM aW dn O O (by omega)) (aQ (vP (ys := [_, _, _]) (hv _ (HL.right.right)) (by omega) bD O dn O (xY fM.Fa (by omega) default) O) ?_)
  have hkl : k < es.length := by omega
  obtain ⟨f1, f2⟩ := he k hkl
  obtain ⟨hb1, hb2⟩ := hB k hkl
  have hb1 : (es.getD k default).dl.length ≤ 35184372087808 := hb1
  have hb2 : (es.getD k default).il.length ≤ 35184372087808 := hb2
  have hfl : fs.length = k := by have h9 := congrArg List.length hfs; simp at h9; omega
  refine kF (iR (l := [_, _, _]) HL dY O) ?_
  rintro _ w2 ⟨b2, rfl, H2⟩
  refine aJ (dG 0 (l' := [_, _, _]) (us := [_, _, _]) H2 dn O O O (aG (bg (by first | rfl | exact Rd.one (f1 _ (H2.right.right.right))) (bg (by first | rfl | exact Rd.one (f2 _ (H2.right.right.right))) bW))) O O) ?_
  rintro _ w3 H3
  refine iE (aB (bJ O (aQ (dV bD O dn O O (H3).get.2) (dS O func179 (zu H3 (fun W HW => f1 _ (HW.right.right.right)) (fun W HW => f2 _ (HW.right.right.right)) (by omega) (by omega)) ?_))))
  rintro _ w4 ⟨d4, s4, rfl, H4⟩
  refine kF (vK H4 aW dn dY O O O (by decide) (by decide)) ?_
  rintro l5 w5 H5
  refine kF (iY H5.f5 aW BP O O O ((H5).aP) (aG (bg (by first | rfl | exact Rd.one ((H5.f2).aP)) (bg (by first | rfl | exact Rd.one ((H5.f3).aP)) bW))) (by omega) (by omega)) ?_
  rintro l6 w6 H6
  have Hd7 := H6.f2.right
  refine gU O (bZ (aH (aX (aB (aQ (fQ O O (by omega)) (bJ O (bZ ?_)))))))
  refine dX ((k + 1, l6)) ?_ ?_ ?_ ?_
  ·exact uh
  ·exact uh
  ·(try dsimp only)
   first | done | exact ⟨by omega, _, by rw [List.map_append, hfs, Y3 (by omega)]; rfl, (V.Ci (Hd7.f4.right.f4.f2.f4.f4).mY.swap.mY.swap.f3).edL⟩
  ·(try dsimp only); omega
 ·(try simp only [Z] at h1)
  refine dR (aO (aO (bG (aX (bM O (fA O (dI results173 O ?_)))))))
  rw [List.take_of_length_le (by omega)] at hfs
  exact ⟨_, hfs, HL.f2.f2⟩
theorem V.sJ {es : List fM} (H : V w0 w (nC es • F)) {k : Nat} (hk : k < es.length) : fJ w .i32 (es.getD k default).d (es.getD k default).dl ∧ fJ w .i32 (es.getD k default).i (es.getD k default).il := let ⟨I, h, hI⟩ := H.uZ; ⟨(h k hk).1.rd hI, (h k hk).2.rd hI⟩
theorem Et (H : V w0 w (Row 189 3 v es.length (es.flatMap fM.enc) • nC es • F)) (hB : ∀ k, k < es.length → EB (es.getD k default).says) (hL : es.length ≤ 16384) :
    iQ prog 173 #[v] w fun v' w' => ∃ fs : List fM, fs.map fM.says = es.map fM.says ∧ V w0 w' (Row 189 3 v' fs.length (fs.flatMap fM.enc) • nC fs • Row 189 3 v es.length (es.flatMap fM.enc) • nC es • F) :=
  MF H (fun W HW => HW.aP) (fun k hk => ⟨fun W HW => (HW.right.sJ hk).1, fun W HW => (HW.right.sJ hk).2⟩) hB hL
theorem BQ (H : V w0 w (FY v es • F)) (hB : ∀ k, k < es.length → EB (es.getD k default).says) (hL : es.length ≤ 16384) :
    iQ prog 173 #[v] w fun v' w' => ∃ fs : List fM, fs.map fM.says = es.map fM.says ∧ V w0 w' (Row 189 3 v' fs.length (fs.flatMap fM.enc) • nC fs • FY v es • F) :=
  MF H (fun W HW => HW.yV) (fun k hk => ⟨fun W HW => HW.agx hk, fun W HW => HW.agy hk⟩) hB hL
end
def ajO (G : List (List jl)) (N : List jl) : List jl := (pG G N).flatten.reverse.map DX
section
variable {w0 w : World} {F : HP} {p : Nat} {G : List (List jl)} {N : List jl} {op : Int} {gv nv v u : Value} {gs : List (Value × List fM)} {now es fs : List fM} {a : Int} {d z : Value} {dl il : List Int}
theorem MG (H : V w0 w (jP p G N op • F)) : iQ prog 204 #[.pointer (some ⟨p, 0, none⟩)] w fun _ w' => V w0 w' (jP p [] [] 0 • F) := by
 refine ji func204 ntmps204 ?_
 refine bM O (dS O func158 (ng H) ?_)
 rintro _ _ ⟨rfl, rfl⟩
 refine aQ (kG O) (iE (wcE O (fun h1 => ?_)))
 (try simp only [Z] at h1)
 obtain ⟨DW, BO, qB, oP, nD, xZ, wo, Jf, Jg, OC, sO⟩ := (H).Am
 refine aB (bJ O (aQ (nP (pl := #[(0, 4), (4, 1)]) (#[_, _, _, _, _]) bT zeroValue235 (fun w => by kernel_rfl) O (O)) (dK O (aJ (dG 0 (l' := [_, _, _, _, _]) (us := [_, _, _, _, _]) sO sizeOf235 O O O (aG (aG (aG (aG (aG bW))))) O O) ?_))))
 rintro _ w3 H3
 refine bZ (mX (.inr O) results204 ?_)
 refine V.yH (gv := .slice none 0 0) (nv := .slice none 0 0) (gs := []) (now := []) ⟨by simp, by decide, by decide, by decide, by simp, by simp⟩ O O O ?_
 exact (((H3.f2.right.f2.right.f2.right.f2.right).vk none).Hy none).of_eq (by ac_rfl)
theorem V.aaM (H : V w0 w (FY v es • F)) : ∀ x ∈ es.flatMap fM.enc, x.oneCell' = true :=
  V.Eo (es := es) (w0 := w0) (w := w) (F := F) (H.GY (rX (fun I h => h.2) F))
theorem V.KW (H : V w0 w (qP gs • F)) {k : Nat} {gl : Value} {A8 : List fM} (hk : k < gs.length) (hg : gs.getD k default = (gl, A8)) : V w0 w (FY gl A8 • qP gs • F) := by
  have := H.Tt hk
  rwa [hg] at this
end
end Go.Proofs.YtpdeedplgmbopaaGreatDoor
end
