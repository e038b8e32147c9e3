import Derived.Test.YtgofgnlkpeghcaaGreatDoorZ4
import Derived.Test.YtgofgnlkpeghcaaGreatDoorZ7
import Derived.Test.YtgofgnlkpeghcaaGreatDoorZ6
set_option linter.unusedSimpArgs false
set_option linter.unusedVariables false
/- Texts of mine, joined, their names in short: Ring3 RingAny UList Range UList2 UList3 UList4. -/
section
namespace Go.Proofs.YtgofgnlkpeghcaaGreatDoor
open Go.RowKit
open _root_.Go.Proofs.Tryz
def JU (m place : Nat) (n : Int) : Nat := (((place : Int) + n) % (m : Int)).toNat
theorem acI {m place : Nat} {n : Int} (h : 0 < m) : JU m place n < m := by
  unfold JU
  have h1 := Int.emod_nonneg ((place : Int) + n) (show (m : Int) ≠ 0 by omega)
  have h2 := Int.emod_lt_of_pos ((place : Int) + n) (show (0 : Int) < m by omega)
  omega
theorem MP (a : Int) {m : Int} (h : 0 < m) : -m < a.tmod m ∧ a.tmod m < m := by
  have h2 := Int.tmod_lt_of_pos a h
  have h3 := Int.tmod_lt_of_pos (-a) h
  rw [Int.neg_tmod] at h3
  omega
theorem QB (a m : Int) : a.tmod m % m = a % m := by
  rw [Int.tmod_def]
  exact Int.sub_mul_emod_self_left a m (a.tdiv m)
theorem ad3 (m place : Nat) (n : Int) (h : 0 < m) : (((place : Int) + n.tmod m).tmod m + m).tmod m = (JU m place n : Int) := by
  have h1 := MP ((place : Int) + n.tmod m) (show (0 : Int) < m by omega)
  have h2 := Int.emod_nonneg ((place : Int) + n) (show (m : Int) ≠ 0 by omega)
  unfold JU
  rw [Int.toNat_of_nonneg h2, Int.tmod_eq_emod_of_nonneg (by omega), Int.add_emod_right, QB, Int.add_emod, QB, ← Int.add_emod]
section
variable {w0 w : World} {F : HP} {p place : Nat} {E : List (List Int)} {v : Value} {l : List Int} {way : Int}
theorem JV {n : Int} (H : V w0 w (jV p [] place • F)) :
    iM prog 131 #[.pointer (some ⟨p, 0, none⟩), .int .i64 n] w fun v' w' => v' = .tuple #[.slice none 0 0, .int .i64 6] ∧ V w0 w' (jV p [] place • F) := by
  obtain ⟨s, h, hs, hh, hE, hp, hm, ho, H1⟩ := H.ring
  have hb := H1.get.2
  refine qI func131 ntmps131 ?_
  refine jw (iC O (sS O (bg (bY O (fE O func139 (zD _ hb RF) ?_)))))
  rintro _ _ ⟨rfl, rfl⟩
  refine iP O (vS (bY O (dO O (bn 62 jc O aj O (fB aB O hb (zh hs) (aW (kP O O) (iP O (wcA O (fun h1 => ?_)))))))))
  (try simp only [aF] at h1)
  refine jw (iC O (ig O (aX (aC (Dw results131 O O ?_)))))
  exact ⟨O, H⟩
theorem LH {n : Int} (H : V w0 w (jV p E place • F)) (h0 : 0 < E.length) :
  iM prog 131 #[.pointer (some ⟨p, 0, none⟩), .int .i64 n] w fun v' w' => ∃ u, v' = .tuple #[u, .int .i64 0] ∧
   V w0 w' (jR 21 .i32 u (E.getD (JU E.length place n) []) • jV p E (JU E.length place n) • F) := by
 obtain ⟨s, h, hs, hh, hE, hp, hm, ho, H⟩ := H.ring
 have hb := H.get.2
 have hlt := acI (place := place) (n := n) h0
 have acJ := ad3 E.length place n h0
 have hb1 := MP n (show (0 : Int) < E.length by omega)
 have hb2 := MP ((place : Int) + n.tmod E.length) (show (0 : Int) < E.length by omega)
 refine qI func131 ntmps131 ?_
 refine jw (iC O (sS O (bg (bY O (fE O func139 (zD _ hb RF) ?_)))))
 rintro _ _ ⟨rfl, rfl⟩
 refine iP O (vS (bY O (dO O (bn 62 jc O aj O (fB aB O hb (zh hs) (aW (kP O O) (iP O (ZM O (fun h1 => ?_)))))))))
 (try simp only [aF] at h1)
 refine dS (aP (aZ (aO ?_)))
 refine tC (n := 30) [0, 1, 2, 3, 4, 5, 6, 7, 8, 9, 10, 11, 12, 13, 14, 15, 16, 17, 18, 19, 20, 21, 22, 23, 24, 25, 26, 27, 28, 29] (fun W => W.heap = w.heap) (by kernel_rfl) (by kernel_rfl) O ?_
 have hS0 : (fun W => W.heap = w.heap) (w.drew) := rfl
 have H5d := H.drew
 refine gQ 0 O hS0 O (gQ 1 O hS0 O (jQ 2 O hS0 O (fQ 3 O hS0 63 jc O aj O ?_)))
 refine iO 4 O hS0 (fun W hW => jT aB O (by rw [hW]; exact hb) (N7 hs)) ?_
 refine gQ 5 O hS0 O (gQ 6 O hS0 O (jQ 7 O hS0 O (fQ 8 O hS0 62 jc O aj O ?_)))
 refine iO 9 O hS0 (fun W hW => jT aB O (by rw [hW]; exact hb) (zh hs)) ?_
 refine iL 10 O hS0 (fun _ => Ri O O (by omega)) (iL 11 O hS0 (fun _ => fP O O (by omega)) (gQ 12 O hS0 O (jQ 13 O hS0 O (fQ 14 O hS0 62 jc O aj O ?_))))
 refine iO 15 O hS0 (fun W hW => jT aB O (by rw [hW]; exact hb) (zh hs)) ?_
 refine iL 16 O hS0 (fun _ => Ri O O (by omega)) (gQ 17 O hS0 O (jQ 18 O hS0 O (fQ 19 O hS0 62 jc O aj O ?_)))
 refine iO 20 O hS0 (fun W hW => jT aB O (by rw [hW]; exact hb) (zh hs)) ?_
 refine iL 21 O hS0 (fun _ => fP O O (by omega)) (gQ 22 O hS0 O (jQ 23 O hS0 O (fQ 24 O hS0 62 jc O aj O ?_)))
 refine iO 25 O hS0 (fun W hW => jT aB O (by rw [hW]; exact hb) (zh hs)) ?_
 refine iL 26 O hS0 (fun _ => Ri O O (by omega)) (jQ 27 O hS0 O (fQ 28 O hS0 63 jc O aj O ?_))
 refine gU 29 O (by kernel_rfl) (iK H5d aj O O O (by rw [JR hs]; decide)) ?_
 rintro _ w2 H2
 rw [acJ, N8 hs] at H2
 refine TV (by kernel_rfl) ?_
 refine qj (aZ (bY O (mJ O O (bn 63 jc O aj O (fB aB O H2.get.2 (N7 hs) (fE O func156 (Ur hs hh (by omega) H2.get.2) ?_))))))
 rintro _ w3 ⟨rfl, hD2⟩
 have H3 := H2.Gp hD2
 refine VW (Ae (Af O func43 O O) (uY H3 (fun W HW => HW.right.aaB (i := JU E.length place n) hlt) (by have := hm (E.getD (JU E.length place n) []) (by rw [List.getD_eq_getElem?_getD, List.getElem?_eq_getElem hlt]; simp); omega))) (lI O) ?_
 rintro u w4 H4
 refine iC O (ig O (Dw results131 O O ?_))
 exact ⟨u, O, (V.MO hs hh hE (.inl hlt) hm ho H4.d3).swap⟩
theorem V.Y0 {s : List Value} {h : Nat} (H : V w0 w (Ef s h E • F)) : V w0 w (Ef s h E • Ef s h E • F) := H.uD
theorem Y1 {s : List Value} {h n p : Nat} (ho : ∀ v ∈ s, v.oneCell' = true) : ∀ v ∈ (kE s h n p).toList, v.oneCell' = true := by
  intro v hv
  simp [kE] at hv
  rcases hv with rfl | hv | rfl | rfl | rfl <;> first | rfl | exact ho v hv
theorem E5 (H : V w0 w (jV p E place • F)) :
    iM prog 100 #[.pointer (some ⟨p, 0, none⟩)] w fun v' w' => ∃ q, v' = .pointer (some ⟨q, 0, none⟩) ∧ V w0 w' (jV q E place • jV p E place • F) := by
  obtain ⟨s, h, hs, hh, hE, hp, hm, ho, H⟩ := H.ring
  have hb := H.get.2
  refine iQ func100 ntmps100 ?_
  refine kQ O (aO (bY O (fE O func139 (zD _ hb RF) ?_)))
  rintro _ _ ⟨rfl, rfl⟩
  refine jd (vS (iy (bY O (dO O (aW (dI jc O sizeOf172 (JR hs) O hb) (iY (xM H zeroValue172) ?_))))))
  rintro _ w2 ⟨b2, rfl, H2⟩
  refine aI (dP H2 sizeOf172 (JR hs) O O O (Y1 ho)) ?_
  rintro _ w3 H3
  refine jd (mP O (fD results100 O ?_))
  exact ⟨_, O, V.MO hs hh hE hp hm ho (V.MO hs hh hE hp hm ho (H3.Qj.Y0.r4)).swap.Qj⟩
end
section
variable {w0 w : World} {F : HP} {p place : Nat} {E : List (List Int)}
theorem Wu (H : V w0 w (jV p E place • F)) : E.length ≤ 60 ∧ (place < E.length ∨ place = 0) ∧ ∀ e ∈ E, e.length ≤ 1024 := by
  obtain ⟨s, h, hs, hh, hE, hpl, hE2, hs1, H1⟩ := H.ring
  exact ⟨hE, hpl, hE2⟩
theorem LJ {n : Int} (H : V w0 w (jV p E place • F)) : iM prog 131 #[.pointer (some ⟨p, 0, none⟩), .int .i64 n] w fun v w' => ∃ u, v = .tuple #[u, .int .i64 (if E.length = 0 then 6 else 0)] ∧
    V w0 w' (jR 21 .i32 u (if E.length = 0 then [] else E.getD (JU E.length place n) []) • jV p E (if E.length = 0 then place else JU E.length place n) • F) := by
  by_cases h0 : E.length = 0
  · obtain rfl := List.eq_nil_of_length_eq_zero h0
    simp only [List.length_nil, if_true]
    exact (JV H).mono fun v w' h => ⟨_, h.1, h.2.gG none⟩
  · simp only [if_neg h0]
    exact (LH H (by omega)).mono fun v w' h => h
end
abbrev kC := Int × List Int × List Int
def iD (G : List (List kC)) (N : List kC) : Nat := (G.map List.length).sum + N.length
def EB (e : kC) : Prop := e.2.1.length ≤ 35184372087808 ∧ e.2.2.length ≤ 35184372087808
theorem acK {N : List kC} {x : kC} (h : ∀ e ∈ N, EB e) (hx : EB x) : ∀ e ∈ N ++ [x], EB e := fun e he => by
  rcases List.mem_append.1 he with he | he
  · exact h e he
  · rw [List.mem_singleton.1 he]; exact hx
theorem Us {G : List (List kC)} {N : List kC} (h : ∀ g ∈ G, ∀ e ∈ g, EB e) (hx : ∀ e ∈ N, EB e) : ∀ g ∈ G ++ [N], ∀ e ∈ g, EB e := fun g hg => by
  rcases List.mem_append.1 hg with hg | hg
  · exact h g hg
  · rw [List.mem_singleton.1 hg]; exact hx
theorem XU {G : List (List kC)} {N : List kC} (h : ∀ g ∈ G, g ≠ []) (hx : N ≠ []) : ∀ g ∈ G ++ [N], g ≠ [] := fun g hg => by
  rcases List.mem_append.1 hg with hg | hg
  · exact h g hg
  · rw [List.mem_singleton.1 hg]; exact hx
def UOk (G : List (List kC)) (N : List kC) (op : Int) : Prop := (∀ g ∈ G, g ≠ []) ∧ iD G N ≤ 16384 ∧ 0 ≤ op ∧ op ≤ 4611686018427387904 ∧ (∀ g ∈ G, ∀ e ∈ g, EB e) ∧ ∀ e ∈ N, EB e
theorem Wv {G : List (List kC)} (h : ∀ g ∈ G, g ≠ []) : G.length ≤ (G.map List.length).sum := by
  induction G with
  | nil => simp
  | cons g G ih =>
    have h1 := ih fun x hx => h x (by simp [hx])
    have h2 : 0 < g.length := List.length_pos_iff.2 (h g (by simp))
    simp; omega
theorem UOk.len {G : List (List kC)} {N : List kC} {op : Int} (h : UOk G N op) : G.length + N.length ≤ 16384 := by
  have := Wv h.1
  have := h.2.1
  unfold iD at this
  omega
def jW (p : Nat) (G : List (List kC)) (N : List kC) (op : Int) : HP := yC fun (x : Value × Value × List (Value × List fJ) × List fJ) =>
  fact (UOk G N op ∧ x.2.2.1.map (fun g => g.2.map fJ.says) = G ∧ x.2.2.2.map fJ.says = N) • eF p (.cells #[x.1, x.2.1, .int .i64 op, .int .i64 (iD G N : Nat), .bool true] 214 (0, 0)) • He x.1 x.2.2.1 • MJ x.2.1 x.2.2.2
section
variable {w0 w : World} {F : HP} {p : Nat} {G : List (List kC)} {N : List kC} {op : Int} {gv nv : Value} {gs : List (Value × List fJ)} {now : List fJ} {a : Int} {d z : Value} {dl il : List Int}
theorem V.Ah (H : V w0 w (jW p G N op • F)) : ∃ gv nv gs now, UOk G N op ∧ gs.map (fun g => g.2.map fJ.says) = G ∧ now.map fJ.says = N ∧ gs.length = G.length ∧ now.length = N.length ∧ G.length + N.length ≤ 16384 ∧
    V w0 w (eF p (.cells #[gv, nv, .int .i64 op, .int .i64 (iD G N : Nat), .bool true] 214 (0, 0)) • Row 96 1 gv gs.length (gs.map (·.1)) • rQ gs • Row 183 3 nv now.length (now.flatMap fJ.enc) • nX now • F) := by
  obtain ⟨⟨gv, nv, gs, now⟩, H⟩ := H.pO
  obtain ⟨⟨h1, h2, h3⟩, H⟩ := H.flat.fact
  refine ⟨gv, nv, gs, now, h1, h2, h3, ?_, ?_, h1.len, ?_⟩
  · rw [← h2]; simp
  · rw [← h3]; simp
  · have := H.flat
    unfold He MJ at this
    exact this.of_eq (by ac_rfl)
theorem V.zS (h1 : UOk G N op) (h2 : gs.map (fun g => g.2.map fJ.says) = G) (h3 : now.map fJ.says = N) {ed : Int} (he : ed = (iD G N : Nat))
    (H : V w0 w (eF p (.cells #[gv, nv, .int .i64 op, .int .i64 ed, .bool true] 214 (0, 0)) • He gv gs • MJ nv now • F)) : V w0 w (jW p G N op • F) := by
  subst he
  exact V.jG (gv, nv, gs, now) (V.deep (V.oG ⟨h1, h2, h3⟩ (H.of_eq (by ac_rfl))))
theorem V.qY (h1 : UOk G N op) (h2 : gs.map (fun g => g.2.map fJ.says) = G) (h3 : now.map fJ.says = N) {ed : Int} (he : ed = (iD G N : Nat))
    (H : V w0 w (eF p (.cells #[gv, nv, .int .i64 op, .int .i64 ed, .bool true] 214 (0, 0)) • Row 96 1 gv gs.length (gs.map (·.1)) • rQ gs • Row 183 3 nv now.length (now.flatMap fJ.enc) • nX now • F)) : V w0 w (jW p G N op • F) :=
  V.zS h1 h2 h3 he (H.of_eq (by unfold He MJ; ac_rfl))
theorem oI (H : V w0 w (jW p G N op • F)) : iM prog 140 #[.pointer (some ⟨p, 0, none⟩)] w fun v w' => v = .bool false ∧ w = w' := by
 refine iQ func140 ntmps140 ?_
 refine kQ O (aO ?_)
 obtain ⟨EJ, Di, rG, qK, oU, zi, xg, JW, JX, PK, uw⟩ := (H).Ah
 refine aA (bT O (aW (iJ underlying174 O O) (mX O (fun h1 => ?_) (fun h1 => ?_))))
 ·(try simp only [aF] at h1)
  exfalso; first | contradiction | omega
 ·(try simp only [aF] at h1)
  refine bW (bT O (bW (dO O (bW (bn 4 bV O aQ O (bW (fB cZ O (uw).get.2 O (bW (aW (mG O) (kX O O (ig O (fD results140 O ?_))))))))))))
  exact ⟨O, O⟩
theorem RI (H : V w0 w F) : iM prog 142 #[] w fun v w' => ∃ p, v = .pointer (some ⟨p, 0, none⟩) ∧ V w0 w' (jW p [] [] 0 • F) := by
  refine adV func142 ntmps142 ?_
  refine kQ O (jw (aW (jB (pl := #[(0, 4), (4, 1)]) (#[_, _, _, _, _]) bV zeroValue214 (fun w => by kernel_rfl) O (O)) (iY (jo (l := [_, _, _, _, _]) H O O) ?_)))
  rintro _ w1 ⟨b1, rfl, H1⟩
  refine ig O (fD results142 O ?_)
  refine ⟨_, O, V.zS (gv := .slice none 0 0) (nv := .slice none 0 0) (gs := []) (now := []) ⟨by simp, by decide, by decide, by decide, by simp, by simp⟩ O O O ?_⟩
  exact (((H1).wF none).IG none).of_eq (by ac_rfl)
theorem RJ (H : V w0 w (jW p G N op • F)) : iM prog 132 #[.pointer (some ⟨p, 0, none⟩)] w fun v w' => v = .int .i64 ((G.length : Int) + min 1 N.length) ∧ V w0 w' (jW p G N op • F) := by
 refine iQ func132 ntmps132 ?_
 refine kQ O (aO (bY O (fE O func140 (oI H) ?_)))
 rintro _ _ ⟨rfl, rfl⟩
 refine jd (vS (iy (aO ?_)))
 obtain ⟨EJ, Di, rG, qK, oU, zi, xg, JW, JX, PK, uw⟩ := (H).Ah
 have JK := uw.drew
 have kT := V.kp (JK.f5.f5.f5.f5.f5)
 refine uU [4, 10] kT O (gQ 0 O kT O (jQ 1 O kT O (fQ 2 O kT 0 bV O dQ O (fQ 3 O kT 0 dh O iH O (iO 4 O kT (fun W hW => jT bP O ((Kp.h hW)).get.2 O) (iL 5 O kT (fun _ => fV ((JK.f2).aN) bP O) (gQ 6 O kT O (jQ 7 O kT O (fQ 8 O kT 0 bV O dQ O (fQ 9 O kT 1 dh O bG O (iO 10 O kT (fun W hW => jT aV O ((Kp.h hW)).get.2 O) (iL 11 O kT (fun _ => fV ((JK.f4).aN) aV O) (iL 12 O kT (fun _ => ZY O O) (iL 13 O kT (fun _ => fP O O (by omega)) (iL 14 O kT (fun _ => fU O) (qj (aZ (mZ (fD results132 O ?_)))))))))))))))))))
 have PD := JK.f5.f5.f5.f5.f5
 have MK := V.qY oU zi xg rfl PD
 exact ⟨by rw [JW, JX]; congr 1; omega, MK⟩
theorem N9 (H : V w0 w (jW p G N op • F)) : iM prog 113 #[.pointer (some ⟨p, 0, none⟩)] w fun v w' => v = .int .i64 (iD G N : Nat) ∧ V w0 w' (jW p G N op • F) := by
 refine iQ func113 ntmps113 ?_
 refine kQ O (aO (bY O (fE O func140 (oI H) ?_)))
 rintro _ _ ⟨rfl, rfl⟩
 refine jd (vS (iy (aO ?_)))
 obtain ⟨EJ, Di, rG, qK, oU, zi, xg, JW, JX, PK, uw⟩ := (H).Ah
 refine aA (mJ O O (bn 0 bV O dQ O (bn 3 dh O aj O (fB aB O (uw).get.2 O (ig O (fD results113 O ?_))))))
 have PD := uw.f5.f5.f5.f5.f5
 have MK := V.qY oU zi xg rfl PD
 exact ⟨O, MK⟩
theorem BL (H : V w0 w (jW p G N op • F)) (hb : op < 4611686018427387904) : iM prog 107 #[.pointer (some ⟨p, 0, none⟩)] w fun v w' => v = .int .i64 0 ∧ V w0 w' (jW p G N (op + 1) • F) := by
 have hop : 0 ≤ op := by obtain ⟨gv, nv, gs, now, k1, _⟩ := H.Ah; exact k1.2.2.1
 refine iQ func107 ntmps107 ?_
 refine kQ O (aO (bY O (fE O func140 (oI H) ?_)))
 rintro _ _ ⟨rfl, rfl⟩
 refine jd (vS (iy (aO ?_)))
 obtain ⟨EJ, Di, rG, qK, oU, zi, xg, JW, JX, PK, uw⟩ := (H).Ah
 refine aA (mJ O O (bn 0 bV O dQ O (bn 2 dh O aj O (fB aB O (uw).get.2 O (aW (fP O O (by omega)) (dO O (bn 0 bV O dQ O (bn 2 dh O aj O (aI (st5 2 uw aj) ?_)))))))))
 rintro _ w3 H3
 refine jd (mP O (fD results107 O ?_))
 exact ⟨O, V.qY ⟨oU.1, oU.2.1, by omega, by omega, oU.2.2.2.2⟩ zi xg O H3.f5.f5.f5.f5.f5⟩
def yu (G : List (List kC)) (N : List kC) (a : Int) (dl il : List Int) : Int := if dl.length + il.length = 0 ∨ a < 0 then 1 else if 16384 ≤ iD G N then 3 else 0
def Wx (G : List (List kC)) (N : List kC) (op a : Int) (dl il : List Int) : List (List kC) := if yu G N a dl il = 0 then (if 0 < op then G else G ++ [[(a, dl, il)]]) else G
def Wy (G : List (List kC)) (N : List kC) (op a : Int) (dl il : List Int) : List kC := if yu G N a dl il = 0 then (if 0 < op then N ++ [(a, dl, il)] else N) else N
theorem RN {x : kC} : iD G (N ++ [x]) = iD G N + 1 := by simp [iD]; omega
theorem Ut {x : kC} : iD (G ++ [[x]]) N = iD G N + 1 := by simp [iD]; omega
theorem Oa (h : yu G N a dl il ≠ 0) : Wx G N op a dl il = G := by unfold Wx; rw [if_neg h]
theorem Ob (h : yu G N a dl il ≠ 0) : Wy G N op a dl il = N := by unfold Wy; rw [if_neg h]
theorem MQ (h : yu G N a dl il = 0) (ho : 0 < op) : Wx G N op a dl il = G := by unfold Wx; rw [if_pos h, if_pos ho]
theorem MR (h : yu G N a dl il = 0) (ho : 0 < op) : Wy G N op a dl il = N ++ [(a, dl, il)] := by unfold Wy; rw [if_pos h, if_pos ho]
theorem aaC (h : yu G N a dl il = 0) (ho : ¬ 0 < op) : Wx G N op a dl il = G ++ [[(a, dl, il)]] := by unfold Wx; rw [if_pos h, if_neg ho]
theorem aaD (h : yu G N a dl il = 0) (ho : ¬ 0 < op) : Wy G N op a dl il = N := by unfold Wy; rw [if_pos h, if_neg ho]
theorem Eh (H : V w0 w (jW p G N op • F)) (hd : jm w0 F .i32 d dl) (hi : jm w0 F .i32 z il) (b2 : dl.length ≤ 35184372087808) (b3 : il.length ≤ 35184372087808) :
  iM prog 108 #[.pointer (some ⟨p, 0, none⟩), edV a d z] w fun v w' => v = .int .i64 (yu G N a dl il) ∧ V w0 w' (jW p (Wx G N op a dl il) (Wy G N op a dl il) op • F) := by
 refine qI func108 ntmps108 ?_
 refine jw (iY (jo (l := [_, _, _]) H O O) ?_)
 rintro _ w1 ⟨b1, rfl, H1⟩
 refine sS O (bY O (fE O func140 (oI H1.f2) ?_))
 rintro _ _ ⟨rfl, rfl⟩
 refine jd (vS (iy (aO (jw (bn 1 aU O bF O (fB ay O (H1).get.2 O (aW (jJ (hd _ (H1.right.right)) ay O) (bn 2 aU O bF O (fB ay O (H1).get.2 O (aW (jJ (hi _ (H1.right.right)) ay O) (aW (fP O O (by omega)) (aW (kP O O) (mX O (fun h1 => ?_) (fun h1 => ?_))))))))))))))
 ·(try simp only [aF] at h1)
  refine dF (dF (dF (nZ O O (jd (GV (mP O (aC (fD results108 O ?_))))))))
  have e : yu G N a dl il = 1 := by unfold yu; rw [if_pos (by omega)]
  rw [Oa (by rw [e]; decide), Ob (by rw [e]; decide), e]
  exact ⟨O, H1.right⟩
 ·(try simp only [aF] at h1)
  refine bW (bn 0 aU O aj O (bW (fB aB O (H1).get.2 O (bW (aW (fG O O) (kX O O (jv O (fun h2 => ?_) (fun h2 => ?_))))))))
  ·(try simp only [aF] at h2)
   refine mP O (aC (fD results108 O ?_))
   have e : yu G N a dl il = 1 := by unfold yu; rw [if_pos (by omega)]
   rw [Oa (by rw [e]; decide), Ob (by rw [e]; decide), e]
   exact ⟨O, H1.right⟩
  ·(try simp only [aF] at h2)
   refine iy (aO (aO ?_))
   obtain ⟨EJ, Di, rG, qK, oU, zi, xg, JW, JX, PK, uw⟩ := (H1.f2).Ah
   refine aA (mJ O O (bn 0 bV O dQ O (bn 3 dh O aj O (fB aB O (uw).get.2 O (aW (nM O O) (jv O (fun h3 => ?_) (fun h3 => ?_)))))))
   ·(try simp only [aF] at h3)
    refine mP O (aC (fD results108 O ?_))
    have e : yu G N a dl il = 3 := by unfold yu; rw [if_neg (by omega), if_pos (by omega)]
    have Ho5 := uw.f5.f5.f5.f5.f5
    have Hc6 := V.qY oU zi xg rfl Ho5
    rw [Oa (by rw [e]; decide), Ob (by rw [e]; decide), e]
    exact ⟨O, Hc6.f2.right⟩
   ·(try simp only [aF] at h3)
    refine iy (bY O (dO O (bn 0 bV O dQ O (bn 3 dh O aj O (fB aB O (uw).get.2 O (aW (fP O O (by omega)) (dO O (bn 0 bV O dQ O (bn 3 dh O aj O (aI (st5 3 uw aj) ?_))))))))))
    rintro _ w7 H7
    refine rV (bY O (dO O (bn 0 bV O dQ O (bn 2 dh O aj O (fB aB O (H7).get.2 O (aW (iT O O) (jv O (fun h4 => ?_) (fun h4 => ?_))))))))
    ·(try simp only [aF] at h4)
     have afz := H7.drew
     have KH := V.kp (afz.f6.f6.f6.f6.f6.f6)
     refine uU [5, 6] KH O (gQ 0 O KH O (gQ 1 O KH O (jQ 2 O KH O (fQ 3 O KH 0 bV O dQ O (fQ 4 O KH 1 dh O bG O (iO 5 O KH (fun W hW => jT aV O ((Kp.h hW)).get.2 O) (iO 6 O KH (fun W hW => dI aU O bJ O O ((Kp.h hW).f6).get.2) (lU 7 O (wY O func147 (Aj afz (fun W HW => hd _ (HW.right.right.right.right.right.right)) (fun W HW => hi _ (HW.right.right.right.right.right.right)) (by omega) (by omega))) ?_))))))))
     rintro _ w8 ⟨d8, s8, rfl, H8⟩
     have LK := V.kp (H8.f8.f8.f8.f8.f8.f8.f8.f8)
     refine dZ LK (fun W hW => (Kp.h hW).right.right.f6.f6.f6.f6.f6.f6) ?_
     refine lU 8 O (og H8 aV bJ cO O O O (by decide) (by decide)) ?_
     rintro l9 w9 H9
     have Gi := V.kp (H9.f9.f9.f9.f9.f9.f9.f9.f9.f9)
     refine dZ Gi (fun W hW => (Kp.h hW).right.f8.f8.f8.f8.f8.f8.f8.f8) ?_
     refine lU 9 O (eX H9.f7 aV yw O O O ((H9).aN) (aG (aY (by first | rfl | exact Rd.one ((H9.f2).aN)) (aY (by first | rfl | exact Rd.one ((H9.f3).aN)) bK))) (by omega) (by omega)) ?_
     rintro l10 w10 sF
     have ad4 := sF.f2.right
     have Oc := V.kp (ad4.f8.f8.f8.f8.f8.f8.f8.f8)
     refine fH Oc (by kernel_rfl) ?_
     refine jQ 10 O Oc O (fQ 11 O Oc 0 bV O dQ O (fQ 12 O Oc 1 dh O bG O ?_))
     refine gU 13 O (by kernel_rfl) (eY 1 (l' := [_, _, _, _, _]) ad4.f4 bG O O (by first | rfl | exact Rd.one ((ad4).aN)) O O) ?_
     rintro _ w12 tN
     have DF := V.kp (tN.f8.f8.f8.f8.f8.f8.f8.f8)
     refine fH DF (by kernel_rfl) ?_
     have hadd : 0 < op := by omega
     refine qj (aZ (mP O (fD results108 O ?_)))
     have e : yu G N a dl il = 0 := by unfold yu; rw [if_neg (by omega), if_neg (by omega)]
     rw [MQ e hadd, MR e hadd, e]
     have X := (tN.f8.right.f6.f6.f3.f7.f5.f7.f7).kK.swap.kK.swap
     have X2 := V.vX X.f3
     refine ⟨O, V.zS (gv := EJ) (nv := l10) (gs := rG) (now := qK ++ [⟨a, d8, dl, s8, il⟩]) (ed := (iD G N : Nat) + 1) ⟨oU.1, by rw [RN]; omega, oU.2.2.1, oU.2.2.2.1, oU.2.2.2.2.1, acK oU.2.2.2.2.2 ⟨b2, b3⟩⟩ zi (by rw [List.map_append, xg]; rfl) (by rw [RN]; rfl) (X2.of_eq (by unfold He; ac_rfl))⟩
    ·(try simp only [aF] at h4)
     have aaE := H7.drew
     have CJ := V.kp (aaE.f6.f6.f6.f6.f6.f6)
     refine uU [5, 6] CJ O (gQ 0 O CJ O (gQ 1 O CJ O (jQ 2 O CJ O (fQ 3 O CJ 0 bV O dQ O (fQ 4 O CJ 0 dh O iH O (iO 5 O CJ (fun W hW => jT bP O ((Kp.h hW)).get.2 O) (iO 6 O CJ (fun W hW => dI aU O bJ O O ((Kp.h hW).f6).get.2) (lU 7 O (wY O func147 (Aj aaE (fun W HW => hd _ (HW.right.right.right.right.right.right)) (fun W HW => hi _ (HW.right.right.right.right.right.right)) (by omega) (by omega))) ?_))))))))
     rintro _ Qz ⟨d13, s13, rfl, Ak⟩
     have Oe := V.kp (Ak.f8.f8.f8.f8.f8.f8.f8.f8)
     refine dZ Oe (fun W hW => (Kp.h hW).right.right.f6.f6.f6.f6.f6.f6) ?_
     refine lU 8 O (og Ak aV bJ cO O O O (by decide) (by decide)) ?_
     rintro l14 TL Dh
     have IW := V.kp (Dh.f9.f9.f9.f9.f9.f9.f9.f9.f9)
     refine dZ IW (fun W hW => (Kp.h hW).right.f8.f8.f8.f8.f8.f8.f8.f8) ?_
     refine lU 9 O (kU (vs := [_]) Dh bP bG pV O O O (by decide) (aY (by first | rfl | exact Rd.one ((Dh).aN)) bK)) ?_
     rintro l15 Ws CG
     have CO := V.kp (CG.f10.f10.f10.f10.f10.f10.f10.f10.f10.f10)
     refine dZ CO (fun W hW => (Kp.h hW).right.f9.f9.f9.f9.f9.f9.f9.f9.f9) ?_
     refine lU 10 O (eX CG.f6 bP KI O O O ((CG).aN) (aY (by first | rfl | exact Rd.one ((CG.f2).aN)) bK) (by omega) (by omega)) ?_
     rintro l16 w16 yj
     have RP := yj.f2.right
     have Gt := V.kp (RP.f9.f9.f9.f9.f9.f9.f9.f9.f9)
     refine fH Gt (by kernel_rfl) ?_
     refine jQ 11 O Gt O (fQ 12 O Gt 0 bV O dQ O (fQ 13 O Gt 0 dh O iH O ?_))
     refine gU 14 O (by kernel_rfl) (eY 0 (l' := [_, _, _, _, _]) RP.f5 iH O O (by first | rfl | exact Rd.one ((RP).aN)) O O) ?_
     rintro _ ZN EM
     have E8 := V.kp (EM.f9.f9.f9.f9.f9.f9.f9.f9.f9)
     refine fH E8 (by kernel_rfl) ?_
     have hadd : ¬ 0 < op := by omega
     refine qj (aZ (mP O (fD results108 O ?_)))
     have e : yu G N a dl il = 0 := by unfold yu; rw [if_neg (by omega), if_neg (by omega)]
     rw [aaC e hadd, aaD e hadd, e]
     have X := (EM.f9.right.f8.f8.f3.f8.f5.f6.f8.f8).kK.swap.kK.swap
     have X2 := V.vX (es := []) X.EY.f3.f3.f4
     have X4 := V.wO X2.uJ.swap
     refine ⟨O, V.zS (gv := l16) (nv := Di) (gs := rG ++ [(l14, [⟨a, d13, dl, s13, il⟩])]) (now := qK) (ed := (iD G N : Nat) + 1) ⟨XU oU.1 (List.cons_ne_nil _ _), by rw [Ut]; omega, oU.2.2.1, oU.2.2.2.1, Us oU.2.2.2.2.1 (by intro e he; rw [List.mem_singleton.1 he]; exact ⟨b2, b3⟩), oU.2.2.2.2.2⟩ (by rw [List.map_append, zi]; rfl) xg (by rw [Ut]; rfl) (X4.of_eq (by unfold MJ; ac_rfl))⟩
end
end Go.Proofs.YtgofgnlkpeghcaaGreatDoor
end
section
namespace Go.Proofs.YtgofgnlkpeghcaaGreatDoor
open Go.RowKit
def RQ (P : Program) (l : Nat) (vs : List Value) (w : World) (T : Value → World → Prop) : Prop :=
  ∃ f tmps c d, (Instr.yield l vs.toArray).run P w = .ok (.round l f tmps c d) w ∧ RoundIn Fence.wide 0 P l f tmps c d w fun e w' => ∃ v, e = .returned v ∧ T v w'
theorem RQ.mono {P : Program} {l : Nat} {vs : List Value} {w : World} {T T' : Value → World → Prop} (h : RQ P l vs w T) (k : ∀ v w', T v w' → T' v w') : RQ P l vs w T' :=
  let ⟨f, tmps, c, d, h1, h2⟩ := h; ⟨f, tmps, c, d, h1, RoundIn.mono h2 fun _ _ ⟨v, e, t⟩ => ⟨v, e, k _ _ t⟩⟩
theorem RQ.bool {P : Program} {l : Nat} {vs : List Value} {w : World} {A B : World → Prop} (h : RQ P l vs w fun v W' => (v = .bool true ∧ A W') ∨ (v = .bool false ∧ B W')) : RQ P l vs w fun v W' => ∃ t, v = .bool t ∧ (t = true → A W') ∧ (t = false → B W') :=
  h.mono fun v W' hv => by
    rcases hv with ⟨rfl, h⟩ | ⟨rfl, h⟩
    · exact ⟨true, rfl, fun _ => h, fun e => by cases e⟩
    · exact ⟨false, rfl, (fun e => by cases e), fun _ => h⟩
theorem MS {P : Program} {L : List (Nat × Value)} {w : World} {ty : TypeId} {x : Operand} {args : List Operand} {ts : Array TypeId} {l : Nat} {vs : List Value} {T : Value → World → Prop} (hx : ev L x = some (.func (.yield l) #[] #[])) (ha : JD L args = some vs) (h : RQ P l vs w T) :
    zB P L (.call ⟨.value x, args.toArray, ts⟩) ty w T := by
  obtain ⟨f, tmps, c, d, hy, hr⟩ := h
  refine acm (fun ρ hρ dd pos rF g => ?_) hr
  have hg := hρ _ _ hx
  simp [execOp, resolve, invoke, evs hρ _ _ ha, hg, Deferred.ofValue, hy]
def Iter (P : Program) (w0 : World) (fv : Value) (R : HP) (n : Nat) (E : Nat → List Value → HP → Prop) : Prop :=
  ∀ (l : Nat) (J : Nat → HP) (X : HP) (w : World),
    (∀ k, k < n → ∀ vs A, E k vs A → ∀ G W, V w0 W (A • J k • G) → RQ P l vs W fun v W' => (v = .bool true ∧ V w0 W' (J (k + 1) • G)) ∨ (v = .bool false ∧ V w0 W' (X • G))) →
    V w0 w (J 0 • R) → adi P fv [.func (.yield l) #[] #[]] w fun _ W' => V w0 W' (J n • R) ∨ V w0 W' (X • R)
def Uu (w0 : World) (I : HP) (Xr : HP) (Xe : Nat → HP) (G : HP) : Exit → Act → World → Prop
  | .normal, _, W => V w0 W (I • G)
  | .ret, _, W => V w0 W (Xr • G)
  | .exit id, _, W => V w0 W (Xe id • G)
  | _, _, _ => False
def XV (P : Program) (N : Sh) (w0 : World) (body : Code) (I : HP) (Xr : HP) (Xe : Nat → HP) (G : HP) (a : Act) (W : World) : Prop :=
  ∃ (L : List (Nat × Value)) (B : HP), Fits N L a ∧ V w0 W (B • G) ∧ ∀ G' W', V w0 W' (B • G') → WC P N body (Uu w0 I Xr Xe G') L W'
def aaF : Exit → Act → World → Prop := fun _ _ _ => False
theorem RS {P : Program} {N : Sh} {w0 w : World} {body : Code} {I Xr : HP} {Xe : Nat → HP} {G B : HP} {L : List (Nat × Value)} (H : V w0 w (B • G)) (h : ∀ G' W', V w0 W' (B • G') → WC P N body (Uu w0 I Xr Xe G') L W') :
    WQ N (Exit.then (XV P N w0 body I Xr Xe G) aaF) .normal L w := fun _ a ha => ⟨L, B, ha, H, h⟩
theorem Hl {N : Sh} {w0 w : World} {I Xr : HP} {Xe : Nat → HP} {G : HP} {L : List (Nat × Value)} (H : V w0 w (I • G)) : WQ N (Uu w0 I Xr Xe G) .normal L w := fun _ _ _ => H
theorem aaG {N : Sh} {w0 w : World} {I Xr : HP} {Xe : Nat → HP} {G : HP} {id : Nat} {L : List (Nat × Value)} (H : V w0 w (Xe id • G)) : WQ N (Uu w0 I Xr Xe G) (.exit id) L w := fun _ _ _ => H
theorem aaH {w0 : World} {I Xr : HP} {Xe : Nat → HP} {G : HP} : NP (Uu w0 I Xr Xe G) := fun _ _ _ h => h
def Uw : List Nat → List Value → List (Nat × Value) → List (Nat × Value)
  | [], _, L => L
  | _ :: _, [], L => L
  | p :: ps, v :: vs, L => Uw ps vs ((p, v) :: L)
theorem Ux {n l : Nat} : ∀ (ps : List Nat) (vs : List Value) (L : List (Nat × Value)) (tmps : Array Value), (∀ p ∈ ps, p < n) → Fits ⟨n, [], some l⟩ L { tmps := tmps, defers := [] } →
    Fits ⟨n, [], some l⟩ (Uw ps vs L) { tmps := (ps.zip vs).foldl (fun t (p : Nat × Value) => t.setIfInBounds p.1 p.2) tmps, defers := [] }
  | [], _, _, _, _, h => h
  | _ :: _, [], _, _, _, h => h
  | p :: ps, v :: vs, L, tmps, hp, h => Ux ps vs _ _ (fun q hq => hp q (by simp [hq])) (h.put (hp p (by simp)) v)
section
variable {P : Program} {N : Sh} {Q : Exit → Act → World → Prop} {L : List (Nat × Value)} {w0 w : World}
theorem Am {g : Operand} {ps : List Nat} {assign body : Code} {fv : Value} {R : HP} {n : Nat} {E : Nat → List Value → HP → Prop} (hg : ev L g = some fv) (hit : Iter P w0 fv R n E) (I : Nat → HP) (Xr : HP) (Xe : Nat → HP) (H : V w0 w (I 0 • R))
    (hps : ps.all (· < N.n) = true)
    (hbody : ∀ l k, k < n → ∀ vs A, E k vs A → ∀ G W, V w0 W (A • I k • G) → vs.length = ps.length ∧ WC P ⟨N.n, [], some l⟩ assign (Exit.then (XV P ⟨N.n, [], some l⟩ w0 body (I (k + 1)) Xr Xe G) aaF) (Uw ps vs L) W)
    (hdone : ∀ D W, V w0 W (eF D (.deferred (some [])) • I n • R) → WQ ⟨N.n, D :: N.ds, none⟩ Q .normal L W)
    (hret : ∀ D W, V w0 W (eF D (.deferred (some [])) • Xr • R) → WQ ⟨N.n, D :: N.ds, none⟩ Q .ret L W)
    (afA : ∀ id D W, V w0 W (eF D (.deferred (some [])) • Xe id • R) → WQ ⟨N.n, D :: N.ds, none⟩ Q (.exit id) L W)
    (hro : N.ro = none := by rfl) : WC P N (.rangeFunc g ps.toArray assign body) Q L w := fun np a ha => by
  rw [hro]
  refine wpIn_rangeFunc fun fn _ => ?_
  let yD : LoopState → Option Code → Loop := fun s j => { state := s, pending := j, fn, tmps := a.tmps, params := ps.toArray, assign, body, defers := w.heap.size }
  have agS := run_enterLoop_outer (P := P) (w := w) fn a.tmps ps.toArray assign body
  have H1 : V w0 ((w.alloc (.deferred (some []))).alloc (.loop (yD .ready none))) (eF (w.heap.size + 1) (.loop (yD .ready none)) • eF w.heap.size (.deferred (some [])) • I 0 • R) := by
    have := (H.alloc (.deferred (some []))).alloc (.loop (yD .ready none))
    rw [World.size_alloc] at this
    exact this
  let Lk : LoopState → Option Code → HP := fun s j => eF (w.heap.size + 1) (.loop (yD s j)) • eF w.heap.size (.deferred (some []))
  have ad5 : ∀ k, k < n → ∀ vs A, E k vs A → ∀ G W, V w0 W (A • (Lk .ready none • I k) • G) → RQ P (w.heap.size + 1) vs W fun v W' => (v = .bool true ∧ V w0 W' ((Lk .ready none • I (k + 1)) • G)) ∨
      (v = .bool false ∧ V w0 W' (yC (fun c : Code => Lk .done (some c) • (match c with | .ret => Xr | .exit id => Xe id | _ => fact False)) • G)) := by
    intro k hk vs A hE G W HW
    have e1 : (A • (Lk .ready none • I k) • G) = (eF (w.heap.size + 1) (.loop (yD .ready none)) • A • I k • eF w.heap.size (.deferred (some [])) • G) := by
      show (A • ((eF (w.heap.size + 1) (.loop (yD .ready none)) • eF w.heap.size (.deferred (some []))) • I k) • G) = _
      ac_rfl
    have HW1 := HW.of_eq e1
    have hl := HW1.get.2
    have hlen := (hbody (w.heap.size + 1) k hk vs A hE _ W (HW1.of_eq (show _ = (A • I k • eF (w.heap.size + 1) (.loop (yD .ready none)) • eF w.heap.size (.deferred (some [])) • G) by ac_rfl))).1
    refine ⟨fn, _, assign, body, run_yield hl (by rw [List.size_toArray, hlen]; exact List.size_toArray.symm), ?_⟩
    have hfit : Fits ⟨N.n, [], some (w.heap.size + 1)⟩ (Uw ps vs L) { tmps := (ps.toArray.zip vs.toArray).foldl (fun tmps (t, a) => tmps.setIfInBounds t a) a.tmps, defers := [] } := by
      have := Ux (n := N.n) (l := w.heap.size + 1) ps vs L a.tmps (fun p hp => by simpa using List.all_eq_true.1 hps p hp) ⟨ha.size, rfl, ha.at_⟩
      simpa using this
    refine roundIn_of_wpIn trivial ?_
    have HW2 : V w0 W (A • I k • eF (w.heap.size + 1) (.loop (yD .ready none)) • eF w.heap.size (.deferred (some [])) • G) := HW1.of_eq (by ac_rfl)
    have hb := (hbody (w.heap.size + 1) k hk vs A hE _ W HW2).2 (fun c a w h => h) _ hfit
    refine wpIn_mono hb ?_
    rintro e a1 W1 hq
    cases e with
    | exit id => exact hq.elim
    | goto l => exact hq.elim
    | ret => exact hq.elim
    | panic c => exact hq.elim
    | outgrown => exact hq.elim
    | normal =>
      obtain ⟨L1, B, hf1, HB, hgo⟩ := hq
      have HB1 : V w0 W1 (eF (w.heap.size + 1) (.loop (yD .ready none)) • B • eF w.heap.size (.deferred (some [])) • G) := HB.of_eq (by ac_rfl)
      have hl1 := HB1.get.2
      refine ⟨_, run_beginRound hl1 rfl, ?_⟩
      have HB2 : V w0 (W1.putObj (w.heap.size + 1) (.loop (yD .busy none))) (eF (w.heap.size + 1) (.loop (yD .busy none)) • B • eF w.heap.size (.deferred (some [])) • G) := HB1.turn rfl rfl rfl (by simp) (World.putObj_heap_same HB1.lt) fun k hk _ => World.putObj_heap_other hk
      have hbd := hgo (eF (w.heap.size + 1) (.loop (yD .busy none)) • eF w.heap.size (.deferred (some [])) • G) _ (HB2.of_eq (by ac_rfl)) aaH a1 hf1
      refine wpIn_mono hbd ?_
      have fin : ∀ (j : Option Code) (W3 : World) (A3 : HP), V w0 W3 (A3 • eF (w.heap.size + 1) (.loop (yD .busy none)) • eF w.heap.size (.deferred (some [])) • G) →
          (Instr.endRound (w.heap.size + 1) j).run P W3 = .ok (.bool j.isNone) (W3.putObj (w.heap.size + 1) (.loop (yD (if j.isNone then .ready else .done) j))) ∧
          V w0 (W3.putObj (w.heap.size + 1) (.loop (yD (if j.isNone then .ready else .done) j))) ((Lk (if j.isNone then .ready else .done) j • A3) • G) := by
        intro j W3 A3 H3
        have H4 := H3.swap
        refine ⟨run_endRound j H4.get.2, ?_⟩
        have H5 : V w0 (W3.putObj (w.heap.size + 1) (.loop (yD (if j.isNone then .ready else .done) j))) (eF (w.heap.size + 1) (.loop (yD (if j.isNone then .ready else .done) j)) • A3 • eF w.heap.size (.deferred (some [])) • G) := H4.turn rfl rfl rfl (by simp) (World.putObj_heap_same H4.lt) fun k hk _ => World.putObj_heap_other hk
        refine H5.of_eq ?_
        show _ = (((eF (w.heap.size + 1) (.loop (yD (if j.isNone then .ready else .done) j)) • eF w.heap.size (.deferred (some []))) • A3) • G)
        ac_rfl
      rintro e a3 W3 hp
      cases e with
      | normal => obtain ⟨h1, h2⟩ := fin none W3 _ hp; exact ⟨_, _, h1, _, rfl, .inl ⟨rfl, h2⟩⟩
      | ret => obtain ⟨h1, h2⟩ := fin (some .ret) W3 _ hp; exact ⟨_, _, h1, _, rfl, .inr ⟨rfl, V.jG .ret h2⟩⟩
      | exit id => obtain ⟨h1, h2⟩ := fin (some (.exit id)) W3 _ hp; exact ⟨_, _, h1, _, rfl, .inr ⟨rfl, V.jG (.exit id) h2⟩⟩
      | goto l => exact hp.elim
      | panic c => exact hp.elim
      | outgrown => exact hp.elim
  have hcall := hit (w.heap.size + 1) (fun k => Lk .ready none • I k) _ _ ad5 (H1.of_eq (by
    show _ = (((eF (w.heap.size + 1) (.loop (yD .ready none)) • eF w.heap.size (.deferred (some []))) • I 0) • R)
    ac_rfl))
  obtain ⟨f, first, cap, fn', c, rfl, hf, hn, hb, afB⟩ := hcall
  refine ⟨w.heap.size + 1, _, _, { target := .fn (.func f) cap.toArray, args := (first ++ [Value.func (.yield (w.heap.size + 1)) #[] #[]]).toArray }, (w.alloc (.deferred (some []))).alloc (.loop (yD .ready none)), f, _, (w.alloc (.deferred (some []))).alloc (.loop (yD .ready none)), agS, ?_, fun _ _ => trivial, ?_, (fun h => by cases h), ZW.2 (Calls.mono afB ?_)⟩
  · have he := ha.ev hg
    have he2 : a.eval (.const (.func (.yield (w.heap.size + 1)) #[] #[])) = .func (.yield (w.heap.size + 1)) #[] #[] := rfl
    simp [resolve, rangeCall, he, he2, Deferred.ofValue, yD]
  · simp [invoke, callFunc, hf, hb]
    simpa using hn
  · rintro e W2 ⟨v, rfl, hv⟩
    have fin : ∀ (s : LoopState) (j : Option Code) (A : HP), s ≠ .busy → V w0 W2 ((Lk s j • A) • R) → (Instr.endLoop (w.heap.size + 1)).run P W2 = .ok j (W2.putObj (w.heap.size + 1) (.loop (yD .exhausted j))) ∧
        V w0 (W2.putObj (w.heap.size + 1) (.loop (yD .exhausted j))) (eF w.heap.size (.deferred (some [])) • A • R) := by
      intro s j A hs H3
      have H4 : V w0 W2 (eF (w.heap.size + 1) (.loop (yD s j)) • eF w.heap.size (.deferred (some [])) • A • R) := H3.of_eq (by
        show (((eF (w.heap.size + 1) (.loop (yD s j)) • eF w.heap.size (.deferred (some []))) • A) • R) = _
        ac_rfl)
      refine ⟨run_endLoop H4.get.2 hs, ?_⟩
      have H5 : V w0 (W2.putObj (w.heap.size + 1) (.loop (yD .exhausted j))) (eF (w.heap.size + 1) (.loop (yD .exhausted j)) • eF w.heap.size (.deferred (some [])) • A • R) := H4.turn rfl rfl rfl (by simp) (World.putObj_heap_same H4.lt) fun k hk _ => World.putObj_heap_other hk
      exact H5.right
    have hfit : Fits ⟨N.n, w.heap.size :: N.ds, none⟩ L { a with defers := [{ target := .collected w.heap.size, args := #[] }] ++ a.defers } := ⟨ha.size, by simp [ha.defers, ZV], ha.at_⟩
    rcases hv with hv | hv
    · obtain ⟨h1, h2⟩ := fin _ _ _ (by decide) hv
      exact ⟨none, _, h1, hdone _ _ h2 np _ hfit⟩
    · obtain ⟨c, hv⟩ := hv.pO
      obtain ⟨h1, h2⟩ := fin _ _ _ (by decide) hv
      cases c with
      | ret => exact ⟨some .ret, _, h1, wpIn_ret (hret _ _ h2 np _ hfit)⟩
      | exit id => exact ⟨some (.exit id), _, h1, wpIn_exit (afA id _ _ h2 np _ hfit)⟩
      | _ => exact absurd h2.swap.fact.1 id
end
end Go.Proofs.YtgofgnlkpeghcaaGreatDoor
end
section
namespace Go.Proofs.YtgofgnlkpeghcaaGreatDoor
open Go.RowKit
open _root_.Go.Proofs.Tryz
def qU (G : List (List kC)) (N : List kC) : List (List kC) := if N = [] then G else G ++ [N]
theorem WA {G : List (List kC)} {N : List kC} (h : N = []) : qU G N = G := by unfold qU; rw [if_pos h]
theorem wS {G : List (List kC)} {N : List kC} (h : N ≠ []) : qU G N = G ++ [N] := by unfold qU; rw [if_neg h]
theorem Og {G : List (List kC)} {N : List kC} : iD (qU G N) [] = iD G N := by
  unfold qU; split
  · rename_i h; rw [h]
  · simp [iD]
section
variable {w0 w : World} {F : HP} {p : Nat} {G : List (List kC)} {N : List kC} {op : Int} {gv nv v : Value} {gs : List (Value × List fJ)} {now es : List fJ} {a : Int} {d z : Value} {dl il : List Int}
theorem Fa (H : V w0 w (jW p G N op • F)) : iM prog 145 #[.pointer (some ⟨p, 0, none⟩)] w fun _ w' => V w0 w' (jW p (qU G N) [] 0 • F) := by
 refine iQ func145 ntmps145 ?_
 refine aO (aO ?_)
 obtain ⟨EJ, Di, rG, qK, oU, zi, xg, JW, JX, PK, uw⟩ := (H).Ah
 refine aA (mJ O O (bn 0 bV O dQ O (bn 1 dh O bG O (fB aV O (uw).get.2 O (aW (fV ((uw.f4).aN) aV O) (aW (iT O O) (jv O (fun h1 => ?_) (fun h1 => ?_))))))))
 ·(try simp only [aF] at h1)
  have afC : 0 < qK.length := by omega
  have PL := uw.drew
  have kV := V.kp (PL.f5.f5.f5.f5.f5)
  refine uU [5, 10] kV O (gQ 0 O kV O (gQ 1 O kV O (jQ 2 O kV O (fQ 3 O kV 0 bV O dQ O (fQ 4 O kV 0 dh O iH O (iO 5 O kV (fun W hW => jT bP O ((Kp.h hW)).get.2 O) (gQ 6 O kV O (jQ 7 O kV O (fQ 8 O kV 0 bV O dQ O (fQ 9 O kV 1 dh O bG O (iO 10 O kV (fun W hW => jT aV O ((Kp.h hW)).get.2 O) (lU 11 O (kU (vs := [_]) PL bP bG pV O O O (by decide) (aY (by first | rfl | exact Rd.one ((PL.f4).aN)) bK)) ?_))))))))))))
  rintro l2 w2 H2
  have zT := V.kp (H2.f6.f6.f6.f6.f6.f6)
  refine dZ zT (fun W hW => (Kp.h hW).right.f5.f5.f5.f5.f5) ?_
  refine lU 12 O (eX H2.f3 bP KI O O O ((H2).aN) (aY (by first | rfl | exact Rd.one ((H2.f5).aN)) bK) (by omega) (by omega)) ?_
  rintro l3 w3 H3
  have Hd4 := H3.f2.right
  have uZ := V.kp (Hd4.f5.f5.f5.f5.f5)
  refine fH uZ (by kernel_rfl) ?_
  refine jQ 13 O uZ O (fQ 14 O uZ 0 bV O dQ O (fQ 15 O uZ 0 dh O iH O ?_))
  refine gU 16 O (by kernel_rfl) (eY 0 (l' := [_, _, _, _, _]) Hd4.f2 iH O O (by first | rfl | exact Rd.one ((Hd4).aN)) O O) ?_
  rintro _ w5 H5
  have vw := V.kp (H5.f5.f5.f5.f5.f5)
  refine fH vw (by kernel_rfl) ?_
  refine qj (aZ (aA (jy O O (dO O (bn 0 bV O dQ O (bn 1 dh O bG O (aI (st5 1 H5 bG) ?_)))))))
  rintro _ w6 H6
  refine dO O (bn 0 bV O dQ O (bn 2 dh O aj O (aI (st5 2 H6 aj) ?_)))
  rintro _ w7 H7
  refine bZ (kY (.inr O) results145 ?_)
  have hN : N ≠ [] := by rintro rfl; exact absurd JX (by simp only [List.length_nil]; omega)
  rw [wS hN]
  have X := V.uJ (v := Di) (es := qK) (H7.f3.f3.f5.f5).deep
  have X4 := V.wO X.swap
  refine V.zS (gv := l3) (nv := .slice none 0 0) (gs := rG ++ [(Di, qK)]) (now := []) (ed := (iD G N : Nat)) ⟨XU oU.1 hN, by rw [← wS hN, Og]; exact oU.2.1, by decide, by decide, Us oU.2.2.2.2.1 oU.2.2.2.2.2, by simp⟩ (by rw [List.map_append, zi, ← xg]; rfl) O (by rw [← wS hN, Og]) ((X4.wF none).of_eq (by ac_rfl))
 ·(try simp only [aF] at h1)
  have afC : qK.length = 0 := by omega
  refine iy (aA (jy O O (dO O (bn 0 bV O dQ O (bn 1 dh O bG O (aI (st5 1 uw bG) ?_))))))
  rintro _ w8 H8
  refine dO O (bn 0 bV O dQ O (bn 2 dh O aj O (aI (st5 2 H8 aj) ?_)))
  rintro _ w9 H9
  refine bZ (kY (.inr O) results145 ?_)
  have hN : N = [] := by rw [← xg, List.eq_nil_of_length_eq_zero afC]; rfl
  subst hN
  rw [WA rfl]
  refine V.zS (gv := EJ) (nv := .slice none 0 0) (gs := rG) (now := []) (ed := (iD G [] : Nat)) ⟨oU.1, oU.2.1, by decide, by decide, oU.2.2.2.2⟩ zi O O (((H9.f4.right.f4.right.f3.f3).wF none).of_eq (by unfold He; ac_rfl))
theorem V.RU (H : V w0 w (Gs v es • F)) : V w0 w (Gs v es • Gs v es • F) := H.uD
theorem Y2 (b : Nat) : Iter prog w0 (.func (.func 163) #[] #[.pointer (some ⟨b, 0, none⟩)]) (eF b (.cells #[v] 96 (0, 0)) • Gs v es) es.length
  (fun k vs A => vs = [.int .i64 ((es.length - (k + 1) : Nat) : Int), .agg (es.getD (es.length - (k + 1)) default).enc.toArray] ∧ A = Gs v es) := by
 intro l J X w hy H
 refine ⟨163, [], [.pointer (some ⟨b, 0, none⟩)], _, _, O, func163, O, O, ?_⟩
 have H1 : V w0 w (eF b (.cells #[v] 96 (0, 0)) • Gs v es • J 0) := H.of_eq (by ac_rfl)
 obtain ⟨a, c, hv, hc1, hc2, _⟩ := (H1.swap.y9).form
 subst hv
 simp only [List.nil_append, List.cons_append]
 refine YG func163 ntmps163 ?_
 dsimp only [Ad, Nat.reduceAdd]
 refine jw (fB aV O (H1).get.2 O (aW (fV ((H1.f2).y9) aV O) (aW (lW O O (by omega)) (iP O (bg ?_)))))
 refine gq [(0, _), (1, _)] (fun (k : Nat) => [(3, .int .i64 ((k : Int) - 1))]) (fun (k : Nat) W => k ≤ es.length ∧ V w0 W (eF b (.cells #[.slice a es.length c] 96 (0, 0)) • Gs (.slice a es.length c) es • J (es.length - k))) (fun (k : Nat) => k) (es.length) rP oO ⟨by omega, by rw [Nat.sub_self]; exact H1⟩ ?_
 rintro k w1 ⟨hk, HL⟩
 dsimp only [List.cons_append, List.nil_append]
 refine aO (bY O (aW (nM O O) (jv O (fun h1 => ?_) (fun h1 => ?_))))
 ·(try simp only [aF] at h1)
  refine iy (aO (bg (aO ?_)))
  obtain ⟨m, rfl⟩ : ∃ m, k = m + 1 := ⟨k - 1, by omega⟩
  rw [show (((m + 1 : Nat) : Int) - 1) = (m : Int) from by omega]
  refine aA (jy O O (fB aV O (HL).get.2 O (bT O ?_)))
  obtain ⟨bv, ov, cv, ev⟩ := Rd.nR ((HL.f2).y9) (by omega)
  cases ev
  refine aW (dD aV bJ O O (by omega)) (aW (qo (ys := [_, _, _]) ((HL.f2).y9) (by omega) aU O bJ O (o8 fJ.IE (by omega) default) O) (iY (MS O O (hy (es.length - (m + 1)) (by omega) _ _ ⟨by rw [show es.length - (es.length - (m + 1) + 1) = m from by omega]; rfl, O⟩ (Gs (.slice (some ⟨bv, ov, none⟩) es.length c) es • eF b (.cells #[.slice (some ⟨bv, ov, none⟩) es.length c] 96 (0, 0))) _ (HL.swap.RU.of_eq (by ac_rfl))).bool) ?_))
  rintro _ w2 ⟨t, rfl, ht1, ht2⟩
  refine aW (mG O) (jv O (fun h2 => ?_) (fun h2 => ?_))
  ·(try simp only [aF] at h2)
   have HX := ht2 (by simpa using h2)
   refine mZ (aX (aC (aC (aX (we0 results163 ?_)))))
   exact .inr (HX.of_eq (by ac_rfl))
  ·(try simp only [aF] at h2)
   have HN : V w0 w2 (eF b (.cells #[.slice (some ⟨bv, ov, none⟩) es.length c] 96 (0, 0)) • Gs (.slice (some ⟨bv, ov, none⟩) es.length c) es • J (es.length - m)) := by
    have h9 := ht1 (by simpa using h2)
    rw [show es.length - (m + 1) + 1 = es.length - m from by omega] at h9
    exact h9.of_eq (by ac_rfl)
   refine dS (aP (aZ (aA (bT O (aW (lW O O (by omega)) (iC O (bZ ?_)))))))
   refine dN (m) ?_ ?_ ?_ ?_
   ·exact oO
   ·exact rP
   ·(try dsimp only)
    first | done | exact ⟨by omega, HN.f2.f2⟩
   ·(try dsimp only); omega
 ·(try simp only [aF] at h1)
  refine eH (aT (aT (bU (kY (.inr O) results163 ?_))))
  obtain rfl : k = 0 := by omega
  rw [Nat.sub_zero] at HL
  exact .inl (HL.of_eq (by ac_rfl))
end
def LM (e : kC) : kC := (e.1, e.2.2, e.2.1)
def aaI (c : Nat) (es : List fJ) (k : Nat) : HP := yC fun (x : Value × List fJ) => fact (x.2.map fJ.says = ((es.map fJ.says).reverse.take k).map LM) • eF c (.cells #[x.1] 96 (0, 0)) • MJ x.1 x.2
theorem aaJ {es : List fJ} {k : Nat} (hk : k < es.length) : ((es.map fJ.says).reverse.take (k + 1)).map LM = ((es.map fJ.says).reverse.take k).map LM ++ [LM (es.getD (es.length - (k + 1)) default).says] := by
  rw [List.take_succ_eq_append_getElem (by simpa using hk), List.map_append]
  congr 1
  simp only [List.map_cons, List.map_nil, List.getElem_reverse, List.getElem_map, List.length_map]
  rw [List.getD_eq_getElem?_getD, List.getElem?_eq_getElem (by omega)]
  have e : es.length - 1 - k = es.length - (k + 1) := by omega
  simp only [Option.getD_some, e]
section
variable {w0 w : World} {F : HP} {p : Nat} {G : List (List kC)} {N : List kC} {op : Int} {gv nv v : Value} {gs : List (Value × List fJ)} {now es : List fJ} {a : Int} {d z : Value} {dl il : List Int}
theorem V.Uy {c k : Nat} (H : V w0 w (aaI c es k • F)) : ∃ u fs, fs.map fJ.says = ((es.map fJ.says).reverse.take k).map LM ∧ fs.length ≤ es.length ∧ V w0 w (eF c (.cells #[u] 96 (0, 0)) • Row 183 3 u fs.length (fs.flatMap fJ.enc) • nX fs • F) := by
  obtain ⟨⟨u, fs⟩, H⟩ := H.pO
  obtain ⟨h, H⟩ := H.flat.fact
  refine ⟨u, fs, h, ?_, ?_⟩
  · have := congrArg List.length h
    simp at this
    omega
  · have := H.flat
    unfold MJ at this
    exact this.of_eq (by ac_rfl)
theorem V.aaK {c k : Nat} {u : Value} {fs : List fJ} (h : fs.map fJ.says = ((es.map fJ.says).reverse.take k).map LM) (H : V w0 w (eF c (.cells #[u] 96 (0, 0)) • MJ u fs • F)) : V w0 w (aaI c es k • F) :=
  V.jG (u, fs) (V.deep (V.oG h H.deep))
theorem V.ad6 (H : V w0 w (Gs v es • F)) {k : Nat} (hk : k < es.length) : V w0 w (nS .i32 (es.getD k default).d (es.getD k default).dl • nS .i32 (es.getD k default).i (es.getD k default).il • Gs v es • F) := by
  have h1 : V w0 w (nS .i32 (es.getD k default).d (es.getD k default).dl • Gs v es • Gs v es • F) := H.RU.RU.F9 (qJ (fun I h => (h.2 k hk).1) _)
  have h2 : V w0 w (nS .i32 (es.getD k default).i (es.getD k default).il • nS .i32 (es.getD k default).d (es.getD k default).dl • Gs v es • F) := h1.swap.F9 (qJ (fun I h => (h.2 k hk).2) _)
  exact h2.swap
theorem Y3 (H : V w0 w F) (hv : v.oneCell' = true) : iM prog 158 #[v] w fun v' w' => ∃ b, v' = .func (.func 163) #[] #[.pointer (some ⟨b, 0, none⟩)] ∧ V w0 w' (eF b (.cells #[v] 96 (0, 0)) • F) := by
  refine iQ func158 ntmps158 ?_
  refine jw (iY (jo (l := [_]) H O (by first | rfl | exact FQ (by first | rfl | assumption))) ?_)
  rintro _ w1 ⟨b1, rfl, H1⟩
  refine iP O (jw (aW (BD O O) (ig O (fD results158 O ?_))))
  exact ⟨_, O, H1⟩
theorem IX (H : V w0 w (Gs v es • F)) (hB : ∀ k, k < es.length → EB (es.getD k default).says) (hL : es.length ≤ 16384) :
  iM prog 146 #[v] w fun v' w' => ∃ fs : List fJ, fs.map fJ.says = (es.map fJ.says).reverse.map LM ∧ V w0 w' (Row 183 3 v' fs.length (fs.flatMap fJ.enc) • nX fs • Gs v es • F) := by
 refine iQ func146 ntmps146 ?_
 refine kQ O (jw (iY (fK (l := [_]) H pV O) ?_))
 rintro _ w1 ⟨b1, rfl, H1⟩
 refine rV (bY O (fE O func158 (Y3 H1 (Rd.one ((H1.f2).y9))) ?_))
 rintro _ w2 ⟨bB2, rfl, H2⟩
 refine jd (bg ?_)
 have PN := H2.f2
 have LP := V.aaK (es := es) (k := 0) (fs := []) rfl (PN.wF none).swap
 refine Am O (Y2 bB2) (fun k => aaI b1 es k • F) (fact False) (fun _ => fact False) (LP.f3.f3.f3.f3.f3.g2.comm) (by rfl) ?_ ?_ ?_ ?_
 ·rintro l5 k acL vs5 A5 ⟨rfl, rfl⟩ G5 w5 H5
  try simp only [dK, qL, xK] at H5
  refine ⟨O, ?_⟩
  dsimp only [Uw]
  have Hq := (H5).ad6 (k := es.length - (k + 1)) (by omega)
  obtain ⟨hb1, hb2⟩ := hB (es.length - (k + 1)) (by omega)
  have hb1 : (es.getD (es.length - (k + 1)) default).dl.length ≤ 35184372087808 := hb1
  have hb2 : (es.getD (es.length - (k + 1)) default).il.length ≤ 35184372087808 := hb2
  obtain ⟨u, fs, hfs, hfl, HI⟩ := (Hq.f4).Uy
  refine aA (iY (fK (l := [_, _, _]) HI cO O) ?_)
  rintro _ w6 ⟨b6, rfl, H6⟩
  refine aI (dG 0 (l' := [_, _, _]) (us := [_, _, _]) H6 bJ O O O (aG (aY (by first | rfl | exact Rd.one ((H6.f5).jh)) (aY (by first | rfl | exact Rd.one ((H6.f6).jh)) bK))) O O) ?_
  rintro _ w7 H7
  refine bZ ?_
  refine RS (H7.g8) ?_
  intro G8 w8 H8
  try simp only [dK] at H8
  refine bg ?_
  have afD := H8.drew
  have aaL := V.kp (afD.f7.f7.f7.f7.f7.f7.f7)
  refine uU [0, 1] aaL O (iO 0 O aaL (fun W hW => jT aV O ((Kp.h hW).f2).get.2 O) (iO 1 O aaL (fun W hW => dI aU O bJ O O ((Kp.h hW)).get.2) (lU 2 O (wY O func159 (JJ afD (fun W HW => (HW.f5).jh) (fun W HW => (HW.f6).jh) (by omega) (by omega))) ?_)))
  rintro _ w9 ⟨d9, s9, rfl, H9⟩
  have Gi := V.kp (H9.f9.f9.f9.f9.f9.f9.f9.f9.f9)
  refine dZ Gi (fun W hW => (Kp.h hW).right.right.f7.f7.f7.f7.f7.f7.f7) ?_
  refine lU 3 O (og H9 aV bJ cO O O O (by decide) (by decide)) ?_
  rintro l10 w10 sF
  have Oh := V.kp (sF.f10.f10.f10.f10.f10.f10.f10.f10.f10.f10)
  refine dZ Oh (fun W hW => (Kp.h hW).right.f9.f9.f9.f9.f9.f9.f9.f9.f9) ?_
  refine lU 4 O (eX sF.f6 aV yw O O O ((sF).aN) (aG (aY (by first | rfl | exact Rd.one ((sF.f2).aN)) (aY (by first | rfl | exact Rd.one ((sF.f3).aN)) bK))) (by omega) (by omega)) ?_
  rintro l11 Iq sG
  have PO := sG.f2.right
  have DF := V.kp (PO.f9.f9.f9.f9.f9.f9.f9.f9.f9)
  refine fH DF (by kernel_rfl) ?_
  refine gU 5 O (by kernel_rfl) (eY 0 (l' := [_]) PO.f5 bG O O (by first | rfl | exact Rd.one ((PO).aN)) O O) ?_
  rintro _ Qz Ak
  have Oe := V.kp (Ak.f9.f9.f9.f9.f9.f9.f9.f9.f9)
  refine fH Oe (by kernel_rfl) ?_
  refine qj (aP ?_)
  refine Hl ?_
  have X := (Ak.f5.right.f6.right.f6.right.f6.right.f6.f2.f6.f4.f6.f6).kK.swap.kK.swap
  have X2 := V.vX X.f3
  exact (V.aaK (es := es) (k := k + 1) (by rw [List.map_append, hfs, aaJ (by omega)]; rfl) X2.swap).deep
 ·rintro D14 TL Dh
  have aaM := Dh.ed
  try simp only [dK, qL, xK] at aaM
  have ad7 := aaM.TS
  obtain ⟨u, fs, hfs, hfl, HI⟩ := (ad7.f4).Uy
  refine aP (aZ (jw (fB aV O (HI).get.2 O (ig O ?_))))
  refine Iu (.inl O) (HI.f4) (fun Ws CG => ?_)
  refine ⟨_, aci results146 O, ?_⟩
  rw [List.take_of_length_le (by simp)] at hfs
  exact ⟨_, hfs, CG.right.f3.right.f3.f3.f3⟩
 ·rintro D w H; exact absurd H.swap.fact.1 id
 ·rintro id D w H; exact absurd H.swap.fact.1 fun h => h
end
def aaN (G : List (List kC)) (N : List kC) : Int := if G.length + N.length = 0 then 6 else 0
def XW (G : List (List kC)) (N : List kC) : List (List kC) := if G.length + N.length = 0 then G else (qU G N).dropLast
def XY (G : List (List kC)) (N : List kC) : List kC := if G.length + N.length = 0 then N else []
def XZ (G : List (List kC)) (N : List kC) (op : Int) : Int := if G.length + N.length = 0 then op else 0
def ado (G : List (List kC)) (N : List kC) : List kC := if G.length + N.length = 0 then [] else ((qU G N).getLastD []).reverse.map LM
theorem QC {G : List (List kC)} {g N : List kC} : iD (G ++ [g]) N = iD G N + g.length := by simp [iD]; omega
section
variable {w0 w : World} {F : HP} {p : Nat} {G : List (List kC)} {N : List kC} {op : Int} {gv nv v : Value} {gs : List (Value × List fJ)} {now es : List fJ} {a : Int} {d z : Value} {dl il : List Int}
theorem WB (h : ¬ G.length + N.length = 0) : qU G N ≠ [] := by
  unfold qU; split
  · rename_i hN; rintro rfl; subst hN; exact h rfl
  · simp
theorem V.WE (H : V w0 w (jW p G [] op • F)) (hG : G ≠ []) : ∃ gv nv hs gl Ac, G = hs.map (fun g => g.2.map fJ.says) ++ [Ac.map fJ.says] ∧ UOk G [] op ∧ G.length = hs.length + 1 ∧ hs.length ≤ 16384 ∧ Ac.length ≤ 16384 ∧ (∀ k, k < Ac.length → EB (Ac.getD k default).says) ∧
    V w0 w (eF p (.cells #[gv, nv, .int .i64 op, .int .i64 (iD G [] : Nat), .bool true] 214 (0, 0)) • Row 96 1 gv (hs.length + 1) (hs.map (·.1) ++ [gl]) • rQ hs • Gs gl Ac • MJ nv [] • F) := by
  obtain ⟨gv, nv, gs, now, h1, h2, h3, h4, h5, h6, H⟩ := H.Ah
  obtain rfl : now = [] := List.eq_nil_of_length_eq_zero (by simpa using h5)
  rcases List.eq_nil_or_concat gs with rfl | ⟨hs, ⟨gl, Ac⟩, rfl⟩
  · exact absurd h2.symm hG
  · have hG2 : G = hs.map (fun g => g.2.map fJ.says) ++ [Ac.map fJ.says] := by rw [← h2]; simp
    have hle : Ac.length ≤ 16384 := by
      have := h1.2.1
      rw [hG2, QC] at this
      simp at this
      omega
    refine ⟨gv, nv, hs, gl, Ac, hG2, h1, ?_, ?_, hle, fun k hk => ?_, ?_⟩
    · rw [hG2]; simp
    · rw [hG2] at h6; simp at h6; omega
    · refine h1.2.2.2.2.1 (Ac.map fJ.says) (by rw [hG2]; simp) _ ?_
      rw [List.getD_eq_getElem?_getD, List.getElem?_eq_getElem hk]
      exact List.mem_map_of_mem (List.getElem_mem hk)
    · rw [List.concat_eq_append, List.length_append, List.map_append] at H
      have H1 := (H.f3.Uh (k := hs.length) (by simp)).swap
      rw [show (hs ++ [(gl, Ac)]).getD hs.length default = (gl, Ac) from by simp [List.getD_eq_getElem?_getD]] at H1
      have H2 := H1.Ui hs.length
      rw [List.take_left' rfl] at H2
      exact H2.of_eq (by unfold MJ; ac_rfl)
theorem Gu (H : V w0 w (jW p G N op • F)) : iM prog 106 #[.pointer (some ⟨p, 0, none⟩)] w fun v w' => ∃ u, ∃ fs : List fJ, v = .tuple #[u, .int .i64 (aaN G N)] ∧ fs.map fJ.says = ado G N ∧
  V w0 w' (Row 183 3 u fs.length (fs.flatMap fJ.enc) • nX fs • jW p (XW G N) (XY G N) (XZ G N op) • F) := by
 unfold aaN ado XW XY XZ
 refine iQ func106 ntmps106 ?_
 refine jw (iC O (sS O (bY O (fE O func140 (oI H) ?_))))
 rintro _ _ ⟨rfl, rfl⟩
 refine jd (vS (iy (aO (aO ?_))))
 obtain ⟨EJ, Di, rG, qK, oU, zi, xg, JW, JX, PK, uw⟩ := (H).Ah
 have JK := uw.drew
 have kT := V.kp (JK.f5.f5.f5.f5.f5)
 refine uU [4, 10] kT O (gQ 0 O kT O (jQ 1 O kT O (fQ 2 O kT 0 bV O dQ O (fQ 3 O kT 0 dh O iH O (iO 4 O kT (fun W hW => jT bP O ((Kp.h hW)).get.2 O) (iL 5 O kT (fun _ => fV ((JK.f2).aN) bP O) (gQ 6 O kT O (jQ 7 O kT O (fQ 8 O kT 0 bV O dQ O (fQ 9 O kT 1 dh O bG O (iO 10 O kT (fun W hW => jT aV O ((Kp.h hW)).get.2 O) (iL 11 O kT (fun _ => fV ((JK.f4).aN) aV O) (iL 12 O kT (fun _ => fP O O (by omega)) (iL 13 O kT (fun _ => kP O O) (qj (aZ (dA O (fun h1 => ?_) (fun h1 => ?_))))))))))))))))))
 ·(try simp only [aF] at h1)
  have hGN : G.length + N.length = 0 := by omega
  have PD := JK.f5.f5.f5.f5.f5
  have MK := V.qY oU zi xg rfl PD
  refine jw (iC O (ig O (aC (Dw results106 O O ?_))))
  simp only [if_pos hGN]
  exact ⟨_, [], O, O, ((MK).wF none).edL⟩
 ·(try simp only [aF] at h1)
  have hGN : ¬ G.length + N.length = 0 := by omega
  have RY := JK.f5.f5.f5.f5.f5
  have PS := V.qY oU zi xg rfl RY
  refine iy (bY O (fE O func145 (Fa PS) ?_))
  rintro _ w9 H9
  refine rV ?_
  obtain ⟨gv, nv, hs, gl, Ac, hG, hok, hl1, hl2, hl3, hEB, HU⟩ := (H9).WE (WB hGN)
  have htot := hok.2.1
  refine aA (mJ O O (bn 0 bV O dQ O (bn 0 dh O iH O (fB bP O (HU).get.2 O (aW (fV ((HU.f2).aN) bP O) (aW (lW O O (by omega)) (iP O (bY O (dO O (bn 0 bV O dQ O (bn 0 dh O iH O (fB bP O (HU).get.2 O (bT O ?_)))))))))))))
  obtain ⟨bgv, ogv, cgv, egv⟩ := Rd.nR ((HU.f2).aN) (by omega)
  cases egv
  refine aW (dD bP bG O O (by omega)) ?_
  refine aW (eG (dn aV O) O (by first | exact Rd.sO ((HU.f2).aN) (by omega) | exact Rd.EF ((HU.f2).aN) (by omega) | exact Rd.Ey ((HU.f2).aN) (by omega))) ?_
  rw [show (hs.map (·.1) ++ [gl]).getD ((((hs.length + 1 : Nat)) : Int) - 1).toNat undef = gl from by rw [show ((((hs.length + 1 : Nat)) : Int) - 1).toNat = hs.length from by omega]; simp [List.getD_eq_getElem?_getD]]
  refine iP O (bY O (mJ O O (bn 0 bV O dQ O (bn 0 dh O iH O (fB bP O (HU).get.2 O (bT O (aW (vU ((HU.f2).aN) bP bG O O O (by omega)) ?_)))))))
  refine dO O (bn 0 bV O dQ O (bn 0 dh O iH O (aI (eY 0 (l' := [_, _, _, _, _]) HU iH O O (by first | rfl | exact Rd.one (Rd.afk ((HU.f2).aN) (by omega))) O O) ?_)))
  rintro _ w10 sF
  refine ql O (dO O (bn 0 bV O dQ O (bn 3 dh O aj O (fB aB O (sF).get.2 O (bT O (aW (fV ((sF.f4).y9) aV O) (aW (lW O O (by omega)) (dO O (bn 0 bV O dQ O (bn 3 dh O aj O (aI (st5 3 sF aj) ?_)))))))))))
  rintro _ Iq sG
  refine ql O (fE O func146 (IX sG.f4 hEB hl3) ?_)
  rintro u12 w12 ⟨aaO, adp, tN⟩
  refine iC O (ig O (Dw results106 O O ?_))
  simp only [if_neg hGN]
  have hdl : (qU G N).dropLast = hs.map (fun g => g.2.map fJ.says) := by rw [hG]; simp
  have hlast : (qU G N).getLastD [] = Ac.map fJ.says := by rw [hG]; simp
  have hX := (tN.f3.right.f6.f6.f5.f5.f5.f6).Z7 (h := hs.length) (by omega)
  rw [hdl, hlast]
  rw [Nat.mul_one, List.take_left' (by simp), show (((hs.length + 1 : Nat) : Int) - 1).toNat = hs.length from by omega, show Int.toNat 0 = 0 from rfl] at hX
  have hT : iD (qU G N) [] = iD (hs.map (fun g => g.2.map fJ.says)) [] + Ac.length := by rw [hG, QC, List.length_map]
  have hok2 : UOk (hs.map (fun g => g.2.map fJ.says)) [] 0 := ⟨fun g hg => hok.1 g (by rw [hG]; exact List.mem_append_left _ hg), by omega, by decide, by decide, fun g hg => hok.2.2.2.2.1 g (by rw [hG]; exact List.mem_append_left _ hg), by simp⟩
  refine ⟨_, _, O, (by assumption), ?_⟩
  have hU := V.zS (gv := uo 1 0 hs.length (.slice (some ⟨bgv, ogv, none⟩) (hs.length + 1) cgv)) (nv := nv) (gs := hs) (now := []) (ed := (iD (qU G N) [] : Nat) - (Ac.length : Int)) (F := Row 183 3 u12 aaO.length (aaO.flatMap fJ.enc) • nX aaO • F) hok2 rfl rfl (by omega) (hX.of_eq (by unfold He; ac_rfl))
  exact hU.of_eq (by ac_rfl)
end
end Go.Proofs.YtgofgnlkpeghcaaGreatDoor
end
