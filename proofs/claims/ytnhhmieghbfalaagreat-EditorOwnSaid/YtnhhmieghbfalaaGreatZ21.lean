import Derived.Test.YtnhhmieghbfalaaGreatZ4
import Derived.Test.YtnhhmieghbfalaaGreatZ20
import Derived.Test.YtnhhmieghbfalaaGreatZ19
import Derived.Test.YtnhhmieghbfalaaGreatZ17
import Derived.Test.YtnhhmieghbfalaaGreatZ2
import Derived.Test.YtnhhmieghbfalaaGreatZ15
import Derived.Test.YtnhhmieghbfalaaGreatRows
import Derived.Test.YtnhhmieghbfalaaGreatZ6
set_option linter.unusedSimpArgs false
set_option linter.unusedVariables false
/- EditorOwn: the row.
Texts of mine, joined, their names in short: EIs2 REdO FieldVal LawEOwn HasEOwn. -/
section
namespace Go.Proofs.YtnhhmieghbfalaaGreat
open Go.RowKit
open _root_.Go.Proofs.Tryz
theorem Ip (b : Int) : ¬ b = IntKind.i64.wrap (b + 1) := by rw [IntKind.wrap_i64]; omega
theorem Eb {w0 w : World} {F : HP} {t : TypeId} {ks : Value} {us : List Value} {s : bP} (H : V w0 w (Row t 1 ks s.c.E.length us • F)) : V w0 w (Row t 1 ks (fK s.c.E s.c.at_).length us • F) := by rw [yV]; exact H
section
variable {w0 w : World} {F : HP} {e y : Nat} {s : bP} {l : List o7} {v : Value}
theorem GR (H : V w0 w (iL e s • F)) : iQ prog 20 #[.pointer (some ⟨e, 0, none⟩)] w fun v w' => ∃ us, V w0 w' (Row 23 1 v (fK s.c.E s.c.at_).length us • sS 21 .i32 us (fK s.c.E s.c.at_) • iL e s • F) := by
  obtain ⟨pb, pr, pw, pt, pm, ph, bl, pv, es, u0, u1, u2, u3, u4, u5, u6, u7, u8, u9, ua, ok, says, ahS, H⟩ := H.JO
  refine (yL H.f3.f2).mono fun v w' h9 => ?_
  obtain ⟨us, H9⟩ := h9
  exact ⟨us, Eb (V.iH (F := Row 23 1 v s.c.E.length us • sS 21 .i32 us (fK s.c.E s.c.at_) • F) (e := e) (s := s) (pb := pb) (pr := pr) (pw := pw) (pt := pt) (pm := pm) (ph := ph) (bl := bl) (pv := pv) (es := es) (u0 := u0) (u1 := u1) (u2 := u2) (u3 := u3) (u4 := u4) (u5 := u5) (u6 := u6) (u7 := u7) (u8 := u8) (u9 := u9) (ua := ua) ok says (H9.of_eq (by ac_rfl))).f3.f3⟩
theorem NJ (H : V w0 w (iT y s • F)) : iQ prog 64 #[.pointer (some ⟨y, 0, none⟩)] w fun v w' => ∃ us, V w0 w' (Row 23 1 v (fK s.c.E s.c.at_).length us • pR .i32 us (fK s.c.E s.c.at_) • iT y s • F) := by
  obtain ⟨h, pb, pk, wv, nv, pv, gv, A, nw, es, yf, yt, ch, u0, u1, u2, u3, u4, u5, u6, u7, u8, u9, ua, ub, ok, pl, H⟩ := H.Bj
  refine (EL H.f3.f2 ok.rx.1.2).mono fun v w' h9 => ?_
  obtain ⟨us, H9⟩ := h9
  exact ⟨us, Eb (V.lu (F := Row 23 1 v s.c.E.length us • pR .i32 us (fK s.c.E s.c.at_) • F) (y := y) (s := s) (h := h) (pb := pb) (pk := pk) (wv := wv) (nv := nv) (pv := pv) (gv := gv) (A := A) (nw := nw) (es := es) (yf := yf) (yt := yt) (ch := ch) (u0 := u0) (u1 := u1) (u2 := u2) (u3 := u3) (u4 := u4) (u5 := u5) (u6 := u6) (u7 := u7) (u8 := u8) (u9 := u9) (ua := ua) (ub := ub) ok (H9.of_eq (by ac_rfl))).f3.f3⟩
def StE (s : bP) (u ks sv : Value) : HP := wF fun us => jg 21 .i32 u s.c.L • Row 23 1 ks (fK s.c.E s.c.at_).length us • sS 21 .i32 us (fK s.c.E s.c.at_) • Row 154 2 sv s.saved.length (s.saved.flatMap lT)
def StR (s : bP) (u ks sv : Value) : HP := wF fun us => jg 21 .i32 u s.c.L • Row 23 1 ks (fK s.c.E s.c.at_).length us • pR .i32 us (fK s.c.E s.c.at_) • Row 154 2 sv s.saved.length (s.saved.flatMap lT)
theorem V.ste {u ks sv : Value} (H : V w0 w (StE s u ks sv • F)) : ∃ us, V w0 w (jg 21 .i32 u s.c.L • Row 23 1 ks (fK s.c.E s.c.at_).length us • sS 21 .i32 us (fK s.c.E s.c.at_) • Row 154 2 sv s.saved.length (s.saved.flatMap lT) • F) := by
  obtain ⟨us, H⟩ := H.oN; exact ⟨us, H.of_eq (by simp only [dI])⟩
theorem V.Qq {u ks sv : Value} {us : List Value} (H : V w0 w (jg 21 .i32 u s.c.L • Row 23 1 ks (fK s.c.E s.c.at_).length us • sS 21 .i32 us (fK s.c.E s.c.at_) • Row 154 2 sv s.saved.length (s.saved.flatMap lT) • F)) : V w0 w (StE s u ks sv • F) := V.ji us (H.of_eq (by simp only [dI]))
theorem V.str {u ks sv : Value} (H : V w0 w (StR s u ks sv • F)) : ∃ us, V w0 w (jg 21 .i32 u s.c.L • Row 23 1 ks (fK s.c.E s.c.at_).length us • pR .i32 us (fK s.c.E s.c.at_) • Row 154 2 sv s.saved.length (s.saved.flatMap lT) • F) := by
  obtain ⟨us, H⟩ := H.oN; exact ⟨us, H.of_eq (by simp only [dI])⟩
theorem V.ZL {u ks sv : Value} {us : List Value} (H : V w0 w (jg 21 .i32 u s.c.L • Row 23 1 ks (fK s.c.E s.c.at_).length us • pR .i32 us (fK s.c.E s.c.at_) • Row 154 2 sv s.saved.length (s.saved.flatMap lT) • F)) : V w0 w (StR s u ks sv • F) := V.ji us (H.of_eq (by simp only [dI]))
theorem DW (H : V w0 w (iL e s • F)) : iQ prog 19 #[.pointer (some ⟨e, 0, none⟩)] w fun v w' => ∃ u ks sv, u.oneCell' = true ∧ ks.oneCell' = true ∧ sv.oneCell' = true ∧ v = .agg (BP s u ks sv).toArray ∧ V w0 w' (StE s u ks sv • iL e s • F) :=
  (BQ H).mono fun v w' h => by
    obtain ⟨u, ks, us, sv, h1, h2⟩ := h
    exact ⟨u, ks, sv, (h2.aG).one, (h2.f2.aG).one, (h2.f4.aG).one, h1, V.Qq (Eb h2.f2).f2⟩
theorem Qr (H : V w0 w (iT y s • F)) (hpi : s.inn = false → s.put = []) : iQ prog 57 #[.pointer (some ⟨y, 0, none⟩)] w fun v w' => ∃ u ks sv, u.oneCell' = true ∧ ks.oneCell' = true ∧ sv.oneCell' = true ∧ v = .agg (BP s u ks sv).toArray ∧ V w0 w' (StR s u ks sv • iT y s • F) :=
  (NH H hpi).mono fun v w' h => by
    obtain ⟨u, ks, us, sv, h1, h2⟩ := h
    exact ⟨u, ks, sv, (h2.aG).one, (h2.f2.aG).one, (h2.f4.aG).one, h1, V.ZL (Eb h2.f2).f2⟩
def acR (s : bP) (b : Int) (u ks sv : Value) : List Value := [u, .int .i64 s.c.pt, .int .i64 s.c.mark, .int .i64 s.c.mode, .bool s.c.over, .bool s.given, .bool s.minus, .int .i64 s.arg, .int .i64 s.xI, .int .i64 s.Uo, .int .i64 s.Ur, ks, .int .i64 s.c.place, sv, .int .i64 s.Dv, .int .i64 s.c.res, .int .i64 b]
theorem GU {u ks sv z qs tv : Value} {b : Int} (H : V w0 w (StE s u ks sv • StE s z qs tv • F)) : iQ prog 55 #[.agg (BP s u ks sv).toArray, .agg (acR s b z qs tv).toArray] w fun v' w' => v' = .bool (decide (s.nZ = b)) ∧ V w0 w' (StE s u ks sv • StE s z qs tv • F) := by
  obtain ⟨us, H1⟩ := H.ste
  obtain ⟨vs, H2⟩ := (H1.f5).ste
  refine (NI (x := aeg s) (b := b) (l := s.c.L) (ls := fK s.c.E s.c.at_) (S := s.saved) (us := us) (vs := vs) H2 (fun W HW => HW.f5.aG) (fun W HW => HW.aG) (fun W HW => HW.f6.aG) (fun W HW => HW.f2.aG) (fun k hk W HW => HW.f7.Gp hk) (fun k hk W HW => HW.f3.Gp hk) (fun W HW => HW.f8.aG) (fun W HW => HW.f4.aG)).mono fun v w' h => ⟨h.1, ?_⟩
  exact V.Qq ((V.Qq h.2).f5.f5.f5.f5)
theorem NK {u ks sv z qs tv : Value} (H : V w0 w (StE s u ks sv • StR s z qs tv • F)) : iQ prog 56 #[.agg (BP s u ks sv).toArray, .agg (BP s z qs tv).toArray] w fun v' w' => v' = .bool true ∧ V w0 w' (StE s u ks sv • StR s z qs tv • F) := by
  obtain ⟨us, H1⟩ := H.ste
  obtain ⟨vs, H2⟩ := (H1.f5).str
  refine (ML (x := aeg s) (l := s.c.L) (ls := fK s.c.E s.c.at_) (S := s.saved) (us := us) (vs := vs) H2 (fun W HW => HW.f5.aG) (fun W HW => HW.aG) (fun W HW => HW.f6.aG) (fun W HW => HW.f2.aG) (fun k hk W HW => HW.f7.Gp hk) (fun k hk W HW => HW.f3.zQ hk) (fun W HW => HW.f8.aG) (fun W HW => HW.f4.aG)).mono fun v w' h => ⟨h.1, ?_⟩
  exact V.Qq ((V.ZL h.2).f5.f5.f5.f5)
theorem OX (H : V w0 w (iL e s • iT y s • F)) (hpi : s.inn = false → s.put = []) : iQ prog 23 #[.pointer (some ⟨e, 0, none⟩), .pointer (some ⟨y, 0, none⟩)] w fun v w' => v = .bool true ∧ V w0 w' (iL e s • iT y s • F) := by
 refine qQ func23 ntmps23 ?_
 refine kW O (bY O (fO O func19 (DW H) ?_))
 rintro _ w1 ⟨u1, ks1, sv1, ou1, ok1, os1, rfl, H1⟩
 refine jW (gq (l := [_, _, _, _, _, _, _, _, _, _, _, _, _, _, _, _, _]) H1 iD O) ?_
 rintro _ w2 ⟨b2, rfl, H2⟩
 refine aC (dD 0 (l' := [_, _, _, _, _, _, _, _, _, _, _, _, _, _, _, _, _]) (us := [_, _, _, _, _, _, _, _, _, _, _, _, _, _, _, _, _]) H2 kL O O O (aH (aH (aH (aH (aH (aH (aH (aH (aH (aH (aH (aH (aH (aH (aH (aH (aH bG))))))))))))))))) O O) ?_
 rintro _ w3 H3
 refine pG O (fO O func19 (DW H3.f3) ?_)
 rintro _ w4 ⟨u4, ks4, sv4, ou4, ok4, os4, rfl, H4⟩
 refine jW (gq (l := [_, _, _, _, _, _, _, _, _, _, _, _, _, _, _, _, _]) H4 iD O) ?_
 rintro _ w5 ⟨b5, rfl, H5⟩
 refine aC (dD 0 (l' := [_, _, _, _, _, _, _, _, _, _, _, _, _, _, _, _, _]) (us := [_, _, _, _, _, _, _, _, _, _, _, _, _, _, _, _, _]) H5 kL O O O (aH (aH (aH (aH (aH (aH (aH (aH (aH (aH (aH (aH (aH (aH (aH (aH (aH bG))))))))))))))))) O O) ?_
 rintro _ w6 H6
 refine Xt (Z 16 aS O jU O (dL jV O (H6).get.2 O (aZ (XE O O) (Z 16 aS O jU O (aC (aag 16 H6 jU) ?_)))))
 rintro _ w7 H7
 refine qJ ?_
 have aei := H7.drew
 have ZM := V.kp (aei.f3.right.f5.right.f4.f4.f4.f4)
 refine wL [0, 5, 6, 11] ZM O (iY 0 O ZM (fun W hW => dF aS O kL O O ((Kp.h hW).f3).get.2) (gK 1 O ZM O (lU 2 O (xB O func19 (DW aei.f3)) ?_)))
 rintro _ w8 ⟨u8, ks8, sv8, ou8, ok8, os8, rfl, H8⟩
 have Jp := V.kp (H8.f7.right.f6.f6.f6.f6.f6.f6)
 refine dV Jp (fun W hW => (Kp.h hW).right.right.f4.f4.f4.f4) ?_
 refine lU 3 O (xB O func55 (GU H8.f6)) ?_
 rintro _ w9 ⟨rfl, H9⟩
 have Zk := H9.f2.right
 have CB := V.kp (Zk.f6.right.f5.f5.f5.f5.f5)
 refine fG CB (by kernel_rfl) ?_
 refine AP 4 O O (by kernel_rfl) (by kernel_rfl) CB (nD O) (fun h1 => ?_) (fun h => by exfalso; (try simp only [aK] at h); first | exact h O | simp at h)
 (try simp only [aK] at h1)
 refine xA 5 O O O (by kernel_rfl) (by kernel_rfl) CB (by decide) (fun W hW => dF aS O kL O O ((Kp.h hW).f5).get.2) (nD O) ?_
 refine xA 6 O O O (by kernel_rfl) (by kernel_rfl) CB (by decide) (fun W hW => dF aS O kL O O ((Kp.h hW).f3).get.2) (nD O) ?_
 refine nH 7 O O O (by kernel_rfl) (oJ (oQ O func55 O O) (GU Zk.f4.f2)) (nD O) ?_
 rintro _ Hr ⟨rfl, rX⟩
 have Jq := rX.f4.right
 have Zv := Jq.f2.right
 have zU := V.kp (Zv.f4.right.f3.f3.f3)
 refine fG zU (by kernel_rfl) ?_
 refine iM 8 O O O (by kernel_rfl) (by kernel_rfl) zU (fun _ => kY O) (nD O) ?_
 refine jR 9 O zU (fun _ => vT O O) ?_
 refine AP 10 O O (by kernel_rfl) (by kernel_rfl) zU (nD O) (fun h2 => ?_) (fun h => by exfalso; (try simp only [aK] at h); first | exact Ip _ h | exact h (Ip _) | exact absurd (Ip s.nZ) (by simpa using h))
 (try simp only [aK] at h2)
 refine xA 11 O O O (by kernel_rfl) (by kernel_rfl) zU (by decide) (fun W hW => dF aS O kL O O ((Kp.h hW).f3).get.2) (nD O) ?_
 refine iM 12 O O O (by kernel_rfl) (by kernel_rfl) zU (fun _ => vS O) (nD O) ?_
 refine nH 13 O O O (by kernel_rfl) (oJ (oQ O func57 O O) (Qr Zv.f4 (by assumption))) (nD O) ?_
 rintro _ Qu ⟨u14, ahT, ahU, ahV, ahW, ahX, rfl, AL⟩
 have FY := V.kp (AL.f5.f5.f5.f5.f5)
 refine dV FY (fun W hW => (Kp.h hW).right.right.f3.f3.f3) ?_
 refine nH 14 O O O (by kernel_rfl) (oJ (oQ O func56 O O) (NK AL.f3)) (nD O) ?_
 rintro _ TD ⟨rfl, Bz⟩
 have ab2 := Bz.f5.right
 have Ug := ab2.right
 have RI := Ug.right
 have y8 := V.kp (RI.f2.f2)
 refine fG y8 (by kernel_rfl) ?_
 refine jR 15 O y8 (fun _ => vT O O) (gK 16 O y8 O ?_)
 refine iM 17 O O O (by kernel_rfl) (by kernel_rfl) y8 (fun _ => vS O) (nD O) ?_
 refine iM 19 O O O (by kernel_rfl) (by kernel_rfl) y8 (fun _ => vS O) (nD O) ?_
 refine nH 18 O O O (by kernel_rfl) (oJ (oQ O func12 O O) (DC RI.f2)) (nD O) ?_
 rintro _ Xw ⟨u19, rfl, zN⟩
 have Lc := V.kp (zN.f3.f3.f3)
 refine fG Lc (by kernel_rfl) ?_
 refine nH 20 O O O (by kernel_rfl) (oJ (oQ O func14 O O) (GH zN.f3)) (nD O) ?_
 rintro _ XM ⟨u20, rfl, Ci⟩
 have Dx := V.kp (Ci.f4.f4.f4.f4)
 refine fG Dx (by kernel_rfl) ?_
 refine nH 21 O O O (by kernel_rfl) (oJ (oQ O func58 O O) (EK Ci (fun W HW => (HW.f3).aG) (fun W HW => (HW).aG))) (nD O) ?_
 rintro _ Xx ⟨rfl, tK⟩
 have Gs := V.kp (tK.f4.f4.f4.f4)
 refine fG Gs (by kernel_rfl) ?_
 have Ld := tK.f3.right
 have ZA := Ld.right
 refine jR 22 O Gs (fun _ => vT O O) (gK 23 O Gs O ?_)
 refine iM 24 O O O (by kernel_rfl) (by kernel_rfl) Gs (fun _ => vS O) (nD O) ?_
 refine iM 26 O O O (by kernel_rfl) (by kernel_rfl) Gs (fun _ => vS O) (nD O) ?_
 refine nH 25 O O O (by kernel_rfl) (oJ (oQ O func59 O O) (PX ZA.f2)) (nD O) ?_
 rintro _ w24 ⟨rfl, JD⟩
 have Dz := V.kp (JD.f2.f2)
 refine fG Dz (by kernel_rfl) ?_
 refine nH 27 O O O (by kernel_rfl) (oJ (oQ O func60 O O) (Nw JD.f2)) (nD O) ?_
 rintro _ w25 ⟨rfl, JE⟩
 have EF := V.kp (JE.f2.f2)
 refine fG EF (by kernel_rfl) ?_
 refine iM 28 O O O (by kernel_rfl) (by kernel_rfl) EF (fun _ => je O O) (nD O) ?_
 refine jR 29 O EF (fun _ => vT O O) ?_
 refine AP 30 O O (by kernel_rfl) (by kernel_rfl) EF (nD O) (fun h3 => ?_) (fun h => by exfalso; (try simp only [aK] at h); simp at h)
 (try simp only [aK] at h3)
 refine iM 31 O O O (by kernel_rfl) (by kernel_rfl) EF (fun _ => vS O) (nD O) ?_
 refine iM 33 O O O (by kernel_rfl) (by kernel_rfl) EF (fun _ => vS O) (nD O) ?_
 refine nH 32 O O O (by kernel_rfl) (oJ (oQ O func61 O O) (PY JE.f2)) (nD O) ?_
 rintro _ w26 ⟨rfl, EW⟩
 have Sl := V.kp (EW.f2.f2)
 refine dV Sl (fun W hW => (Kp.h hW).f2) ?_
 refine nH 34 O O O (by kernel_rfl) (oJ (oQ O func62 O O) (Nz EW.f2)) (nD O) ?_
 rintro _ w27 ⟨rfl, FP⟩
 have IX := V.kp (FP.f2.f2)
 refine dV IX (fun W hW => (Kp.h hW).f2) ?_
 refine iM 35 O O O (by kernel_rfl) (by kernel_rfl) IX (fun _ => BD bf O O) (nD O) ?_
 refine jR 36 O IX (fun _ => vT O O) ?_
 refine AP 37 O O (by kernel_rfl) (by kernel_rfl) IX (nD O) (fun h4 => ?_) (fun h => by exfalso; (try simp only [aK] at h); simp at h)
 (try simp only [aK] at h4)
 refine iM 38 O O O (by kernel_rfl) (by kernel_rfl) IX (fun _ => vS O) (nD O) ?_
 refine iM 40 O O O (by kernel_rfl) (by kernel_rfl) IX (fun _ => vS O) (nD O) ?_
 refine nH 39 O O O (by kernel_rfl) (oJ (oQ O func20 O O) (GR FP.f2)) (nD O) ?_
 rintro u28 w28 ⟨aej, MR⟩
 have IY := V.kp (MR.f4.f4.f4.f4)
 refine dV IY (fun W hW => (Kp.h hW).right.right.f2) ?_
 refine nH 41 O O O (by kernel_rfl) (oJ (oQ O func64 O O) (NJ MR.f4)) (nD O) ?_
 rintro u29 w29 ⟨ahY, Ji⟩
 have Sm := V.kp (Ji.f6.f6.f6.f6.f6.f6)
 refine dV Sm (fun W hW => (Kp.h hW).right.right.f4.f4.f4) ?_
 refine nH 42 O O O (by kernel_rfl) (oJ (oQ O func63 O O) (MN (ls := fK s.c.E s.c.at_) Ji (aeh _) (fun W HW => (HW.f4).aG) (fun W HW => (HW).aG) (fun k hk W HW => (HW.f5).Gp hk) (fun k hk W HW => (HW.f2).zQ hk))) (nD O) ?_
 rintro _ w30 ⟨rfl, JF⟩
 have Sr := V.kp (JF.f6.f6.f6.f6.f6.f6)
 refine dV Sr (fun W hW => (Kp.h hW).f6.f6.f6.f6.f6.f6) ?_
 refine jR 43 O Sr (fun _ => vT O O) (jR 44 O Sr (fun _ => iV O) (qN (bC (oP (gy results23 O ?_)))))
 exact ⟨by simp, JF.right.right.f2.right.f2.right.f2⟩
end
section
variable {w0 w : World} {F : HP} {y h : Nat} {s : bP} {hl : List o7} {base most : Int} {l : List Int} {v : Value}
end
section
variable {w0 w : World} {F : HP} {l : List o7} {v : Value}
theorem Xp (H : V w0 w F) (hv : CJ w0 F 2 v l.length (l.flatMap ny)) (hb : l.length ≤ 5864062014805) (hm : wJ l = 0) : iQ prog 4 #[v] w fun v' w' => ∃ e y, v' = .tuple #[.pointer (some ⟨e, 0, none⟩), .pointer (some ⟨y, 0, none⟩), .bool true] ∧ V w0 w' (iL e (bP.new (Y9 l) (SL l) 4096) • iT y (bP.new (Y9 l) (SL l) 4096) • F) := by
 refine jH func4 ntmps4 ?_
 refine lQ (oD O (oD O (jZ O (bY O (fO O func24 (LX H (by decide) (fun W HW => hv _ (HW)) hb hm) ?_)))))
 rintro _ w1 ⟨p1, rfl, H1⟩
 refine dn O (xZ O O (xZ O O (oD O (jZ O (bY O (fO O func25 (Jv H1 (by decide) (fun W HW => hv _ (HW.right)) hb hm) ?_))))))
 rintro _ w2 ⟨p2, rfl, H2⟩
 refine dn O (xZ O O (xZ O O (oD O (uK O (bY O (dn O (aZ (fF O O) (iF (FH O (fun h1 => ?_))))))))))
 (try simp only [aK] at h1)
 refine gX (aO (bY O (aZ (fF O O) (iF (FH O (fun h2 => ?_))))))
 (try simp only [aK] at h2)
 refine gX (bY O (fO O func26 (Ls H2.f2) ?_))
 rintro _ w3 ⟨e3, rfl, H3⟩
 refine dn O (xZ O O (xZ O O (oD O (jZ O (bY O (fO O func27 (Tn H3.f3) ?_))))))
 rintro _ w4 ⟨y4, rfl, H4⟩
 refine dn O (xZ O O (xZ O O (oD O (jZ O (bY O (jw O O (dn O (aZ (je O O) (U9 O (fun h3 => ?_))))))))))
 (try simp only [aK] at h3)
 refine bK (dn O (bK (aZ (je O O) (nX O O (U9 O (fun h4 => ?_))))))
 (try simp only [aK] at h4)
 refine bK (dn O (bK (aZ (J7 rP O O) (nX O O (oD O (oD O (jP O ?_)))))))
 refine U3 (.inl O) results4 O O O ?_
 exact ⟨_, _, O, H4.f2.right.f3.right.f2⟩
end
end Go.Proofs.YtnhhmieghbfalaaGreat
end
section
namespace Go.Proofs.YtnhhmieghbfalaaGreat
open Go.RowKit
theorem Jb {P : Program} {L : List (Nat × Value)} {w : World} {ty t : TypeId} {fs : Array Field} {f : Field} {i : Nat} {x : Operand} {cs : Array Value} {u : Value} (off : Nat) (ht : P.underlying t = some (.struct fs)) (hf : fs[i]? = some f) (ho : f.offset = off) (hp : qo P f.type = true) (hx : ev L x = some (.agg cs)) (hc : cs[off]? = some u) :
    Val P L (.field t x i) ty w u w := fun ρ hρ _ _ _ _ => by
  simp [execOp, hρ _ _ hx, Instr.field, run_underlying ht, hf, part, asAgg, BF hp, ho, hc]
end Go.Proofs.YtnhhmieghbfalaaGreat
end
section
namespace Go.Proofs.YtnhhmieghbfalaaGreat
open Go.RowKit
open _root_.Go.Proofs.Tryz
section
theorem TA {e : TypeId} {k : IntKind} : ∀ {us : List Value} {ls : List (List Int)} {us' : List Value} {ls' : List (List Int)} {w0 w : World} {F : HP}, V w0 w (sS e k us ls • sS e k us' ls' • F) → V w0 w (sS e k (us ++ us') (ls ++ ls') • F)
  | [], [], _, _, _, _, _, H => H.right
  | u :: us, l :: ls, us', ls', w0, w, F, H => by
    have H1 : V w0 w (sS e k us ls • sS e k us' ls' • jg e k u l • F) := (V.flat H).of_eq (by ac_rfl)
    exact (TA H1).swap.deep
  | [], _ :: _, _, _, _, _, _, H => absurd H.fact.1 id
  | _ :: _, [], _, _, _, _, _, H => absurd H.fact.1 id
theorem V.OY {e : TypeId} {k : IntKind} {us us' : List Value} {ls ls' : List (List Int)} {u z : Value} {l m : List Int} {w0 w : World} {F : HP} (H : V w0 w (sS e k us ls • sS e k us' ls' • jg e k u l • jg e k z m • F)) :
    V w0 w (sS e k ((us ++ us') ++ [u, z]) ((ls ++ ls') ++ [l, m]) • F) := by
  have H1 := (TA H).yU.yU
  rwa [List.append_assoc _ [u] [z], List.append_assoc _ [l] [m]] at H1
theorem V.VX {p : Nat} {hl : List o7} {base most : Int} {w0 w : World} {F : HP} (H : V w0 w (iP p hl base most • F)) : HOk hl base most := by
  obtain ⟨_, h, _⟩ := H.hist; exact h
theorem ZN {w : World} {v tv1 tv2 : Value} {l : List o7} (g1 : Rd w 2 v l.length (l.flatMap ny)) (hb1 : l.length ≤ 5864062014805) (hm : wJ l ≠ 0) :
    iQ prog 3 #[v, tv1, tv2] w fun v w' => v = .bool true ∧ Below w.heap.size w w' := by
  obtain ⟨F, H⟩ : ∃ F, V w w F := ⟨_, V.start w⟩
  have hv : CJ w F 2 v l.length (l.flatMap ny) := CJ.C9 g1 F
  refine ET func3 ntmps3 ?_
  refine kW O (bY O (fO O func4 (Zw H (fun W HW => hv _ (HW)) hb1 hm) ?_))
  rintro _ w1 ⟨rfl, H1⟩
  refine dn O (xZ O O (xZ O O (xZ O O (oD O (oD O (uK O (bY O (aZ (kY O) (JC O (fun h1 => ?_))))))))))
  (try simp only [aK] at h1)
  refine bK (fO O func5 (SI H1) ?_)
  rintro _ w2 ⟨rfl, H2⟩
  refine bK (aZ (kY O) (lH O O (iF (FH O (fun h2 => ?_)))))
  (try simp only [aK] at h2)
  refine gX (aO (bY O (aZ (nG rP O O) (iF (wcE O (fun h3 => ?_))))))
  (try simp only [aK] at h3)
  refine nM O (aV (gy results3 O ?_))
  exact ⟨O, H2.base⟩
set_option maxHeartbeats 1000000 in
theorem U1 {w : World} {v tv1 tv2 : Value} {l : List o7} {l1 l2 : List Int} (g1 : Rd w 2 v l.length (l.flatMap ny)) (hb1 : l.length ≤ 5864062014805) (hm : wJ l = 0)
  (g2 : oL w .i32 tv1 l1) (b2 : l1.length ≤ 35184372087808) (g3 : oL w .i32 tv2 l2) (b3 : l2.length ≤ 35184372087808) :
  iQ prog 3 #[v, tv1, tv2] w fun v w' => v = .bool true ∧ Below w.heap.size w w' := by
 obtain ⟨F, H⟩ : ∃ F, V w w F := ⟨_, V.start w⟩
 have hv : CJ w F 2 v l.length (l.flatMap ny) := CJ.C9 g1 F
 have ht1 : jY w F .i32 tv1 l1 := jY.C9 g2 F
 have ht2 : jY w F .i32 tv2 l2 := jY.C9 g3 F
 obtain ⟨S0, hS0⟩ : ∃ S0, S0 = bP.new (Y9 l) (SL l) 4096 := ⟨_, rfl⟩
 refine ET func3 ntmps3 ?_
 refine kW O (bY O (fO O func4 (Xp H (fun W HW => hv _ (HW)) hb1 hm) ?_))
 rintro _ w1 ⟨xe, ye, rfl, H1⟩
 have HS := H1
 rw [← hS0] at HS
 refine dn O (xZ O O (xZ O O (xZ O O (oD O (oD O (uK O (bY O (aZ (kY O) (JC O (fun h1 => ?_))))))))))
 (try simp only [aK] at h1)
 refine bK (fO O func5 (SI HS) ?_)
 rintro _ w2 ⟨rfl, H2⟩
 refine bK (aZ (kY O) (lH O O (iF (FH O (fun h2 => ?_)))))
 (try simp only [aK] at h2)
 refine gX (aO (bY O (aZ (nG rP O O) (iF (FH O (fun h3 => ?_))))))
 (try simp only [aK] at h3)
 refine gX (bY O (fO O func6 (rJ H2 (fun W HW => ht1 _ (HW.right.right)) (by omega)) ?_))
 rintro u3 w3 H3
 refine dn O (fO O func6 (rJ H3 (fun W HW => ht2 _ (HW.right.right.right)) (by omega)) ?_)
 rintro u4 w4 H4
 refine oD O (jZ O (bY O (fO O func7 (Gi H4.f3) ?_)))
 rintro _ w5 ⟨rfl, H5⟩
 refine pG O (fO O func8 (NC H5.f4) ?_)
 rintro _ w6 ⟨rfl, H6⟩
 refine qJ (bY O (dn O (fO O func9 (Nl H6.f2 (fun W HW => (HW.f3).aG)) ?_)))
 rintro _ w7 ⟨rfl, H7⟩
 refine jw O O (fO O func10 (MG H7.f2 (fun W HW => ht1 _ (HW.right.right.right)) (by (try simp only [List.length_nil]); omega)) ?_)
 rintro _ w8 ⟨rfl, H8⟩
 refine aZ (fF O O) (JC O (fun h4 => ?_))
 (try simp only [aK] at h4)
 refine bK (dn O (bK (dn O (bK (fO O func12 (DC H8.f2) ?_)))))
 rintro _ w9 ⟨u9, rfl, H9⟩
 refine bK (aZ (Jb 1 dU O O (eH ay O) O O) (bK (fO O func11 (RN H9.f2) ?_)))
 rintro _ w10 ⟨rfl, rD⟩
 refine bK (dn O (bK (dn O (bK (fO O func14 (GH rD.f3) ?_)))))
 rintro _ Hr ⟨u11, rfl, rX⟩
 refine bK (aZ (Jb 1 dU O O (eH ay O) O O) (bK (fO O func13 (Qn rX.f2) ?_)))
 rintro _ w12 ⟨rfl, vN⟩
 refine bK (aZ (fF O O) (lH O O (JC O (fun h5 => ?_))))
 (try simp only [aK] at h5)
 refine bK (dn O (bK (dn O (bK (fO O func15 (IU vN.f3 (fun W HW => (HW.f4).aG) (by omega)) ?_)))))
 rintro _ TB ⟨rfl, AB⟩
 refine bK (dn O (bK (dn O (bK (fO O func16 (Qk AB.f2 (fun W HW => ht2 _ (HW.right.right.right.right.right)) (by (try simp only [List.length_nil]); omega)) ?_)))))
 rintro _ Qu ⟨rfl, AL⟩
 refine bK (aZ (fF O O) (lH O O (iF (FH O (fun h6 => ?_)))))
 (try simp only [aK] at h6)
 refine gX (bY O (fO O func17 (LJ AL.f2) ?_))
 rintro _ TD ⟨rfl, Bz⟩
 refine pG O (fO O func18 (Tj Bz.f2) ?_)
 rintro _ w16 ⟨rfl, wE⟩
 refine qJ (aO ?_)
 obtain ⟨sD, hsD⟩ : ∃ s, s = ((((S0.bU.Am l1).sO 0 (S0.bU.Am l1).c.pt false).mW l2).lS 0) := ⟨_, rfl⟩
 have HD := wE
 rw [← hsD] at HD
 have hbs : sD.base ≤ 1152921504606846976 := by rw [hsD, Ze, Xf, Xd, show (S0.bU.Am l1).base = _ from Ig, UL, hS0]; exact Zf hb1
 have hi1 : (((S0.bU.Am l1).sO 0 (S0.bU.Am l1).c.pt false).mW l2).inn = true := by rw [Zd, Zc, aaH]; exact Fj S0
 have hpD : sD.inn = false → sD.put = [] := fun _ => hsD ▸ Zg hi1 0
 refine aB (dn O (aZ (pW ((HD.f6).aG) aA O) (dn O (iF (bI ?_)))))
 obtain ⟨n17, R17, ⟨ahZ, ah0⟩, afX, m17, ah1, afY⟩ := V.U8 (HD.f6)
 refine iC [(7, _), (8, _), (10, _), (11, _), (76, _)] (fun (i : Nat) => [(77, .int .i64 (i : Int))]) (fun (i : Nat) W => i ≤ n17 ∧ ∃ m, m.length = n17 ∧ V w W (jg 21 .i32 u3 m • R17)) (fun (i : Nat) => n17 - i) (0) sb5 pY ⟨by omega, m17, by omega, afY⟩ ?_
 rintro i Xv ⟨hi, m, hm, HL⟩
 dsimp only [List.cons_append, List.nil_append]
 refine lQ (aZ (iE O O) (qJ (eP O (fun h7 => ?_) (fun h7 => ?_))))
 ·(try simp only [aK] at h7)
  refine gX (aO (bI (bY O (jZ O (aB (jw O O ?_))))))
  obtain ⟨bu3, ou3, cu3, eu3⟩ := oL.qP ((HL).aG) (by omega)
  cases eu3
  refine aZ (eG aA iy O O (by omega)) (aC (yh HL iy O O (by first | exact rfl | omega | simp) (by omega)) ?_)
  rintro _ Xw zN
  refine cO (aX (bC (aB (aZ (fZ O O (by omega)) (dn O (cO ?_))))))
  refine eX (i + 1) ?_ ?_ ?_ ?_
  ·exact pY
  ·exact sb5
  ·(try dsimp only)
   first | done | exact ⟨by omega, _, by simp [hm], zN⟩
  ·(try dsimp only); omega
 ·(try simp only [aK] at h7)
  refine gY (aY ?_)
  subst afX
  refine aY (dw (bC (aO (bY O (aZ (pW ((HL.f6).aG) aA O) (dn O (iF (bI ?_))))))))
  obtain ⟨n20, R20, ⟨ah2, ah3⟩, afZ, m20, ah4, af0⟩ := V.U8 (HL.f6)
  refine iC [(7, _), (8, _), (11, _), (85, _)] (fun (i : Nat) => [(86, .int .i64 (i : Int))]) (fun (i : Nat) W => i ≤ n20 ∧ ∃ m, m.length = n20 ∧ V w W (jg 21 .i32 u4 m • R20)) (fun (i : Nat) => n20 - i) (0) Pg pY ⟨by omega, m20, by omega, af0⟩ ?_
  rintro i Xx ⟨hi, m, hm, HL⟩
  dsimp only [List.cons_append, List.nil_append]
  refine lQ (aZ (iE O O) (qJ (eP O (fun h8 => ?_) (fun h8 => ?_))))
  ·(try simp only [aK] at h8)
   refine gX (aO (bI (bY O (jZ O (aB (jw O O ?_))))))
   obtain ⟨bu4, ou4, cu4, eu4⟩ := oL.qP ((HL).aG) (by omega)
   cases eu4
   refine aZ (eG aA iy O O (by omega)) (aC (yh HL iy O O (by first | exact rfl | omega | simp) (by omega)) ?_)
   rintro _ w22 FN
   refine cO (aX (bC (aB (aZ (fZ O O (by omega)) (dn O (cO ?_))))))
   refine eX (i + 1) ?_ ?_ ?_ ?_
   ·exact pY
   ·exact Pg
   ·(try dsimp only)
    first | done | exact ⟨by omega, _, by simp [hm], FN⟩
   ·(try dsimp only); omega
  ·(try simp only [aK] at h8)
   refine gY (aY ?_)
   subst afZ
   refine aY (dw (bC (aO ?_)))
   have acB := HL.right.right.f3.right.f3.right.f2
   obtain ⟨ah5, agC, agD, agE, agF, agG, agH, ah6, agI, agJ, agK, agL, agM, agN, agO, agP, agQ, agR, agS, agT, agU, agV, agW, agX, agY, abv, aen, aek⟩ := (acB.f2).Bj
   have ah7 := abv.rx.1.2.1
   have abR := aek.f12.f12.f12.f12.f12.f12.f12.f12.f12.f12.f12.f12
   have abS := V.lu (s := sD) abv abR
   refine aB (dn O (fO O func19 (BQ abS.f2) ?_))
   rintro _ w28 ⟨u28, ah8, aej, ah9, rfl, MR⟩
   obtain ⟨bus, rfl⟩ : ∃ q, q = aej := ⟨_, rfl⟩
   refine dn O (fO O func12 (DC MR.f5) ?_)
   rintro _ w29 ⟨u29, rfl, Ji⟩
   refine dn O (fO O func20 (GR Ji.f2) ?_)
   rintro u30 w30 ⟨af1, JF⟩
   obtain ⟨kus, rfl⟩ : ∃ q, q = af1 := ⟨_, rfl⟩
   refine jW (gq (l := [_, _, _, _, _, _, _, _, _, _, _, _, _, _, _, _, _]) JF iD O) ?_
   rintro _ w31 ⟨b31, rfl, MS⟩
   refine jW (gq (l := [_, _, _]) MS oU O) ?_
   rintro _ w32 ⟨b32, rfl, Ht⟩
   refine aC (dD 0 (l' := [_, _, _, _, _, _, _, _, _, _, _, _, _, _, _, _, _]) (us := [_, _, _, _, _, _, _, _, _, _, _, _, _, _, _, _, _]) Ht.f2 kL O O O (aW (by first | rfl | exact Rd.one ((Ht.f7).aG)) (aH (aH (aH (aH (aH (aH (aH (aH (aH (aH (aW (by first | rfl | exact Rd.one ((Ht.f8).aG)) (aH (aW (by first | rfl | exact Rd.one ((Ht.f10).aG)) (aH (aH (aH bG))))))))))))))))) O O) ?_
   rintro _ w33 Pm
   refine aC (dD 0 (l' := [_, _, _]) (us := [_, _, _]) Pm.f2 kH O O O (aW (by first | rfl | exact Rd.one ((Pm.f6).aG)) (aH (aH bG))) O O) ?_
   rintro _ w34 Lm
   refine uK O (aO ?_)
   have hob := (Lm.f9).Ea
   have hlb := (Lm.f9).Gn
   have hok := (Lm.f4).Ea
   have hlk := (Lm.f4).Gn
   have hkl := yV sD.c.E sD.c.at_
   have Iq := Lm.drew
   have xq := V.kp (Iq.f3.right.f10.f10.f10.f10.f10.f10.f10.f10.f10.f10)
   refine wL [2, 6, 8] xq O (gK 0 O xq O (fH 1 O xq 11 aS O dG O (iY 2 O xq (fun W hW => jQ aT O ((Kp.h hW).f2).get.2 O) (fH 4 O xq 0 aS O kH O (fH 5 O xq 0 dU O bg O (iY 6 O xq (fun W hW => jQ aA O ((Kp.h hW).f2).get.2 O) (fH 7 O xq 0 dU O bg O (iY 8 O xq (fun W hW => jQ aA O ((Kp.h hW)).get.2 O) (gK 12 O xq O ?_)))))))))
   refine yZ (i := 3) (j := 9) (by kernel_rfl) ?_ ?_
   ·skip
    refine lC 3 O (by kernel_rfl) (dQ Iq.f3 aT Bc O O O ((Iq.f8).aG) (by assumption) (by omega) (by omega)) (nD O) ?_
    rintro l35 w35 Ou
    have RD := V.kp (Ou.f11.f11.f11.f11.f11.f11.f11.f11.f11.f11.f11)
    refine dV RD (fun W hW => (Kp.h hW).right.f10.f10.f10.f10.f10.f10.f10.f10.f10.f10) ?_
    refine lU 9 O (jc (vs := [_, _]) Ou aT bg jS O O O (by decide) (aW (by first | rfl | exact Rd.one ((Ou.f7).aG)) (aW (by first | rfl | exact Rd.one ((Ou.f6).aG)) bG))) ?_
    rintro l36 w36 UA
    have YR := V.kp (UA.f12.f12.f12.f12.f12.f12.f12.f12.f12.f12.f12.f12)
    refine dV YR (fun W hW => (Kp.h hW).right.f11.f11.f11.f11.f11.f11.f11.f11.f11.f11.f11) ?_
    refine lU 10 O (dQ UA.f2 aT Bc O O O ((UA).aG) (aW (by first | rfl | exact Rd.one ((UA.f8).aG)) (aW (by first | rfl | exact Rd.one ((UA.f7).aG)) bG)) (by omega) (by omega)) ?_
    rintro l37 w37 Lp
    have acS := Lp.f2.right
    have VH := V.kp (acS.f11.f11.f11.f11.f11.f11.f11.f11.f11.f11.f11)
    refine fG VH (by kernel_rfl) ?_
    refine jR 11 O VH (fun _ => fA ((acS).aG) aT O) (qN (bC (bI ?_)))
    have HO := (acS.f2.right.f2.right.f6.right.f7.right.f7.f4.f3.f5.f6.f7.f7).OY
    obtain ⟨US, hUS⟩ : ∃ U, U = (kus ++ bus) ++ [u28, u29] := ⟨_, rfl⟩
    obtain ⟨MM, hMM⟩ : ∃ M, M = (fK sD.c.E sD.c.at_).length + sD.c.E.length + 2 := ⟨_, rfl⟩
    have hML : ((fK sD.c.E sD.c.at_ ++ fK sD.c.E sD.c.at_) ++ [sD.c.L, sD.c.L]).length = MM := by rw [hMM]; simp only [List.length_append, List.length_cons, List.length_nil]; omega
    have hone : ∀ x ∈ US, x.oneCell' = true := by rw [hUS]; exact HO.Ea
    have HO2 : V w _ (sS 21 .i32 ((kus ++ bus) ++ [u28, u29]) ((fK sD.c.E sD.c.at_ ++ fK sD.c.E sD.c.at_) ++ [sD.c.L, sD.c.L]) • Row 23 1 l37 ((fK sD.c.E sD.c.at_).length + sD.c.E.length + 2) ((kus ++ bus) ++ [u28, u29]) • iL xe sD • iT ye sD • F) := HO
    rw [← hUS, ← hMM] at HO2
    obtain ⟨R39, af2, af3⟩ := V.Xz (HO2.f2)
    refine iC [(7, _), (8, _), (109, _), (110, _)] (fun (j : Nat) => [(111, .int .i64 (j : Int))]) (fun (j : Nat) W => j ≤ MM ∧ ∃ ms, ms.length = MM ∧ V w W (Row 23 1 l37 MM US • sS 21 .i32 US ms • R39)) (fun (j : Nat) => MM - j) (0) Pg pY ⟨by omega, _, hML, af3⟩ ?_
    rintro j w40 ⟨hj, ms, hms, HL⟩
    dsimp only [List.cons_append, List.nil_append]
    refine lQ (aZ (iE O O) (qJ (eP O (fun h9 => ?_) (fun h9 => ?_))))
    ·(try simp only [aK] at h9)
     refine gX (aO (bI (lQ ?_)))
     obtain ⟨aia, aib, aic, af4⟩ := Rd.qP ((HL).aG) (by omega)
     cases af4
     refine aZ (eG aT bg O O (by omega)) ?_
     refine aZ (jk (eH aA O) O (by first | exact Rd.wG ((HL).aG) (by omega) | exact Rd.Hf ((HL).aG) (by omega) | exact Rd.GX ((HL).aG) (by omega))) ?_
     refine Ad (fun aeo ael => ?_)
     refine Ad (fun x hx => ?_)
     obtain ⟨R2, HT, hback⟩ := (HL.f2).D9 (j := j) (by omega)
     have e0 : x = US.getD j undef := by rw [hx]; assumption
     rw [← e0] at HT hback
     refine jZ O (bY O (aZ (pW ((HT).aG) aA O) (dn O (iF (bI ?_)))))
     obtain ⟨n42, R42, ⟨aid, aie⟩, ab8, m42, aif, ab9⟩ := V.U8 (HT)
     refine iC [(7, _), (8, _), (18, _), (109, _), (110, _), (111, _), (116, _)] (fun (i : Nat) => [(117, .int .i64 (i : Int))]) (fun (i : Nat) W => i ≤ n42 ∧ ∃ m, m.length = n42 ∧ V w W (jg 21 .i32 x m • R42)) (fun (i : Nat) => n42 - i) (0) (Sub.cons O sb6) pY ⟨by omega, m42, by omega, ab9⟩ ?_
     rintro i w43 ⟨hi, m, hm, HL⟩
     dsimp only [List.cons_append, List.nil_append]
     refine lQ (aZ (iE O O) (qJ (eP O (fun h10 => ?_) (fun h10 => ?_))))
     ·(try simp only [aK] at h10)
      refine gX (aO (bI (bY O (jZ O (aB (jw O O ?_))))))
      obtain ⟨bx, ox, cx, ex⟩ := oL.qP ((HL).aG) (by omega)
      cases ex
      refine aZ (eG aA iy O O (by omega)) (aC (yh HL iy O O (by first | exact rfl | omega | simp) (by omega)) ?_)
      rintro _ w44 Qv
      refine cO (aX (bC (aB (aZ (fZ O O (by omega)) (dn O (cO ?_))))))
      refine eX (i + 1) ?_ ?_ ?_ ?_
      ·exact pY
      ·exact (Sub.cons O sb6)
      ·(try dsimp only)
       first | done | exact ⟨by omega, _, by simp [hm], Qv⟩
      ·(try dsimp only); omega
     ·(try simp only [aK] at h10)
      refine gY (aY ?_)
      subst ab8
      refine aY (dw (aX (bC (aB (aZ (fZ O O (by omega)) (dn O (cO ?_)))))))
      have HB := hback _ _ _ HL.f3.f3.f3
      refine eX (j + 1) ?_ ?_ ?_ ?_
      ·exact pY
      ·exact Pg
      ·(try dsimp only)
       first | done | exact ⟨by omega, _, by simp [hms], HB.f2⟩
      ·(try dsimp only); omega
    ·(try simp only [aK] at h9)
     refine gY (aY ?_)
     subst af2
     refine aY (dw (bC (bY O (fO O func21 (IQ HL.f3) ?_))))
     rintro _ w45 ⟨q45, rfl, JR⟩
     have hk9 := (JR).VX
     have hk1 := hk9.1
     have hk2 := hk9.2.2.1
     refine aZ (fC (zl := [.string .empty, .int .i64 0]) (pl := [(0, 1), (1, 1)]) [_, _] iU mg O (fun w => by kernel_rfl) O (.on (.zero (zs := [.int .i64 0]) O .nil)) O) ?_
     refine jW (lK JR bZ jX mg O O O (by decide) (by decide)) ?_
     rintro l46 w46 Qw
     refine fO O func22 (yN (l := [(⟨#[115, 112, 111, 105, 108, 116]⟩, 0)]) Qw.f2 (fun W HW => (HW).aG) (by simp; omega) hbs) ?_
     rintro _ w47 ⟨rfl, VG⟩
     refine pG O (dn O (fO O func23 (OX VG.f6.f4 (by assumption)) ?_))
     rintro _ w48 ⟨rfl, ZU⟩
     refine jP O (gy results3 O ?_)
     exact ⟨by simp, ZU.base⟩
   ·skip
    refine lC 9 O (by kernel_rfl) (jc (vs := [_, _]) Iq aT bg jS O O O (by decide) (aW (by first | rfl | exact Rd.one ((Iq.f7).aG)) (aW (by first | rfl | exact Rd.one ((Iq.f6).aG)) bG))) (nD O) ?_
    rintro l49 w49 H49
    have Yu := V.kp (H49.f4.right.f11.f11.f11.f11.f11.f11.f11.f11.f11.f11.f11)
    refine dV Yu (fun W hW => (Kp.h hW).right.f10.f10.f10.f10.f10.f10.f10.f10.f10.f10) ?_
    refine lU 3 O (dQ H49.f4 aT Bc O O O ((H49.f9).aG) (by assumption) (by omega) (by omega)) ?_
    rintro l50 w50 Vu
    have Vw := V.kp (Vu.f12.f12.f12.f12.f12.f12.f12.f12.f12.f12.f12.f12)
    refine dV Vw (fun W hW => (Kp.h hW).right.f11.f11.f11.f11.f11.f11.f11.f11.f11.f11.f11) ?_
    refine lU 10 O (dQ Vu aT Bc O O O ((Vu.f2).aG) (aW (by first | rfl | exact Rd.one ((Vu.f8).aG)) (aW (by first | rfl | exact Rd.one ((Vu.f7).aG)) bG)) (by omega) (by omega)) ?_
    rintro l51 w51 H51
    have acT := H51.f2.right
    have Vy := V.kp (acT.f11.f11.f11.f11.f11.f11.f11.f11.f11.f11.f11)
    refine fG Vy (by kernel_rfl) ?_
    refine jR 11 O Vy (fun _ => fA ((acT).aG) aT O) (qN (bC (bI ?_)))
    have HO := (acT.f2.right.f2.right.f6.right.f7.right.f7.f4.f3.f5.f6.f7.f7).OY
    obtain ⟨US, hUS⟩ : ∃ U, U = (kus ++ bus) ++ [u28, u29] := ⟨_, rfl⟩
    obtain ⟨MM, hMM⟩ : ∃ M, M = (fK sD.c.E sD.c.at_).length + sD.c.E.length + 2 := ⟨_, rfl⟩
    have hML : ((fK sD.c.E sD.c.at_ ++ fK sD.c.E sD.c.at_) ++ [sD.c.L, sD.c.L]).length = MM := by rw [hMM]; simp only [List.length_append, List.length_cons, List.length_nil]; omega
    have hone : ∀ x ∈ US, x.oneCell' = true := by rw [hUS]; exact HO.Ea
    have HO2 : V w _ (sS 21 .i32 ((kus ++ bus) ++ [u28, u29]) ((fK sD.c.E sD.c.at_ ++ fK sD.c.E sD.c.at_) ++ [sD.c.L, sD.c.L]) • Row 23 1 l51 ((fK sD.c.E sD.c.at_).length + sD.c.E.length + 2) ((kus ++ bus) ++ [u28, u29]) • iL xe sD • iT ye sD • F) := HO
    rw [← hUS, ← hMM] at HO2
    obtain ⟨R53, af5, af6⟩ := V.Xz (HO2.f2)
    refine iC [(7, _), (8, _), (109, _), (110, _)] (fun (j : Nat) => [(111, .int .i64 (j : Int))]) (fun (j : Nat) W => j ≤ MM ∧ ∃ ms, ms.length = MM ∧ V w W (Row 23 1 l51 MM US • sS 21 .i32 US ms • R53)) (fun (j : Nat) => MM - j) (0) Pg pY ⟨by omega, _, hML, af6⟩ ?_
    rintro j w54 ⟨hj, ms, hms, HL⟩
    dsimp only [List.cons_append, List.nil_append]
    refine lQ (aZ (iE O O) (qJ (eP O (fun h11 => ?_) (fun h11 => ?_))))
    ·(try simp only [aK] at h11)
     refine gX (aO (bI (lQ ?_)))
     obtain ⟨aih, aii, aij, af7⟩ := Rd.qP ((HL).aG) (by omega)
     cases af7
     refine aZ (eG aT bg O O (by omega)) ?_
     refine aZ (jk (eH aA O) O (by first | exact Rd.wG ((HL).aG) (by omega) | exact Rd.Hf ((HL).aG) (by omega) | exact Rd.GX ((HL).aG) (by omega))) ?_
     refine Ad (fun aep aem => ?_)
     refine Ad (fun x hx => ?_)
     obtain ⟨R2, HT, hback⟩ := (HL.f2).D9 (j := j) (by omega)
     have e0 : x = US.getD j undef := by rw [hx]; assumption
     rw [← e0] at HT hback
     refine jZ O (bY O (aZ (pW ((HT).aG) aA O) (dn O (iF (bI ?_)))))
     obtain ⟨n56, R56, ⟨aik, ail⟩, aca, m56, aim, acb⟩ := V.U8 (HT)
     refine iC [(7, _), (8, _), (18, _), (109, _), (110, _), (111, _), (116, _)] (fun (i : Nat) => [(117, .int .i64 (i : Int))]) (fun (i : Nat) W => i ≤ n56 ∧ ∃ m, m.length = n56 ∧ V w W (jg 21 .i32 x m • R56)) (fun (i : Nat) => n56 - i) (0) (Sub.cons O sb6) pY ⟨by omega, m56, by omega, acb⟩ ?_
     rintro i w57 ⟨hi, m, hm, HL⟩
     dsimp only [List.cons_append, List.nil_append]
     refine lQ (aZ (iE O O) (qJ (eP O (fun h12 => ?_) (fun h12 => ?_))))
     ·(try simp only [aK] at h12)
      refine gX (aO (bI (bY O (jZ O (aB (jw O O ?_))))))
      obtain ⟨bx, ox, cx, ex⟩ := oL.qP ((HL).aG) (by omega)
      cases ex
      refine aZ (eG aA iy O O (by omega)) (aC (yh HL iy O O (by first | exact rfl | omega | simp) (by omega)) ?_)
      rintro _ w58 Yv
      refine cO (aX (bC (aB (aZ (fZ O O (by omega)) (dn O (cO ?_))))))
      refine eX (i + 1) ?_ ?_ ?_ ?_
      ·exact pY
      ·exact (Sub.cons O sb6)
      ·(try dsimp only)
       first | done | exact ⟨by omega, _, by simp [hm], Yv⟩
      ·(try dsimp only); omega
     ·(try simp only [aK] at h12)
      refine gY (aY ?_)
      subst aca
      refine aY (dw (aX (bC (aB (aZ (fZ O O (by omega)) (dn O (cO ?_)))))))
      have HB := hback _ _ _ HL.f3.f3.f3
      refine eX (j + 1) ?_ ?_ ?_ ?_
      ·exact pY
      ·exact Pg
      ·(try dsimp only)
       first | done | exact ⟨by omega, _, by simp [hms], HB.f2⟩
      ·(try dsimp only); omega
    ·(try simp only [aK] at h11)
     refine gY (aY ?_)
     subst af5
     refine aY (dw (bC (bY O (fO O func21 (IQ HL.f3) ?_))))
     rintro _ w59 ⟨q59, rfl, H59⟩
     have hk9 := (H59).VX
     have hk1 := hk9.1
     have hk2 := hk9.2.2.1
     refine aZ (fC (zl := [.string .empty, .int .i64 0]) (pl := [(0, 1), (1, 1)]) [_, _] iU mg O (fun w => by kernel_rfl) O (.on (.zero (zs := [.int .i64 0]) O .nil)) O) ?_
     refine jW (lK H59 bZ jX mg O O O (by decide) (by decide)) ?_
     rintro l60 w60 H60
     refine fO O func22 (yN (l := [(⟨#[115, 112, 111, 105, 108, 116]⟩, 0)]) H60.f2 (fun W HW => (HW).aG) (by simp; omega) hbs) ?_
     rintro _ w61 ⟨rfl, H61⟩
     refine pG O (dn O (fO O func23 (OX H61.f6.f4 (by assumption)) ?_))
     rintro _ w62 ⟨rfl, H62⟩
     refine jP O (gy results3 O ?_)
     exact ⟨by simp, H62.base⟩
end
end Go.Proofs.YtnhhmieghbfalaaGreat
end
section
set_option maxRecDepth 100000
namespace Go.Proofs.YtnhhmieghbfalaaGreat
open Go.ChangeShapes Go.WideShapes Go.ChangeAt Go.RowKit
theorem acU {H : Type} {enc : TypeId × Value → H} {W : World} {B : Nat} {cs : List Value} (h : FI B enc Tryz.prog W 49 cs) : ∃ x0 x1, cs = [.string x0, .int .i64 x1] ∧ x0.size ≤ B ∧ (Lit.int .i64 x1).wf = true := by
  obtain ⟨hl, hf⟩ := h.struct Tryz.underlying49
  rw [show Tryz.prog.cellsOf 49 = 2 from by kernel_rfl] at hl
  match cs, hl with
  | [c0, c1], _ =>
    have h0 : FI B enc Tryz.prog W 9 (([c0, c1].drop 0).take (Tryz.prog.cellsOf 9)) := hf 0 _ rfl
    rw [show Tryz.prog.cellsOf 9 = 1 from by kernel_rfl] at h0
    obtain ⟨x0, e0, w0⟩ := h0.string Tryz.underlying9
    have h1 : FI B enc Tryz.prog W 2 (([c0, c1].drop 1).take (Tryz.prog.cellsOf 2)) := hf 1 _ rfl
    rw [show Tryz.prog.cellsOf 2 = 1 from by kernel_rfl] at h1
    obtain ⟨x1, e1, w1⟩ := h1.int Tryz.underlying2
    simp only [List.drop, List.take, List.cons.injEq, and_true] at e0 e1
    exact ⟨x0, x1, by simp_all, w0, w1⟩
theorem Xq {H : Type} {enc : TypeId × Value → H} {W : World} {n : Nat} {xs : List Value} (hx : xs.length = n * 2) (h : ∀ k, k < n → In enc Tryz.prog W 49 ((xs.drop (k * 2)).take 2)) :
    ∃ l : List o7, l.length = n ∧ xs = l.flatMap ny := by
  obtain ⟨l, h1, h2, -⟩ := aam (enc := ny) (p := fun _ => True) hx (fun k hk => by
    obtain ⟨x0, x1, e, -⟩ := acU (h k hk)
    exact ⟨(x0, x1), e, trivial⟩)
  exact ⟨l, h1, h2⟩
set_option maxRecDepth 100000 in
theorem Ir (os : Os) (started : os.Started) (H : Type) (enc : TypeId × Value → H) :
    ReturnsInHanded {} Tryz.checked os 3 .any (Rows.editorOwnSpec.pre6 enc Tryz.prog Tryz.f3 Rows.editorOwnRow.domain false) (Rows.editorOwnSpec.post enc Tryz.prog Tryz.f3 false true false false) := by
  refine XV (C := Tryz.checked) (tb := 4) _ own laid started (by kernel_rfl) Tryz.func3 (congrArg Array.toList Tryz.params3) rfl Tryz.underlying4 rfl (by kernel_rfl) (fun ds hd => ?_)
    (ChangeSpec.witness6 (enc := enc) (C := Tryz.checked) false ⟨#[], #[.slice none 0 0, .slice none 0 0, .slice none 0 0], []⟩ 8 (by kernel_rfl) (by kernel_rfl) (by kernel_rfl) (by kernel_rfl)) ?_
  · obtain ⟨a0, a1, a2, rfl⟩ := Wi hd
    rfl
  intro W args hin
  obtain ⟨v1, v2, v3, rfl, ⟨⟨_, o1⟩, i1⟩, ⟨⟨_, o2⟩, i2⟩, ⟨⟨_, o3⟩, i3⟩⟩ := hin.three
  obtain ⟨a1, n1, c1, rfl⟩ := okWide_slice Tryz.underlying22 o1
  obtain ⟨a2, n2, c2, rfl⟩ := okWide_slice Tryz.underlying23 o2
  obtain ⟨a3, n3, c3, rfl⟩ := okWide_slice Tryz.underlying23 o3
  obtain ⟨u1, n, xs, e1, p1, p2, p3⟩ := i1.slice Tryz.underlying22 (by rw [show Tryz.prog.cellsOf 49 = 2 from by kernel_rfl]; decide)
  rw [show Tryz.prog.cellsOf 49 = 2 from by kernel_rfl] at p1 p3
  rw [show Tryz.prog.bytesOf 49 = 24 from by kernel_rfl] at p2
  obtain rfl := List.singleton_inj.1 e1
  obtain ⟨l, l1, l2⟩ := Xq p1.len p3
  subst l1 l2
  obtain ⟨_, m1, e2, g1, b1, -⟩ := i2.ints Tryz.underlying23 Tryz.underlying21 (by kernel_rfl)
  obtain rfl := List.singleton_inj.1 e2
  obtain ⟨_, m2, e3, g2, b2, -⟩ := i3.ints Tryz.underlying23 Tryz.underlying21 (by kernel_rfl)
  obtain rfl := List.singleton_inj.1 e3
  rw [show Tryz.prog.bytesOf 21 = 4 from by kernel_rfl] at b1 b2
  unfold reachBytes at p2 b1 b2
  by_cases hm : wJ l = 0
  · exact U1 p1 (by omega) hm g1 (by omega) g2 (by omega)
  · exact ZN p1 (by omega) hm
theorem editorOwn_proved : Rows.EditorOwnSaid :=
  OpenClaim.holds_of_wide 3 Tryz.f3 rfl rfl rfl rfl rfl rfl rfl ⟨rfl, rfl, rfl, rfl, rfl⟩ rfl rfl rfl rfl rfl (by kernel_rfl) Tryz.func3 (by kernel_rfl)
    (of_decide_eq_true (by kernel_rfl)) (by unfold Func.isWrapper; first | (rw [if_pos (by decide +kernel)]; kernel_rfl) | (rw [if_neg (by decide +kernel)]; exact ⟨rfl, rfl⟩))
    (fun os started H enc _ => Ir os started H enc)
end Go.Proofs.YtnhhmieghbfalaaGreat
end
