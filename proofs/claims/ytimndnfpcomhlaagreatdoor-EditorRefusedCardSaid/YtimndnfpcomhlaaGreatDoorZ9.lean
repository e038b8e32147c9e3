import Derived.Test.YtimndnfpcomhlaaGreatDoorZ4
import Derived.Test.YtimndnfpcomhlaaGreatDoorZ8
import Derived.Test.YtimndnfpcomhlaaGreatDoorZ7
set_option linter.unusedSimpArgs false
set_option linter.unusedVariables false
/- Texts of mine, joined, their names in short: UList4 UList5 UList6 UList7 Grp0 Hist EdM. -/
section
namespace Go.Proofs.YtimndnfpcomhlaaGreatDoor
open Go.RowKit
open _root_.Go.Proofs.Tryz
def uo (G : List (List gV)) (N : List gV) : Int := if G.length + N.length = 0 then 6 else 0
def QX (G : List (List gV)) (N : List gV) : List (List gV) := if G.length + N.length = 0 then G else (mW G N).dropLast
def QY (G : List (List gV)) (N : List gV) : List gV := if G.length + N.length = 0 then N else []
def QZ (G : List (List gV)) (N : List gV) (op : Int) : Int := if G.length + N.length = 0 then op else 0
def Q5 (G : List (List gV)) (N : List gV) : List gV := if G.length + N.length = 0 then [] else ((mW G N).getLastD []).reverse.map vV
theorem J4 {G : List (List gV)} {g N : List gV} : gI (G ++ [g]) N = gI G N + g.length := by simp [gI]; omega
section
variable {w0 w : World} {F : HP} {p : Nat} {G : List (List gV)} {N : List gV} {op : Int} {gv nv v : Value} {gs : List (Value × List fD)} {now es : List fD} {a : Int} {d z : Value} {dl il : List Int}
theorem Qa (h : ¬ G.length + N.length = 0) : mW G N ≠ [] := by
  unfold mW; split
  · rename_i hN; rintro rfl; subst hN; exact h rfl
  · simp
theorem V.Qb (H : V w0 w (iL p G [] op • F)) (hG : G ≠ []) : ∃ gv nv hs gl zn, G = hs.map (fun g => g.2.map fD.says) ++ [zn.map fD.says] ∧ XO G [] op ∧ G.length = hs.length + 1 ∧ hs.length ≤ 16384 ∧ zn.length ≤ 16384 ∧ (∀ k, k < zn.length → EB (zn.getD k default).says) ∧
    V w0 w (dR p (.cells #[gv, nv, .int .i64 op, .int .i64 (gI G [] : Nat), .bool true] 168 (0, 0)) • Row 67 1 gv (hs.length + 1) (hs.map (·.1) ++ [gl]) • tZ hs • Et gl zn • Jt nv [] • F) := by
  obtain ⟨gv, nv, gs, now, h1, h2, h3, h4, h5, h6, H⟩ := H.wB
  obtain rfl : now = [] := List.eq_nil_of_length_eq_zero (by simpa using h5)
  rcases List.eq_nil_or_concat gs with rfl | ⟨hs, ⟨gl, zn⟩, rfl⟩
  · exact absurd h2.symm hG
  · have hG2 : G = hs.map (fun g => g.2.map fD.says) ++ [zn.map fD.says] := by rw [← h2]; simp
    have hle : zn.length ≤ 16384 := by
      have := h1.2.1
      rw [hG2, J4] at this
      simp at this
      omega
    refine ⟨gv, nv, hs, gl, zn, hG2, h1, ?_, ?_, hle, fun k hk => ?_, ?_⟩
    · rw [hG2]; simp
    · rw [hG2] at h6; simp at h6; omega
    · refine h1.2.2.2.2.1 (zn.map fD.says) (by rw [hG2]; simp) _ ?_
      rw [List.getD_eq_getElem?_getD, List.getElem?_eq_getElem hk]
      exact List.mem_map_of_mem (List.getElem_mem hk)
    · rw [List.concat_eq_append, List.length_append, List.map_append] at H
      have H1 := (H.f3.Nw (k := hs.length) (by simp)).swap
      rw [show (hs ++ [(gl, zn)]).getD hs.length default = (gl, zn) from by simp [List.getD_eq_getElem?_getD]] at H1
      have H2 := H1.U7 hs.length
      rw [List.take_left' rfl] at H2
      exact H2.of_eq (by unfold Jt; ac_rfl)
theorem xY (H : V w0 w (iL p G N op • F)) : iU prog 65 #[.pointer (some ⟨p, 0, none⟩)] w fun v w' => ∃ u, ∃ fs : List fD, v = .tuple #[u, .int .i64 (uo G N)] ∧ fs.map fD.says = Q5 G N ∧
  V w0 w' (Row 124 3 u fs.length (fs.flatMap fD.enc) • nC fs • iL p (QX G N) (QY G N) (QZ G N op) • F) := by
 unfold uo Q5 QX QY QZ
 refine ji func65 ntmps65 ?_
 refine jg (lU O (tJ O (bM O (dZ O func95 (lu H) ?_))))
 rintro _ _ ⟨rfl, rfl⟩
 refine iT (vO (iq (aO (aO ?_))))
 obtain ⟨Ac, xX, nU, mV, lI, uF, sQ, EK, EL, Ju, qg⟩ := (H).wB
 have Aa := qg.drew
 have gG := V.kp (Aa.f5.f5.f5.f5.f5)
 refine xP [4, 10] gG O (jc 0 O gG O (kN 1 O gG O (fV 2 O gG 0 bC O dw O (fV 3 O gG 0 bF O gW O (jq 4 O gG (fun W hW => jV bJ O ((Kp.h hW)).get.2 O) (jW 5 O gG (fun _ => iE ((Aa.f2).aP) bJ O) (jc 6 O gG O (kN 7 O gG O (fV 8 O gG 0 bC O dw O (fV 9 O gG 1 bF O bV O (jq 10 O gG (fun W hW => jV aU O ((Kp.h hW)).get.2 O) (jW 11 O gG (fun _ => iE ((Aa.f4).aP) aU O) (jW 12 O gG (fun _ => gX O O (by omega)) (jW 13 O gG (fun _ => ig O O) (qp (bg (bI O (fun h1 => ?_) (fun h1 => ?_))))))))))))))))))
 ·(try simp only [aH] at h1)
  have hGN : G.length + N.length = 0 := by omega
  have U8 := Aa.f5.f5.f5.f5.f5
  have U9 := V.nG lI uF sQ rfl U8
  refine jg (lU O (iW O (aK (DL results65 O O ?_))))
  simp only [if_pos hGN]
  exact ⟨_, [], O, O, ((U9).uS none).edL⟩
 ·(try simp only [aH] at h1)
  have hGN : ¬ G.length + N.length = 0 := by omega
  have Zq := Aa.f5.f5.f5.f5.f5
  have Zr := V.nG lI uF sQ rfl Zq
  refine iq (bM O (dZ O func102 (AL Zr) ?_))
  rintro _ w9 H9
  refine qj ?_
  obtain ⟨gv, nv, hs, gl, zn, hG, hok, hl1, hl2, hl3, hEB, HU⟩ := (H9).Qb (Qa hGN)
  have htot := hok.2.1
  refine aC (ny O O (bf 0 bC O dw O (bf 0 bF O gW O (dQ bJ O (HU).get.2 O (aV (iE ((HU.f2).aP) bJ O) (aV (lX O O (by omega)) (gY O (bM O (dM O (bf 0 bC O dw O (bf 0 bF O gW O (dQ bJ O (HU).get.2 O (cZ O ?_)))))))))))))
  obtain ⟨bgv, ogv, cgv, egv⟩ := Rd.vS ((HU.f2).aP) (by omega)
  cases egv
  refine aV (gU bJ bV O O (by omega)) ?_
  refine aV (jM (fK aU O) O (by first | exact Rd.GI ((HU.f2).aP) (by omega) | exact Rd.Xx ((HU.f2).aP) (by omega) | exact Rd.Xb ((HU.f2).aP) (by omega))) ?_
  rw [show (hs.map (·.1) ++ [gl]).getD ((((hs.length + 1 : Nat)) : Int) - 1).toNat undef = gl from by rw [show ((((hs.length + 1 : Nat)) : Int) - 1).toNat = hs.length from by omega]; simp [List.getD_eq_getElem?_getD]]
  refine gY O (bM O (ny O O (bf 0 bC O dw O (bf 0 bF O gW O (dQ bJ O (HU).get.2 O (cZ O (aV (yx ((HU.f2).aP) bJ bV O O O (by omega)) ?_)))))))
  refine dM O (bf 0 bC O dw O (bf 0 bF O gW O (aI (fM 0 (l' := [_, _, _, _, _]) HU gW O O (by first | rfl | exact Rd.one (Rd.aaK ((HU.f2).aP) (by omega))) O O) ?_)))
  rintro _ w10 sV
  refine sU O (dM O (bf 0 bC O dw O (bf 3 bF O aj O (dQ ay O (sV).get.2 O (cZ O (aV (iE ((sV.f4).Dh) aU O) (aV (lX O O (by omega)) (dM O (bf 0 bC O dw O (bf 3 bF O aj O (aI (Xz 3 sV aj) ?_)))))))))))
  rintro _ I9 yt
  refine sU O (dZ O func103 (D6 yt.f4 hEB hl3) ?_)
  rintro u12 w12 ⟨Vq, YA, wz⟩
  refine lU O (iW O (DL results65 O O ?_))
  simp only [if_neg hGN]
  have hdl : (mW G N).dropLast = hs.map (fun g => g.2.map fD.says) := by rw [hG]; simp
  have hlast : (mW G N).getLastD [] = zn.map fD.says := by rw [hG]; simp
  have hX := (wz.f3.right.f6.f6.f5.f5.f5.f6).Uy (h := hs.length) (by omega)
  rw [hdl, hlast]
  rw [Nat.mul_one, List.take_left' (by simp), show (((hs.length + 1 : Nat) : Int) - 1).toNat = hs.length from by omega, show Int.toNat 0 = 0 from rfl] at hX
  have hT : gI (mW G N) [] = gI (hs.map (fun g => g.2.map fD.says)) [] + zn.length := by rw [hG, J4, List.length_map]
  have hok2 : XO (hs.map (fun g => g.2.map fD.says)) [] 0 := ⟨fun g hg => hok.1 g (by rw [hG]; exact List.mem_append_left _ hg), by omega, by decide, by decide, fun g hg => hok.2.2.2.2.1 g (by rw [hG]; exact List.mem_append_left _ hg), by simp⟩
  refine ⟨_, _, O, (by assumption), ?_⟩
  have hU := V.vw (gv := qQ 1 0 hs.length (.slice (some ⟨bgv, ogv, none⟩) (hs.length + 1) cgv)) (nv := nv) (gs := hs) (now := []) (ed := (gI (mW G N) [] : Nat) - (zn.length : Int)) (F := Row 124 3 u12 Vq.length (Vq.flatMap fD.enc) • nC Vq • F) hok2 rfl rfl (by omega) (hX.of_eq (by unfold DZ; ac_rfl))
  exact hU.of_eq (by ac_rfl)
end
def Di (op : Int) : Int := if op = 0 then 1 else 0
def Zt (G : List (List gV)) (N : List gV) (op : Int) : List (List gV) := if op = 1 then mW G N else G
def Zu (N : List gV) (op : Int) : List gV := if op = 1 then [] else N
def XP (op : Int) : Int := if op = 0 then 0 else op - 1
theorem Tq {es : List fD} {k : Nat} (hk : k < es.length) : (es.take (k + 1)).map fD.says = (es.take k).map fD.says ++ [(es.getD k default).says] := by
  rw [List.take_succ_eq_append_getElem hk, List.map_append, List.getD_eq_getElem?_getD, List.getElem?_eq_getElem hk]
  rfl
section
variable {w0 w : World} {F : HP} {p : Nat} {G : List (List gV)} {N : List gV} {op : Int} {gv nv v : Value} {gs : List (Value × List fD)} {now es : List fD} {a : Int} {d z : Value} {dl il : List Int}
theorem zo (H : V w0 w (iL p G N op • F)) : iU prog 77 #[.pointer (some ⟨p, 0, none⟩)] w fun v w' => v = .int .i64 (Di op) ∧ V w0 w' (iL p (Zt G N op) (Zu N op) (XP op) • F) := by
 unfold Di Zt Zu XP
 refine ji func77 ntmps77 ?_
 refine lZ O (aO (bM O (dZ O func95 (lu H) ?_)))
 rintro _ _ ⟨rfl, rfl⟩
 refine iT (vO (iq (aO (aO ?_))))
 obtain ⟨Ac, xX, nU, mV, lI, uF, sQ, EK, EL, Ju, qg⟩ := (H).wB
 have hop := lI.2.2.1
 have hop2 := lI.2.2.2.1
 refine aC (ny O O (bf 0 bC O dw O (bf 2 bF O aj O (dQ ay O (qg).get.2 O (aV (ig O O) (kK O (fun h1 => ?_) (fun h1 => ?_)))))))
 ·(try simp only [aH] at h1)
  have h0 : op = 0 := by omega
  refine lF O (aK (fB results77 O ?_))
  have U8 := qg.f5.f5.f5.f5.f5
  have U9 := V.nG lI uF sQ rfl U8
  subst h0
  exact ⟨O, U9⟩
 ·(try simp only [aH] at h1)
  have h0 : ¬ op = 0 := by omega
  refine iq (aO (bM O (dM O (bf 0 bC O dw O (bf 2 bF O aj O (dQ ay O (qg).get.2 O (aV (lX O O (by omega)) (dM O (bf 0 bC O dw O (bf 2 bF O aj O (aI (Xz 2 qg aj) ?_)))))))))))
  rintro _ w6 H6
  refine sU O (dM O (bf 0 bC O dw O (bf 2 bF O aj O (dQ ay O (H6).get.2 O (aV (ig O O) (kK O (fun h2 => ?_) (fun h2 => ?_)))))))
  ·(try simp only [aH] at h2)
   have h1 : op = 1 := by omega
   have Zq := H6.f5.f5.f5.f5.f5
   have Zr := V.nG (op := op - 1) ⟨lI.1, lI.2.1, by omega, by omega, lI.2.2.2.2⟩ uF sQ rfl Zq
   refine aC (cZ O (dZ O func102 (AL Zr) ?_))
   rintro _ w9 H9
   refine iT (lF O (fB results77 O ?_))
   subst h1
   exact ⟨O, H9⟩
  ·(try simp only [aH] at h2)
   have h1 : ¬ op = 1 := by omega
   refine iq (lF O (fB results77 O ?_))
   rw [if_neg h0, if_neg h1, if_neg h1, if_neg h0]
   exact ⟨O, V.nG ⟨lI.1, lI.2.1, by omega, by omega, lI.2.2.2.2⟩ uF sQ O H6.f5.f5.f5.f5.f5⟩
theorem Ia (H : V w0 w F) (hv : Bl w0 F 3 v es.length (es.flatMap fD.enc)) (he : ∀ k, k < es.length → kP w0 F .i32 (es.getD k default).d (es.getD k default).dl ∧ kP w0 F .i32 (es.getD k default).i (es.getD k default).il)
  (hB : ∀ k, k < es.length → EB (es.getD k default).says) (hL : es.length ≤ 16384) :
  iU prog 96 #[v] w fun v' w' => ∃ fs : List fD, fs.map fD.says = es.map fD.says ∧ V w0 w' (Row 124 3 v' fs.length (fs.flatMap fD.enc) • nC fs • F) := by
 refine ji func96 ntmps96 ?_
 refine lZ O (lZ O (aO (bM O (aV (iE (hv _ (H)) aU O) (cZ O (iT (bn ?_)))))))
 refine iR [(6, _), (7, _)] (fun (⟨k, u⟩ : Nat × Value) => [(3, u), (8, .int .i64 (k : Int))]) (fun (⟨k, u⟩ : Nat × Value) W => k ≤ es.length ∧ ∃ fs : List fD, fs.map fD.says = (es.take k).map fD.says ∧ V w0 W (Row 124 3 u fs.length (fs.flatMap fD.enc) • nC fs • F)) (fun (⟨k, u⟩ : Nat × Value) => es.length - k) ((0, .slice none 0 0)) vT vT ⟨by omega, [], O, (H.uS none).edL⟩ ?_
 rintro ⟨k, u⟩ w1 ⟨hk, fs, hfs, HL⟩
 dsimp only [List.cons_append, List.nil_append]
 refine jg (aV (fJ O O) (qj (bI O (fun h1 => ?_) (fun h1 => ?_))))
 ·(try simp only [aH] at h1)
  refine iq (aO (bn (jg ?_)))
  obtain ⟨bv, ov, cv, ev⟩ := Rd.vS (hv _ (HL.right.right)) (by omega)
  cases ev
  refine aV (gU aU bG O O (by omega)) (aV (jC (ys := [_, _, _]) (hv _ (HL.right.right)) (by omega) aS O bG O (kH fD.tY (by omega) default) O) ?_)
  have hkl : k < es.length := by omega
  obtain ⟨f1, f2⟩ := he k hkl
  obtain ⟨hb1, hb2⟩ := hB k hkl
  have hb1 : (es.getD k default).dl.length ≤ 35184372087808 := hb1
  have hb2 : (es.getD k default).il.length ≤ 35184372087808 := hb2
  have hfl : fs.length = k := by have h9 := congrArg List.length hfs; simp at h9; omega
  refine jL (fE (l := [_, _, _]) HL dB O) ?_
  rintro _ w2 ⟨b2, rfl, H2⟩
  refine aI (dh 0 (l' := [_, _, _]) (us := [_, _, _]) H2 bG O O O (aF (aZ (by first | rfl | exact Rd.one (f1 _ (H2.right.right.right))) (aZ (by first | rfl | exact Rd.one (f2 _ (H2.right.right.right))) bK))) O O) ?_
  rintro _ w3 H3
  refine iT (aC (cZ O (aV (dG aS O bG O O (H3).get.2) (dZ O func109 (wI H3 (fun W HW => f1 _ (HW.right.right.right)) (fun W HW => f2 _ (HW.right.right.right)) (by omega) (by omega)) ?_))))
  rintro _ w4 ⟨d4, s4, rfl, H4⟩
  refine jL (sH H4 aU bG dB O O O (by decide) (by decide)) ?_
  rintro l5 w5 H5
  refine jL (iQ H5.f5 aU AB O O O ((H5).aP) (aF (aZ (by first | rfl | exact Rd.one ((H5.f2).aP)) (aZ (by first | rfl | exact Rd.one ((H5.f3).aP)) bK))) (by omega) (by omega)) ?_
  rintro l6 w6 H6
  have Hd7 := H6.f2.right
  refine lU O (bY (aN (bg (aC (aV (gX O O (by omega)) (cZ O (bY ?_)))))))
  refine fG ((k + 1, l6)) ?_ ?_ ?_ ?_
  ·exact vT
  ·exact vT
  ·(try dsimp only)
   first | done | exact ⟨by omega, _, by rw [List.map_append, hfs, Tq (by omega)]; rfl, (V.yN (Hd7.f4.right.f4.f2.f4.f4).oJ.swap.oJ.swap.f3).edL⟩
  ·(try dsimp only); omega
 ·(try simp only [aH] at h1)
  refine iJ (aX (aX (dA (bg (bM O (iW O (fB results96 O ?_)))))))
  rw [List.take_of_length_le (by omega)] at hfs
  exact ⟨_, hfs, HL.f2.f2⟩
theorem V.mZ {es : List fD} (H : V w0 w (nC es • F)) {k : Nat} (hk : k < es.length) : mM w .i32 (es.getD k default).d (es.getD k default).dl ∧ mM w .i32 (es.getD k default).i (es.getD k default).il := let ⟨I, h, hI⟩ := H.xw; ⟨(h k hk).1.rd hI, (h k hk).2.rd hI⟩
theorem AO (H : V w0 w (Row 124 3 v es.length (es.flatMap fD.enc) • nC es • F)) (hB : ∀ k, k < es.length → EB (es.getD k default).says) (hL : es.length ≤ 16384) :
    iU prog 96 #[v] w fun v' w' => ∃ fs : List fD, fs.map fD.says = es.map fD.says ∧ V w0 w' (Row 124 3 v' fs.length (fs.flatMap fD.enc) • nC fs • Row 124 3 v es.length (es.flatMap fD.enc) • nC es • F) :=
  Ia H (fun W HW => HW.aP) (fun k hk => ⟨fun W HW => (HW.right.mZ hk).1, fun W HW => (HW.right.mZ hk).2⟩) hB hL
theorem xZ (H : V w0 w (Et v es • F)) (hB : ∀ k, k < es.length → EB (es.getD k default).says) (hL : es.length ≤ 16384) :
    iU prog 96 #[v] w fun v' w' => ∃ fs : List fD, fs.map fD.says = es.map fD.says ∧ V w0 w' (Row 124 3 v' fs.length (fs.flatMap fD.enc) • nC fs • Et v es • F) :=
  Ia H (fun W HW => HW.Dh) (fun k hk => ⟨fun W HW => HW.aaL hk, fun W HW => HW.aaM hk⟩) hB hL
end
def adp (G : List (List gV)) (N : List gV) : List gV := (mW G N).flatten.reverse.map vV
section
variable {w0 w : World} {F : HP} {p : Nat} {G : List (List gV)} {N : List gV} {op : Int} {gv nv v u : Value} {gs : List (Value × List fD)} {now es fs : List fD} {a : Int} {d z : Value} {dl il : List Int}
theorem Ib (H : V w0 w (iL p G N op • F)) : iU prog 57 #[.pointer (some ⟨p, 0, none⟩)] w fun _ w' => V w0 w' (iL p [] [] 0 • F) := by
 refine ji func57 ntmps57 ?_
 refine bM O (dZ O func95 (lu H) ?_)
 rintro _ _ ⟨rfl, rfl⟩
 refine aV (oO O) (iT (wcE O (fun h1 => ?_)))
 (try simp only [aH] at h1)
 obtain ⟨Ac, xX, nU, mV, lI, uF, sQ, EK, EL, Ju, qg⟩ := (H).wB
 refine aC (cZ O (aV (lQ (pl := #[(0, 4), (4, 1)]) (#[_, _, _, _, _]) bC zeroValue168 (fun w => by kernel_rfl) O (O)) (dM O (aI (dh 0 (l' := [_, _, _, _, _]) (us := [_, _, _, _, _]) qg sizeOf168 O O O (aF (aF (aF (aF (aF bK))))) O O) ?_))))
 rintro _ w3 H3
 refine bY (gQ (.inr O) results57 ?_)
 refine V.vw (gv := .slice none 0 0) (nv := .slice none 0 0) (gs := []) (now := []) ⟨by simp, by decide, by decide, by decide, by simp, by simp⟩ O O O ?_
 exact (((H3.f2.right.f2.right.f2.right.f2.right).uS none).D5 none).of_eq (by ac_rfl)
theorem V.LH (H : V w0 w (tZ gs • F)) {k : Nat} {gl : Value} {zn : List fD} (hk : k < gs.length) (hg : gs.getD k default = (gl, zn)) : V w0 w (Et gl zn • tZ gs • F) := by
  have := H.Nw hk
  rwa [hg] at this
end
theorem Tt {G : List (List gV)} {k : Nat} (hk : k < G.length) : G.take (k + 1) = G.take k ++ [G.getD k []] := by
  rw [List.take_succ_eq_append_getElem hk, List.getD_eq_getElem?_getD, List.getElem?_eq_getElem hk]
  rfl
theorem LJ {G : List (List gV)} {g : List gV} (h : g ∈ G) : g.length ≤ (G.map List.length).sum := by
  induction G with
  | nil => cases h
  | cons x G ih =>
    rw [List.map_cons, List.sum_cons]
    rcases List.mem_cons.1 h with rfl | h
    · omega
    · have := ih h; omega
theorem NM {es : List fD} {l : List gV} (h : es.map fD.says = l) (hl : ∀ e ∈ l, EB e) : ∀ k, k < es.length → EB (es.getD k default).says := fun k hk =>
  hl _ (by rw [← h]; exact List.mem_map_of_mem (yK hk))
section
variable {w0 w : World} {F : HP} {p : Nat} {G : List (List gV)} {N : List gV} {op : Int}
theorem Ic (H : V w0 w (iL p G N op • F)) : iU prog 53 #[.pointer (some ⟨p, 0, none⟩)] w fun v w' => ∃ q, v = .pointer (some ⟨q, 0, none⟩) ∧ V w0 w' (iL q G N op • iL p G N op • F) := by
 refine ji func53 ntmps53 ?_
 refine lZ O (aO (bM O (dZ O func95 (lu H) ?_)))
 rintro _ _ ⟨rfl, rfl⟩
 refine iT (vO (iq (aO ?_)))
 obtain ⟨Ac, xX, nU, mV, lI, uF, sQ, EK, EL, Ju, qg⟩ := (H).wB
 have hLn : mV.length ≤ 16384 := by omega
 have hBn := NM sQ lI.2.2.2.2.2
 refine aC (ny O O (aV (dG bC O sizeOf168 O O (qg).get.2) (jL (fE (l := [_, _, _, _, _]) qg zeroValue168 O) ?_)))
 rintro _ w3 ⟨b3, rfl, H3⟩
 refine aI (dh 0 (l' := [_, _, _, _, _]) (us := [_, _, _, _, _]) H3 sizeOf168 O O O (aZ (by first | rfl | exact Rd.one ((H3.f3).aP)) (aZ (by first | rfl | exact Rd.one ((H3.f5).aP)) (aF (aF (aF bK))))) O O) ?_
 rintro _ w4 H4
 refine sU O (dM O (bf 0 bC O dw O (bf 1 bF O bV O (dQ aU O (H4.f2).get.2 O (dZ O func96 (AO H4.f6.f6 hBn hLn) ?_)))))
 rintro u5 w5 ⟨fs5, Zv, H5⟩
 obtain ⟨es1, rfl⟩ : ∃ q, q = fs5 := ⟨_, rfl⟩
 have hes1 := Zv
 refine bf 0 bC O dw O (bf 0 bF O gW O (aI (Xz 0 H5.f5 gW) ?_))
 rintro _ w6 H6
 refine bf 0 bC O dw O (bf 1 bF O bV O (aI (fM 1 (l' := [_, _, _, _, _]) H6 bV O O (by first | rfl | exact Rd.one ((H6.f2).aP)) O O) ?_))
 rintro _ w7 H7
 refine qj (bM O (dM O (bf 0 bC O dw O (bf 0 bF O gW O (dQ bJ O (H7.f6).get.2 O (aV (iE ((H7.f7).aP) bJ O) (cZ O (iT (bn ?_)))))))))
 obtain ⟨YB, YC, aaS, -⟩ := ((H7.f7).aP).form
 subst aaS
 refine iR [(3, _), (25, _), (26, _)] (fun (k : Nat) => [(27, .int .i64 (k : Int))]) (fun (k : Nat) W => k ≤ nU.length ∧ ∃ gu, ∃ hs : List (Value × List fD), hs.map (fun g => g.2.map fD.says) = G.take k ∧ V w0 W (dR b3 (.cells #[gu, u5, .int .i64 op, .int .i64 (gI G N : Nat), .bool true] 168 (0, 0)) • Row 67 1 gu hs.length (hs.map (·.1)) • tZ hs • Row 124 3 u5 es1.length (es1.flatMap fD.enc) • nC es1 • dR p (.cells #[(.slice YB (nU.length) YC), xX, .int .i64 op, .int .i64 (gI G N : Nat), .bool true] 168 (0, 0)) • Row 67 1 (.slice YB (nU.length) YC) nU.length (nU.map (·.1)) • tZ nU • Row 124 3 xX mV.length (mV.flatMap fD.enc) • nC mV • F)) (fun (k : Nat) => nU.length - k) (0) Gf sJ ⟨by omega, _, [], O, ((H7.f5.f5.f8.f8.f8.f6.f8.f8).D5 none).Zk.f5⟩ ?_
 rintro k w9 ⟨hk, gu, hs, Tv, HL⟩
 dsimp only [List.cons_append, List.nil_append]
 refine jg (aV (fJ O O) (qj (bI O (fun h1 => ?_) (fun h1 => ?_))))
 ·(try simp only [aH] at h1)
  refine iq (aO (bn (jg ?_)))
  obtain ⟨ac7, ac8, rfl⟩ := Rd.pos ((HL.f7).aP) (by omega)
  refine aV (gU bJ bV O O (by omega)) ?_
  refine aV (jM (fK aU O) O (by first | exact Rd.GI ((HL.f7).aP) (by omega) | exact Rd.Xx ((HL.f7).aP) (by omega) | exact Rd.Xb ((HL.f7).aP) (by omega))) ?_
  have hkl : k < nU.length := by omega
  rw [show (nU.map (·.1)).getD k undef = (nU.getD k default).1 from by simp [List.getD_eq_getElem?_getD, hkl]]
  obtain ⟨gl, zn, hg⟩ : ∃ gl zn, nU.getD k default = (gl, zn) := ⟨_, _, rfl⟩
  rw [hg]
  have Zw := HL.f8
  have Zx := Zw.LH hkl hg
  have hge : zn.map fD.says = G.getD k [] := by
   rw [← uF]
   have h9 : (nU.map (fun g => g.2.map fD.says)).getD k [] = (nU.getD k default).2.map fD.says := by simp [List.getD_eq_getElem?_getD, hkl]
   rw [h9, hg]
  have hgm : G.getD k [] ∈ G := yK (by omega)
  have hBg := NM hge (lI.2.2.2.2.1 _ hgm)
  have hLg : zn.length ≤ 16384 := by
   have h8 := lI.2.1
   unfold gI at h8
   have h7 := congrArg List.length hge
   rw [List.length_map] at h7
   have h6 := LJ hgm
   omega
  have hhl := congrArg List.length Tv
  rw [List.length_map, List.length_take] at hhl
  refine gY O ?_
  have YD := Zx.drew
  have Ie := V.kp (YD.f11.f11.f11.f11.f11.f11.f11.f11.f11.f11.f11)
  refine xP [2] Ie O (fV 0 O Ie 0 bC O dw O (fV 1 O Ie 0 bF O gW O (jq 2 O Ie (fun W hW => jV bJ O ((Kp.h hW).f3).get.2 O) (jc 3 O Ie O (mP 4 O (wu O func96 (xZ YD hBg hLg)) ?_)))))
  rintro u12 w12 ⟨Vq, YA, wz⟩
  obtain ⟨es2, rfl⟩ : ∃ q, q = Vq := ⟨_, rfl⟩
  have hes2 := YA
  have Ht := V.kp (wz.f13.f13.f13.f13.f13.f13.f13.f13.f13.f13.f13.f13.f13)
  refine dK Ht (fun W hW => (Kp.h hW).right.right.f11.f11.f11.f11.f11.f11.f11.f11.f11.f11.f11) ?_
  refine mP 5 O (pO (vs := [_]) wz bJ bV zeroValue67 O O O (by decide) (aZ (by first | rfl | exact Rd.one ((wz).aP)) bK)) ?_
  rintro l13 O8 yY
  have Hu := V.kp (yY.f14.f14.f14.f14.f14.f14.f14.f14.f14.f14.f14.f14.f14.f14)
  refine dK Hu (fun W hW => (Kp.h hW).right.f13.f13.f13.f13.f13.f13.f13.f13.f13.f13.f13.f13.f13) ?_
  refine mP 6 O (iQ yY.f7 bJ NG O O O ((yY).aP) (aZ (by first | rfl | exact Rd.one ((yY.f2).aP)) bK) (by omega) (by omega)) ?_
  rintro l14 MK yu
  have Zy := yu.f2.right
  have Ce := V.kp (Zy.f13.f13.f13.f13.f13.f13.f13.f13.f13.f13.f13.f13.f13)
  refine iC Ce (by kernel_rfl) ?_
  refine fV 7 O Ce 0 bC O dw O (fV 8 O Ce 0 bF O gW O ?_)
  refine eF 9 O (by kernel_rfl) (fM 0 (l' := [_, _, _, _, _]) Zy.f6 gW O O (by first | rfl | exact Rd.one ((Zy).aP)) O O) ?_
  rintro _ w16 uO
  have D7 := V.kp (uO.f13.f13.f13.f13.f13.f13.f13.f13.f13.f13.f13.f13.f13)
  refine iC D7 (by kernel_rfl) ?_
  have X := V.xg (es := es2) (uO.f5.right.f12.f12.f7.f12.f12.f12.f12.f8.f12.f10.f12.f12).deep
  have HN := (V.yO X.swap).Zk.f3
  have hnew : (hs ++ [(u12, es2)]).map (fun g => g.2.map fD.says) = G.take (k + 1) := by rw [List.map_append, Tv, Tt (by omega), ← hge, ← hes2]; rfl
  refine qp (aN (bg (aC (aV (gX O O (by omega)) (cZ O (bY ?_))))))
  refine fG (k + 1) ?_ ?_ ?_ ?_
  ·exact sJ
  ·exact Gf
  ·(try dsimp only)
   first | done | exact ⟨by omega, _, _, hnew, HN⟩
  ·(try dsimp only); omega
 ·(try simp only [aH] at h1)
  refine iJ (aX (aX (dA (bg (lF O (fB results53 O ?_))))))
  rw [List.take_of_length_le (by omega)] at Tv
  have X := V.nG (gs := hs) (now := es1) lI Tv (hes1.trans sQ) rfl (HL.f10.f10.f10.f10.f10.f10.f10.f10.f10.f10)
  have Y := V.nG lI uF sQ rfl X.f6.f6.f6.f6.f6
  exact ⟨_, O, Y.swap⟩
end
end Go.Proofs.YtimndnfpcomhlaaGreatDoor
end
section
namespace Go.Proofs.YtimndnfpcomhlaaGreatDoor
open Go.RowKit
def Dj (G : List (List gV)) (N : List gV) : List (List gV) := (mW G N).reverse
def LK (N : List gV) : List (List gV) := if N = [] then [] else [N]
theorem Vr (N : List gV) : (LK N).length ≤ 1 := by unfold LK; split <;> simp
theorem XQ (G : List (List gV)) (N : List gV) : Dj G N = LK N ++ G.reverse := by
  unfold Dj LK mW; split <;> simp
end Go.Proofs.YtimndnfpcomhlaaGreatDoor
end
section
namespace Go.Proofs.YtimndnfpcomhlaaGreatDoor
open Go.RowKit
open _root_.Go.Proofs.Tryz
abbrev qE := ByteArray × Int
def kS (x : qE) : List Value := [.string x.1, .int .i64 x.2]
theorem wM (x : qE) : (kS x).length = 2 := rfl
def XR (x : qE) : Prop := x.1.size ≤ 16384 ∧ 0 ≤ x.2
def YE (hl : List qE) (base most : Int) : Prop := hl.length ≤ 4096 ∧ 1 ≤ base ∧ base ≤ 4611686018427387904 ∧ (hl.length : Int) ≤ most ∧ most ≤ 4096 ∧ ∀ x ∈ hl, XR x
def gK (p : Nat) (hl : List qE) (base most : Int) : HP := wR fun (v : Value) => fact (YE hl base most) • dR p (.cells #[v, .int .i64 base, .int .i64 most] 119 (0, 0)) • Row 152 2 v hl.length (hl.flatMap kS)
section
variable {P : Program} {L : List (Nat × Value)} {w0 w : World} {F : HP} {ty : TypeId} {p : Nat} {hl : List qE} {base most : Int} {v : Value}
theorem Ig {t e sz : Nat} {z : Value} (H : V w0 w F) (ht : P.underlying t = some (.slice e)) (hs : ∀ w, (sizeOf e).run P w = .ok sz w) (hz : ∀ w, (zeroValue e).run P w = .ok z w) :
    vP P L (.buildSlice t 0 #[]) ty w fun v w' => V w0 w' (Row e sz v 0 [] • F) := by
  refine um (v := .slice (some ⟨w.heap.size, 0, none⟩) 0 0) (w' := w.alloc (.cells #[] e)) ?_ ?_
  · intro ρ hρ d pos nY g
    simp only [execOp, Instr.buildSlice, Sem.run_bind, run_underlying ht, Result.andThen_ok, hs]
    have h0 : Array.map (fun (_ : Nat) => (default : Value)) (Array.range 0) = #[] := Array.eq_empty_of_size_eq_zero (by simp)
    simp [Instr.fill, newRow, h0]
  · exact (H.alloc _).right.jH _
theorem V.hist (H : V w0 w (gK p hl base most • F)) : ∃ v, YE hl base most ∧ V w0 w (dR p (.cells #[v, .int .i64 base, .int .i64 most] 119 (0, 0)) • Row 152 2 v hl.length (hl.flatMap kS) • F) := by
  obtain ⟨v, H⟩ := H.qP
  obtain ⟨h, H⟩ := H.flat.fact
  exact ⟨v, h, H.flat⟩
theorem V.BF (h : YE hl base most) (H : V w0 w (dR p (.cells #[v, .int .i64 base, .int .i64 most] 119 (0, 0)) • Row 152 2 v hl.length (hl.flatMap kS) • F)) : V w0 w (gK p hl base most • F) :=
  V.jQ v (V.deep (V.nH h H.deep))
theorem D8 {hl : List qE} : ∀ x ∈ hl.flatMap kS, x.oneCell' = true := by
  intro x hx
  obtain ⟨e, _, hx⟩ := List.mem_flatMap.1 hx
  simp [kS] at hx
  rcases hx with rfl | rfl <;> rfl
theorem XT : (prog.info? 152).map (fun i => (i.zero, i.size, i.bytes)) = some (some (.agg #[.string .empty, .int .i64 0]), 2, 24) := by kernel_rfl
theorem D9 (H : V w0 w F) (hr : Bl w0 F 2 v hl.length (hl.flatMap kS)) (hb : hl.length ≤ 1099511627776) :
    iU prog 88 #[v] w fun v' w' => V w0 w' (Row 152 2 v' hl.length (hl.flatMap kS) • F) := by
  obtain ⟨hlen, a, c, rfl, h1, h2, h3⟩ := hr w H
  refine ji func88 ntmps88 ?_
  refine lZ O (aO (bM O (aV (Aj bT O O) ?_)))
  refine kK O (fun h1 => ?_) (fun h1 => ?_)
  · (try simp only [aH] at h1)
    refine lF O (aK (fB results88 O ?_))
    obtain rfl : a = none := by simpa using h1
    obtain rfl : hl = [] := by
      cases hl with
      | nil => rfl
      | cons x l => obtain ⟨b, o, e, _⟩ := h3 (by simp); cases e
    exact H.jH none
  · (try simp only [aH] at h1)
    refine iq (jg (jL (Ig H bT jd nV) ?_))
    rintro _ w1 H1
    refine cZ O (jL (iQ H1 bT XT O O O (hr.under _ H1) D8 (by omega) (by omega)) ?_)
    rintro _ w2 H2
    refine iW O (fB results88 O ?_)
    exact H2.of_eq (by rw [Nat.zero_add, List.nil_append])
theorem yc (H : V w0 w (gK p hl base most • F)) : iU prog 83 #[.pointer (some ⟨p, 0, none⟩)] w fun v w' => v = .bool false ∧ w = w' := by
 refine ji func83 ntmps83 ?_
 refine lZ O (aO ?_)
 obtain ⟨LM, sS, vC⟩ := (H).hist
 refine aC (cZ O (aV (kV lC O O) (qC O (fun h1 => ?_) (fun h1 => ?_))))
 ·(try simp only [aH] at h1)
  exfalso; first | contradiction | omega
 ·(try simp only [aH] at h1)
  refine bU (cZ O (bU (dM O (bU (bf 0 fO O kD O (bU (bf 1 fP O jS O (bU (dQ jJ O (vC).get.2 O (bU (aV (ig O O) (lV O O (iW O (fB results83 O ?_))))))))))))))
  exact ⟨by rw [show (base == 0) = false from by rw [beq_eq_false_iff_ne]; have := sS.2.1; omega], O⟩
theorem zq {n : Int} (H : V w0 w F) (hn : 0 ≤ n ∧ n ≤ 4096) : iU prog 15 #[.int .i64 n] w fun v w' => ∃ p, v = .tuple #[.pointer (some ⟨p, 0, none⟩), .int .i64 0] ∧ V w0 w' (gK p [] 1 n • F) := by
  refine ji func15 ntmps15 ?_
  refine jg (lU O (tJ O (bM O (aV (fJ O O) (qC O (fun h1 => ?_) (fun h1 => ?_))))))
  · (try simp only [aH] at h1)
    exfalso; first | contradiction | omega
  · (try simp only [aH] at h1)
    refine bU (cZ O (bU (aV (fZ O O) (lV O O (kK O (fun h2 => ?_) (fun h2 => ?_))))))
    · (try simp only [aH] at h2)
      exfalso; first | contradiction | omega
    · (try simp only [aH] at h2)
      refine iq (bM O (aV (lQ (pl := #[(0, 1), (1, 1), (2, 1)]) (#[_, _, _]) fP zeroValue117 (fun w => by kernel_rfl) O (O)) (aV (lQ (pl := #[(0, 3)]) (#[_, _, _]) fO zeroValue119 (fun w => by kernel_rfl) O (O)) (jL (jG (l := [_, _, _]) H O O) ?_))))
      rintro _ w1 ⟨b1, rfl, H1⟩
      refine lU O (iW O (DL results15 O O ?_))
      exact ⟨_, O, V.BF (v := .slice none 0 0) ⟨by simp, by decide, by decide, by simp; omega, by omega, by simp⟩ ((H1.jH none).swap)⟩
theorem nN (H : V w0 w (gK p hl base most • F)) : iU prog 67 #[.pointer (some ⟨p, 0, none⟩)] w fun v w' => v = .int .i64 hl.length ∧ V w0 w' (gK p hl base most • F) := by
 refine ji func67 ntmps67 ?_
 refine lZ O (aO (bM O (dZ O func83 (yc H) ?_)))
 rintro _ _ ⟨rfl, rfl⟩
 refine iT (vO (iq (aO ?_)))
 obtain ⟨LM, sS, vC⟩ := (H).hist
 refine aC (ny O O (bf 0 fO O kD O (bf 0 fP O iZ O (dQ bT O (vC).get.2 O (aV (iE ((vC.f2).aP) bT O) (iW O (fB results67 O ?_)))))))
 have U8 := vC.f2.f2
 have U9 := V.BF sS U8
 exact ⟨O, U9⟩
theorem AP (H : V w0 w (gK p hl base most • F)) : iU prog 45 #[.pointer (some ⟨p, 0, none⟩)] w fun v w' => ∃ q, v = .pointer (some ⟨q, 0, none⟩) ∧ V w0 w' (gK q hl base most • gK p hl base most • F) := by
 refine ji func45 ntmps45 ?_
 refine lZ O (aO (bM O (dZ O func83 (yc H) ?_)))
 rintro _ _ ⟨rfl, rfl⟩
 refine iT (vO (iq (aO ?_)))
 obtain ⟨LM, sS, vC⟩ := (H).hist
 have hcl := sS.1
 have Aa := vC.drew
 have gG := V.kp (Aa.f2.f2)
 refine xP [4, 10, 15] gG O (jc 0 O gG O (kN 1 O gG O (fV 2 O gG 0 fO O kD O (fV 3 O gG 0 fP O iZ O (jq 4 O gG (fun W hW => jV bT O ((Kp.h hW)).get.2 O) (jc 6 O gG O (kN 7 O gG O (fV 8 O gG 0 fO O kD O (fV 9 O gG 1 fP O jS O (jq 10 O gG (fun W hW => jV jJ O ((Kp.h hW)).get.2 O) (jc 11 O gG O (kN 12 O gG O (fV 13 O gG 0 fO O kD O (fV 14 O gG 2 fP O aj O (jq 15 O gG (fun W hW => jV ay O ((Kp.h hW)).get.2 O) (mP 5 O (wu O func88 (D9 Aa (fun W HW => (HW.f2).aP) (by omega))) ?_))))))))))))))))
 rintro u3 w3 H3
 have wG := V.kp (H3.f3.f3.f3)
 refine dK wG (fun W hW => (Kp.h hW).right.f2.f2) ?_
 obtain ⟨au3, cu3, eu3, -⟩ := ((H3).aP).form
 subst eu3
 refine jW 16 O wG (fun _ => lQ (pl := #[(0, 1), (1, 1), (2, 1)]) (#[_, _, _]) fP zeroValue117 (fun w => by kernel_rfl) O (O)) (jW 17 O wG (fun _ => lQ (pl := #[(0, 3)]) (#[_, _, _]) fO zeroValue119 (fun w => by kernel_rfl) O (O)) (mP 18 O (jG (l := [_, _, _]) H3 O O) ?_))
 rintro _ w4 ⟨b4, rfl, H4⟩
 have kW := V.kp (H4.f4.f4.f4.f4)
 refine iC kW (by kernel_rfl) ?_
 refine jW 19 O kW (fun _ => iV O) (qp (bg (rV (fB results45 O ?_))))
 have XU := H4.f4.f4
 have XV := V.BF sS XU
 exact ⟨_, O, V.BF sS XV.f3.f3⟩
end
end Go.Proofs.YtimndnfpcomhlaaGreatDoor
end
section
namespace Go.Proofs.YtimndnfpcomhlaaGreatDoor
open Go.RowKit
def vF {β : Type} (f : Int → β) (a : Int) (v : β) : Int → β := fun x => if x = a then v else f x
theorem gZ {β : Type} (f : Int → β) (a : Int) (v : β) : vF f a v a = v := if_pos rfl
theorem vG {β : Type} (f : Int → β) {a x : Int} (v : β) (h : x ≠ a) : vF f a v x = f x := if_neg h
theorem Q7 {β : Type} (f : Int → β) (a : Int) : vF f a (f a) = f := by funext x; unfold vF; split <;> simp_all
structure pX where
  L : List Int
  pt : Int
  mark : Int
  E : List (List Int)
  at_ : Nat
  place : Int
  tx : Int → Option ByteArray
  un : Int → List (List gV)
  mode : Int
  over : Bool
  last : Int
  fr : Int
  to : Int
  res : Int
  run : Bool
structure aY where
  c : pX
  hl : List qE
  base : Int
  most : Int
  kE : Int
  given : Bool
  minus : Bool
  arg : Int
  inn : Bool
  was : pX
  cls : Int
  killed : Bool
  lW : Bool
  argues : Bool
  whole : Bool
  put : List gV
def Qc (hl : List qE) (k : Int) : qE := if 0 ≤ k ∧ k < hl.length then hl.getD k.toNat default else (.empty, 0)
def BG (hl : List qE) (k : Int) : ByteArray := (Qc hl k).1
def jT (hl : List qE) (tx : Int → Option ByteArray) (k : Int) : ByteArray := (tx k).getD (BG hl k)
def BH (hl : List qE) (tx : Int → Option ByteArray) (place : Int) (k : Nat) : Bool := decide ((k : Int) ≠ place) && !((jT hl tx k).toList == (BG hl k).toList)
def qG (hl : List qE) (tx : Int → Option ByteArray) (place : Int) (n : Nat) : List (Int × ByteArray) := ((List.range n).filter (BH hl tx place)).map fun (k : Nat) => ((k : Int), jT hl tx k)
def zu (hl : List qE) (tx : Int → Option ByteArray) (place : Int) : List (Int × ByteArray) := qG hl tx place hl.length ++ (if place ≠ hl.length then [((hl.length : Int), jT hl tx hl.length)] else [])
def qy (G : List (List gV)) (inn : Bool) (put : List gV) (typed run : Bool) : Int := (G.length : Int) + if inn && !put.isEmpty && !(typed && run) then 1 else 0
namespace aY
variable (s : aY)
def here : List (List gV) := s.c.un s.c.place
def kT (G : List (List gV)) : aY := { s with c := { s.c with un := vF s.c.un s.c.place G } }
def yP : Int := if s.inn then 0 else 1
def Ih : Int := if s.inn then 1 else 0
def bZ : aY := if s.inn then s else { s with inn := true, was := s.c, cls := 0, killed := false, lW := false, argues := false, whole := true, put := [] }
def jw (on : Bool) : List (List gV) := if s.put = [] then s.here else if on then (match s.here.getLast? with | some g => s.here.dropLast ++ [g ++ s.put] | none => [s.put]) else s.here ++ [s.put]
def cO (on : Bool) : aY := if s.put = [] then s else { s.kT (s.jw on) with put := [] }
def xC : aY := { s with given := false, minus := false, arg := -1 }
def Di (err : Int) : Int := if s.inn then err else 1
def zx : aY := { s.xC with inn := false, c := { s.was with last := 0, fr := 0, to := 0 }, kE := IntKind.i64.wrap (s.kE + 1), put := [] }
def typed : Bool := s.cls == 3 && s.whole
def je : aY := { (if s.argues then s else s.xC) with inn := false }
def ng : aY :=
  let t := s.je.cO (s.typed && s.c.run)
  let c := { t.c with run := s.typed && (!s.put.isEmpty || s.c.run), last := s.cls }
  { t with c := if s.cls ≠ 2 then { c with fr := 0, to := 0 } else c }
def jP (err : Int) : aY := if s.inn then (if err = 0 then s.ng else s.zx) else s
def nO (x : gV) : aY :=
  if x.2.1.length + x.2.2.length = 0 then s else
  if 16384 ≤ gI s.here s.put then { s.kT [] with put := [x], c := { (s.kT []).c with run := false } } else { s with put := s.put ++ [x] }
def lJ (L : List Int) (pt mk : Int) : aY := { s with c := { s.c with L := L, pt := pt, mark := mk } }
def mD (i j : Int) (l : List Int) : Int := if s.inn then kC s.c.L i j l else 1
def iw (i j : Int) (l : List Int) : aY := if s.inn then (s.lJ (kL s.c.L i j l) (qJ s.c.L s.c.pt i j l) (qZ s.c.L s.c.mark i j l)).nO (qK s.c.L i j l, lg s.c.L i j l, lq s.c.L i j l) else s
def Qd (l : List Int) : Int := s.mD s.c.pt s.c.pt l
def BQ (l : List Int) : aY := s.iw s.c.pt s.c.pt l
def kX (l : List Int) : Int := if s.c.over then min (s.c.pt + l.length) s.c.L.length else s.c.pt
def Ea (l : List Int) : Int := s.mD s.c.pt (s.kX l) l
def mX (l : List Int) : aY := if s.inn then (let t := s.iw s.c.pt (s.kX l) l; if s.Ea l = 0 ∧ s.cls = 0 then { t with cls := 3 } else t) else s
def way (back : Bool) : Int := if s.c.last = 1 ∨ s.killed = true then (if back then 2 else 1) else 0
def pY (i j : Int) : Prop := i < 0 ∨ s.c.L.length < i ∨ j < i ∨ s.c.L.length < j
instance (i j : Int) : Decidable (s.pY i j) := by unfold pY; infer_instance
def cut (i j : Int) : List Int := (s.c.L.drop i.toNat).take (j.toNat - i.toNat)
def ru (i j : Int) (back : Bool) : Int × List (List Int) × Nat := yH s.c.E s.c.at_ (s.way back) (s.cut i j)
def qM (i j : Int) (back : Bool) : Int := if s.inn then (if s.pY i j then 70 else (s.ru i j back).1) else 1
def Gm (E : List (List Int)) (a : Nat) : aY := { s with c := { s.c with E := E, at_ := a } }
def qN (i j : Int) (back : Bool) : aY := if s.qM i j back = 0 then { s.Gm (s.ru i j back).2.1 (s.ru i j back).2.2 with killed := true, cls := 1 } else s
def Vs (i j : Int) (back : Bool) : Int := if s.qM i j back = 0 then (s.qN i j back).mD i j [] else s.qM i j back
def wC (i j : Int) (back : Bool) : aY := if s.qM i j back = 0 then (s.qN i j back).iw i j [] else s
def top : List Int := s.c.E.getD s.c.at_ []
def Ii : Int := if s.inn then (if s.c.E.length = 0 then 6 else s.Qd s.top) else 1
def xE : aY :=
  if s.Ii = 0 then
    let t := s.BQ s.top
    { t with lW := true, cls := 2, c := { t.c with mark := Zi t.c.L t.c.mark s.c.pt, fr := s.c.pt, to := s.c.pt + s.top.length } }
  else s
def AQ (n : Int) : List Int := s.c.E.getD (yI s.c.E.length s.c.at_ n) []
def Ij (n : Int) : Int := if s.inn then (if s.c.last ≠ 2 ∨ s.lW = true then 6 else if s.c.E.length = 0 then 6 else s.mD s.c.fr s.c.to (s.AQ n)) else 1
def Ad (n : Int) : aY :=
  if s.Ij n = 0 then
    let t := s.iw s.c.fr s.c.to (s.AQ n)
    { t with lW := true, cls := 2, c := { t.c with E := s.c.E, at_ := yI s.c.E.length s.c.at_ n, fr := s.c.fr, to := s.c.fr + (s.AQ n).length } }
  else s
def kills : List (List Int) := s.c.E.drop s.c.at_ ++ s.c.E.take s.c.at_
def Q8 (x : Int) : Int := if s.inn then mvE s.c.L.length x else 1
def yQ (x : Int) : aY := if s.inn then s.lJ s.c.L (Yx s.c.L.length s.c.pt x) s.c.mark else s
def Q9 (x : Int) : Int := if s.inn then smE s.c.L x else 1
def Ci (x : Int) : aY := if s.inn then s.lJ s.c.L s.c.pt (Zi s.c.L s.c.mark x) else s
def Rf : Int := if s.inn then swE s.c.mark else 1
def Cj : aY := if s.inn then s.lJ s.c.L (swP s.c.pt s.c.mark) (swM s.c.pt s.c.mark) else s
def Zz (b : List Int × Int × Int) (x : gV) : List Int × Int × Int := (zf b.1 x.1 x.2.1 x.2.2, PV b.1 b.2.1 x.1 x.2.1 x.2.2, PW b.1 b.2.2 x.1 x.2.1 x.2.2)
def apps (b : List Int × Int × Int) (l : List gV) : List Int × Int × Int := l.foldl Zz b
def Ik (l : List gV) : aY := let b := apps (s.c.L, s.c.pt, s.c.mark) l; s.lJ b.1 b.2.1 b.2.2
def zy : aY := { s with whole := false, c := { s.c with run := false } }
def oU : aY := if s.inn then (let t := s.cO false; if t.here = [] then t else ((t.kT t.here.dropLast).Ik ((t.here.getLastD []).reverse.map vV)).zy) else s
def uo : Int := if s.inn then (if (s.cO false).here = [] then 6 else 0) else 1
def aaT : aY := if s.inn then (let t := s.cO false; if t.here = [] then t else ((t.kT []).Ik (t.here.flatten.reverse.map vV)).zy) else s
def ZA (d : Int) : Int := if s.inn then (if d < 0 ∨ 9 < d then 1 else 0) else 1
def abO (d : Int) : aY := if s.ZA d = 0 then { s with given := true, argues := true, arg := min (max s.arg 0 * 10 + d) 1000000 } else s
def adq : aY := if s.inn then { s with given := true, argues := true, minus := !s.minus } else s
def abP (n : Int) : Int := if s.inn then (if 1000000 < n ∨ n < -1000000 then 1 else 0) else 1
def adr (n : Int) : aY := if s.abP n = 0 then { s with given := true, argues := true, minus := decide (n < 0), arg := max n (-n) } else s
def count : Int := if s.given then (let n := if s.arg < 0 then 1 else s.arg; if s.minus then -n else n) else 1
def AU (m : Int) : Int := if s.inn then (if m < 0 ∨ 2 < m then 1 else 0) else 1
def AV (m : Int) : aY := if s.AU m = 0 then { s with c := { s.c with mode := m } } else s
def ac9 (b : Bool) : aY := if s.inn then { s with c := { s.c with over := b } } else s
def abQ (r : Int) : Int := if s.inn then (if r < 1 ∨ 3 < r then 1 else 0) else 1
def ads (r : Int) : aY := if s.abQ r = 0 then { s with c := { s.c with res := r } } else s
def first (k : Int) : ByteArray := BG s.hl k
def stands (k : Int) : ByteArray := (s.c.tx k).getD (s.first k)
def yg : Int := qy s.here s.inn s.put s.typed s.c.run
def saved : List (Int × ByteArray) := zu s.hl s.c.tx s.c.place
def Fj : Int := if s.inn then s.was.last else s.c.last
def frS : Int := if s.inn then s.was.fr else s.c.fr
def toS : Int := if s.inn then s.was.to else s.c.to
end aY
def pX.fresh (l : List Int) (E : List (List Int)) (a : Nat) (place mode : Int) : pX := ⟨l, l.length, -1, E, a, place, fun _ => none, fun _ => [], mode, false, 0, 0, 0, 0, false⟩
def aY.start (s : aY) (hl : List qE) (base most : Int) (l : List Int) : aY := { s with c := pX.fresh l s.c.E s.c.at_ hl.length s.c.mode, hl := hl, base := base, most := most, given := false, minus := false, arg := -1 }
def aY.new (hl : List qE) (base most : Int) : aY :=
  let c := pX.fresh [] [] 0 hl.length 0
  { c := c, hl := hl, base := base, most := most, kE := 0, given := false, minus := false, arg := -1, inn := false, was := c, cls := 0, killed := false, lW := false, argues := false, whole := false, put := [] }
end Go.Proofs.YtimndnfpcomhlaaGreatDoor
end
