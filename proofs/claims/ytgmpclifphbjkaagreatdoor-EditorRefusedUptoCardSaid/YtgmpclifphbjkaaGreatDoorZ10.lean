import Derived.Test.YtgmpclifphbjkaaGreatDoorZ2
import Derived.Test.YtgmpclifphbjkaaGreatDoorZ9
import Derived.Test.YtgmpclifphbjkaaGreatDoorZ7
import Derived.Test.YtgmpclifphbjkaaGreatDoorZ8
set_option linter.unusedSimpArgs false
set_option linter.unusedVariables false
/- Texts of mine, joined, their names in short: UList4 UList5 UList6 UList7 Grp0 Hist EdM. -/
section
namespace Go.Proofs.YtgmpclifphbjkaaGreatDoor
open Go.RowKit
open _root_.Go.Proofs.Tryz
def pW (G : List (List eH)) (N : List eH) : Int := if G.length + N.length = 0 then 6 else 0
def OD (G : List (List eH)) (N : List eH) : List (List eH) := if G.length + N.length = 0 then G else (jL G N).dropLast
def OE (G : List (List eH)) (N : List eH) : List eH := if G.length + N.length = 0 then N else []
def OG (G : List (List eH)) (N : List eH) (op : Int) : Int := if G.length + N.length = 0 then op else 0
def OH (G : List (List eH)) (N : List eH) : List eH := if G.length + N.length = 0 then [] else ((jL G N).getLastD []).reverse.map rJ
theorem Hg {G : List (List eH)} {g N : List eH} : dX (G ++ [g]) N = dX G N + g.length := by simp [dX]; omega
section
variable {w0 w : World} {F : HP} {p : Nat} {G : List (List eH)} {N : List eH} {op : Int} {gv nv v : Value} {gs : List (Value × List dH)} {now es : List dH} {a : Int} {d z : Value} {dl il : List Int}
theorem Nw (h : ¬ G.length + N.length = 0) : jL G N ≠ [] := by
  unfold jL; split
  · rename_i hN; rintro rfl; subst hN; exact h rfl
  · simp
theorem aB.Ny (H : aB w0 w (fH p G [] op • F)) (hG : G ≠ []) : ∃ gv nv hs gl wI, G = hs.map (fun g => g.2.map dH.says) ++ [wI.map dH.says] ∧ Vm G [] op ∧ G.length = hs.length + 1 ∧ hs.length ≤ 16384 ∧ wI.length ≤ 16384 ∧ (∀ k, k < wI.length → EB (wI.getD k default).says) ∧
    aB w0 w (dA p (.cells #[gv, nv, .int .i64 op, .int .i64 (dX G [] : Nat), .bool true] 171 (0, 0)) • Row 64 1 gv (hs.length + 1) (hs.map (·.1) ++ [gl]) • pJ hs • BG gl wI • Gl nv [] • F) := by
  obtain ⟨gv, nv, gs, now, h1, h2, h3, h4, h5, h6, H⟩ := H.rW
  obtain rfl : now = [] := List.eq_nil_of_length_eq_zero (by simpa using h5)
  rcases List.eq_nil_or_concat gs with rfl | ⟨hs, ⟨gl, wI⟩, rfl⟩
  · exact absurd h2.symm hG
  · have hG2 : G = hs.map (fun g => g.2.map dH.says) ++ [wI.map dH.says] := by rw [← h2]; simp
    have hle : wI.length ≤ 16384 := by
      have := h1.2.1
      rw [hG2, Hg] at this
      simp at this
      omega
    refine ⟨gv, nv, hs, gl, wI, hG2, h1, ?_, ?_, hle, fun k hk => ?_, ?_⟩
    · rw [hG2]; simp
    · rw [hG2] at h6; simp at h6; omega
    · refine h1.2.2.2.2.1 (wI.map dH.says) (by rw [hG2]; simp) _ ?_
      rw [List.getD_eq_getElem?_getD, List.getElem?_eq_getElem hk]
      exact List.mem_map_of_mem (List.getElem_mem hk)
    · rw [List.concat_eq_append, List.length_append, List.map_append] at H
      have H1 := (H.f3.Ko (k := hs.length) (by simp)).swap
      rw [show (hs ++ [(gl, wI)]).getD hs.length default = (gl, wI) from by simp [List.getD_eq_getElem?_getD]] at H1
      have H2 := H1.Si hs.length
      rw [List.take_left' rfl] at H2
      exact H2.of_eq (by unfold Gl; ac_rfl)
theorem uP (H : aB w0 w (fH p G N op • F)) : fQ prog 58 #[.pointer (some ⟨p, 0, none⟩)] w fun v w' => ∃ u, ∃ fs : List dH, v = .tuple #[u, .int .i64 (pW G N)] ∧ fs.map dH.says = OH G N ∧
  aB w0 w' (Row 120 3 u fs.length (fs.flatMap dH.enc) • jT fs • fH p (OD G N) (OE G N) (OG G N op) • F) := by
 unfold pW OH OD OE OG
 refine gX func58 ntmps58 ?_
 dsimp only [bg, Nat.reduceAdd]
 refine ay (ah (aV rfl (aV rfl (aA (aj (ay (ay (ah (aO rfl (dw rfl func127 (ji H) ?_))))))))))
 rintro _ _ ⟨rfl, rfl⟩
 refine aA (aj (qN (aS (aj (ay (ay ?_))))))
 obtain ⟨xI, uO, kF, jJ, jl, qp, oO, BU, BX, Gm, lX⟩ := (H).rW
 have xH := lX.drew
 have dU := aB.kp (xH.f5.f5.f5.f5.f5)
 refine uH [4, 10] dU rfl (fU 0 rfl dU rfl (iT 1 rfl dU rfl (dP 2 rfl dU 0 underlying171 rfl sizeOf169 rfl (dP 3 rfl dU 0 underlying169 rfl sizeOf167 rfl (gQ 4 rfl dU (fun W hW => iI underlying167 rfl ((Kp.h hW)).get.2 rfl) (iJ 5 rfl dU (fun _ => fB ((xH.f2).aT) underlying167 rfl) (fU 6 rfl dU rfl (iT 7 rfl dU rfl (dP 8 rfl dU 0 underlying171 rfl sizeOf169 rfl (dP 9 rfl dU 1 underlying169 rfl sizeOf64 rfl (gQ 10 rfl dU (fun W hW => iI underlying64 rfl ((Kp.h hW)).get.2 rfl) (iJ 11 rfl dU (fun _ => fB ((xH.f4).aT) underlying64 rfl) (iJ 12 rfl dU (fun _ => eP rfl rfl (by omega)) (iJ 13 rfl dU (fun _ => dW rfl rfl) (mg (aj (aH rfl (fun h1 => ?_) (fun h1 => ?_))))))))))))))))))
 ·(try simp only [aG] at h1)
  have hGN : G.length + N.length = 0 := by omega
  have Sj := xH.f5.f5.f5.f5.f5
  have Sl := aB.jV jl qp oO rfl Sj
  refine ay (ah (aV rfl (aV rfl (aA (aj (aJ (aK (fC (.inl rfl) results58 rfl rfl ?_))))))))
  simp only [if_pos hGN]
  exact ⟨_, [], rfl, rfl, ((Sl).qL none).YA⟩
 ·(try simp only [aG] at h1)
  have hGN : ¬ G.length + N.length = 0 := by omega
  have Xv := xH.f5.f5.f5.f5.f5
  have Xw := aB.jV jl qp oO rfl Xv
  refine aS (aj (ay (ah (aO rfl (dw rfl func128 (yu Xw) ?_)))))
  rintro _ w9 H9
  refine aA (aj (ay ?_))
  obtain ⟨gv, nv, hs, gl, wI, hG, hok, hl1, hl2, hl3, hEB, HU⟩ := (H9).Ny (Nw hGN)
  have htot := hok.2.1
  refine ah (aO rfl (bH rfl (aZ 0 underlying171 rfl sizeOf169 rfl (aZ 0 underlying169 rfl sizeOf167 rfl (cO underlying167 rfl (HU).get.2 rfl (aU (fB ((HU.f2).aT) underlying167 rfl) (aU (jB rfl rfl (by omega)) (aV rfl (aA (aj (ay (ah (aO rfl (bH rfl (aZ 0 underlying171 rfl sizeOf169 rfl (aZ 0 underlying169 rfl sizeOf167 rfl (cO underlying167 rfl (HU).get.2 rfl (aO rfl ?_))))))))))))))))))
  obtain ⟨bgv, ogv, cgv, egv⟩ := Rd.rG ((HU.f2).aT) (by omega)
  cases egv
  refine aU (eF underlying167 sizeOf64 rfl rfl (by omega)) ?_
  refine aU (iC (dM underlying64 rfl) rfl (by first | exact Rd.Ee ((HU.f2).aT) (by omega) | exact Rd.U9 ((HU.f2).aT) (by omega) | exact Rd.UM ((HU.f2).aT) (by omega))) ?_
  rw [show (hs.map (·.1) ++ [gl]).getD ((((hs.length + 1 : Nat)) : Int) - 1).toNat undef = gl from by rw [show ((((hs.length + 1 : Nat)) : Int) - 1).toNat = hs.length from by omega]; simp [List.getD_eq_getElem?_getD]]
  refine aV rfl (aA (aj (ay (ah (aO rfl (aO rfl (bH rfl (aZ 0 underlying171 rfl sizeOf169 rfl (aZ 0 underlying169 rfl sizeOf167 rfl (cO underlying167 rfl (HU).get.2 rfl (aO rfl (aU (vk ((HU.f2).aT) underlying167 sizeOf64 rfl rfl rfl (by omega)) (bH rfl (aZ 0 underlying171 rfl sizeOf169 rfl (aZ 0 underlying169 rfl sizeOf167 rfl (aI (aN 0 (l' := [_, _, _, _, _]) HU sizeOf167 rfl rfl (by first | rfl | exact Rd.one (Rd.Y6 ((HU.f2).aT) (by omega))) rfl rfl) ?_))))))))))))))))
  rintro _ w10 oP
  refine aA (aj (ay (ah (aO rfl (bH rfl (aZ 0 underlying171 rfl sizeOf169 rfl (aZ 3 underlying169 rfl sizeOf3 rfl (cO underlying3 rfl (oP).get.2 rfl (aO rfl (aU (fB ((oP.f4).zT) underlying64 rfl) (aU (jB rfl rfl (by omega)) (bH rfl (aZ 0 underlying171 rfl sizeOf169 rfl (aZ 3 underlying169 rfl sizeOf3 rfl (aI (aN 3 (l' := [_, _, _, _, _]) oP sizeOf3 rfl rfl (by first | rfl | assumption) rfl rfl) ?_)))))))))))))))
  rintro _ FT uV
  refine aA (aj (ay (ah (aO rfl (dw rfl func129 (AY uV.f4 hEB hl3) ?_)))))
  rintro YH w12 ⟨SQ, Wh, rV⟩
  refine aV rfl (aV rfl (aA (aj (aJ (fC (.inl rfl) results58 rfl rfl ?_)))))
  simp only [if_neg hGN]
  have hdl : (jL G N).dropLast = hs.map (fun g => g.2.map dH.says) := by rw [hG]; simp
  have hlast : (jL G N).getLastD [] = wI.map dH.says := by rw [hG]; simp
  have hX := (rV.f3.right.f6.f6.f5.f5.f5.f6).Q9 (h := hs.length) (by omega)
  rw [hdl, hlast]
  rw [Nat.mul_one, List.take_left' (by simp), show (((hs.length + 1 : Nat) : Int) - 1).toNat = hs.length from by omega, show Int.toNat 0 = 0 from rfl] at hX
  have hT : dX (jL G N) [] = dX (hs.map (fun g => g.2.map dH.says)) [] + wI.length := by rw [hG, Hg, List.length_map]
  have hok2 : Vm (hs.map (fun g => g.2.map dH.says)) [] 0 := ⟨fun g hg => hok.1 g (by rw [hG]; exact List.mem_append_left _ hg), by omega, by decide, by decide, fun g hg => hok.2.2.2.2.1 g (by rw [hG]; exact List.mem_append_left _ hg), by simp⟩
  refine ⟨_, _, rfl, (by assumption), ?_⟩
  have hU := aB.qW (gv := ny 1 0 hs.length (.slice (some ⟨bgv, ogv, none⟩) (hs.length + 1) cgv)) (nv := nv) (gs := hs) (now := []) (ed := (dX (jL G N) [] : Nat) - (wI.length : Int)) (F := Row 120 3 YH SQ.length (SQ.flatMap dH.enc) • jT SQ • F) hok2 rfl rfl (by omega) (hX.of_eq (by unfold AV; ac_rfl))
  exact hU.of_eq (by ac_rfl)
end
end Go.Proofs.YtgmpclifphbjkaaGreatDoor
end
section
namespace Go.Proofs.YtgmpclifphbjkaaGreatDoor
open Go.RowKit
open _root_.Go.Proofs.Tryz
def zU (op : Int) : Int := if op = 0 then 1 else 0
def Xx (G : List (List eH)) (N : List eH) (op : Int) : List (List eH) := if op = 1 then jL G N else G
def Xy (N : List eH) (op : Int) : List eH := if op = 1 then [] else N
def Vo (op : Int) : Int := if op = 0 then 0 else op - 1
theorem Qh {es : List dH} {k : Nat} (hk : k < es.length) : (es.take (k + 1)).map dH.says = (es.take k).map dH.says ++ [(es.getD k default).says] := by
  rw [List.take_succ_eq_append_getElem hk, List.map_append, List.getD_eq_getElem?_getD, List.getElem?_eq_getElem hk]
  rfl
section
variable {w0 w : World} {F : HP} {p : Nat} {G : List (List eH)} {N : List eH} {op : Int} {gv nv v : Value} {gs : List (Value × List dH)} {now es : List dH} {a : Int} {d z : Value} {dl il : List Int}
theorem wJ (H : aB w0 w (fH p G N op • F)) : fQ prog 123 #[.pointer (some ⟨p, 0, none⟩)] w fun v w' => v = .int .i64 (zU op) ∧ aB w0 w' (fH p (Xx G N op) (Xy N op) (Vo op) • F) := by
 unfold zU Xx Xy Vo
 refine gX func123 ntmps123 ?_
 dsimp only [bg, Nat.reduceAdd]
 refine ay (ah (aV rfl (aA (aj (ay (ay (ah (aO rfl (dw rfl func127 (ji H) ?_)))))))))
 rintro _ _ ⟨rfl, rfl⟩
 refine aA (aj (qN (aS (aj (ay (ay ?_))))))
 obtain ⟨xI, uO, kF, jJ, jl, qp, oO, BU, BX, Gm, lX⟩ := (H).rW
 have hop := jl.2.2.1
 have hop2 := jl.2.2.2.1
 refine ah (aO rfl (bH rfl (aZ 0 underlying171 rfl sizeOf169 rfl (aZ 2 underlying169 rfl sizeOf3 rfl (cO underlying3 rfl (lX).get.2 rfl (aU (dW rfl rfl) (aA (aj (aH rfl (fun h1 => ?_) (fun h1 => ?_))))))))))
 ·(try simp only [aG] at h1)
  have h0 : op = 0 := by omega
  refine ay (ah (aV rfl (aA (aj (aJ (aK (aP (.inl rfl) results123 rfl ?_)))))))
  have Sj := lX.f5.f5.f5.f5.f5
  have Sl := aB.jV jl qp oO rfl Sj
  subst h0
  exact ⟨rfl, Sl⟩
 ·(try simp only [aG] at h1)
  have h0 : ¬ op = 0 := by omega
  refine aS (aj (ay (ay (ah (aO rfl (bH rfl (aZ 0 underlying171 rfl sizeOf169 rfl (aZ 2 underlying169 rfl sizeOf3 rfl (cO underlying3 rfl (lX).get.2 rfl (aU (jB rfl rfl (by omega)) (bH rfl (aZ 0 underlying171 rfl sizeOf169 rfl (aZ 2 underlying169 rfl sizeOf3 rfl (aI (aN 2 (l' := [_, _, _, _, _]) lX sizeOf3 rfl rfl (by first | rfl | assumption) rfl rfl) ?_))))))))))))))
  rintro _ w6 H6
  refine aA (aj (ay (ah (aO rfl (bH rfl (aZ 0 underlying171 rfl sizeOf169 rfl (aZ 2 underlying169 rfl sizeOf3 rfl (cO underlying3 rfl (H6).get.2 rfl (aU (dW rfl rfl) (aA (aj (aH rfl (fun h2 => ?_) (fun h2 => ?_)))))))))))))
  ·(try simp only [aG] at h2)
   have h1 : op = 1 := by omega
   have Xv := H6.f5.f5.f5.f5.f5
   have Xw := aB.jV (op := op - 1) ⟨jl.1, jl.2.1, by omega, by omega, jl.2.2.2.2⟩ qp oO rfl Xv
   refine ah (aO rfl (dw rfl func128 (yu Xw) ?_))
   rintro _ w9 H9
   refine aA (aj (ay (ah (aV rfl (aA (aj (aJ (aP (.inl rfl) results123 rfl ?_))))))))
   subst h1
   exact ⟨rfl, H9⟩
  ·(try simp only [aG] at h2)
   have h1 : ¬ op = 1 := by omega
   refine aS (aj (ay (ah (aV rfl (aA (aj (aJ (aP (.inl rfl) results123 rfl ?_))))))))
   rw [if_neg h0, if_neg h1, if_neg h1, if_neg h0]
   exact ⟨rfl, aB.jV ⟨jl.1, jl.2.1, by omega, by omega, jl.2.2.2.2⟩ qp oO rfl H6.f5.f5.f5.f5.f5⟩
theorem EJ (H : aB w0 w F) (hv : yM w0 F 3 v es.length (es.flatMap dH.enc)) (he : ∀ k, k < es.length → iU w0 F .i32 (es.getD k default).d (es.getD k default).dl ∧ iU w0 F .i32 (es.getD k default).i (es.getD k default).il)
  (hB : ∀ k, k < es.length → EB (es.getD k default).says) (hL : es.length ≤ 16384) :
  fQ prog 164 #[v] w fun v' w' => ∃ fs : List dH, fs.map dH.says = es.map dH.says ∧ aB w0 w' (Row 120 3 v' fs.length (fs.flatMap dH.enc) • jT fs • F) := by
 refine gX func164 ntmps164 ?_
 dsimp only [bg, Nat.reduceAdd]
 refine ay (ah (aV rfl (aA (aj (ay (ah (aV rfl (aA (aj (ay (ay (ah (aO rfl (aU (fB (hv _ (H)) underlying64 rfl) (aO rfl (aA (aj (bf ?_))))))))))))))))))
 refine fM [(6, _), (7, _)] (fun (⟨k, u⟩ : Nat × Value) => [(3, u), (8, .int .i64 (k : Int))]) (fun (⟨k, u⟩ : Nat × Value) W => k ≤ es.length ∧ ∃ fs : List dH, fs.map dH.says = (es.take k).map dH.says ∧ aB w0 W (Row 120 3 u fs.length (fs.flatMap dH.enc) • jT fs • F)) (fun (⟨k, u⟩ : Nat × Value) => es.length - k) ((0, .slice none 0 0)) (Sub.cons rfl (Sub.cons rfl (Sub.nil _))) (Sub.cons rfl (Sub.cons rfl (Sub.nil _))) ⟨by omega, [], rfl, (H.qL none).YA⟩ ?_
 rintro ⟨k, u⟩ w1 ⟨hk, fs, hfs, HL⟩
 dsimp only [List.cons_append, List.nil_append]
 refine ay (ah (aU (dL rfl rfl) (aA (aj (ay (aH rfl (fun h1 => ?_) (fun h1 => ?_)))))))
 ·(try simp only [aG] at h1)
  try (exfalso; first | contradiction | omega)
  all_goals
   refine aS (aj (ay (bf (ay (ah ?_)))))
   obtain ⟨bv, ov, cv, ev⟩ := Rd.rG (hv _ (HL.right.right)) (by omega)
   cases ev
   refine aU (eF underlying64 sizeOf120 rfl rfl (by omega)) (aU (gY (ys := [_, _, _]) (hv _ (HL.right.right)) (by omega) underlying120 rfl sizeOf120 rfl (iQ dH.pI (by omega) default) rfl) ?_)
   have hkl : k < es.length := by omega
   obtain ⟨f1, f2⟩ := he k hkl
   obtain ⟨hb1, hb2⟩ := hB k hkl
   have hb1 : (es.getD k default).dl.length ≤ 35184372087808 := hb1
   have hb2 : (es.getD k default).il.length ≤ 35184372087808 := hb2
   have hfl : fs.length = k := by have h9 := congrArg List.length hfs; simp at h9; omega
   refine iy (dI (l := [_, _, _]) HL zeroValue120 rfl) ?_
   rintro _ w2 ⟨b2, rfl, H2⟩
   refine aI (bJ 0 (l' := [_, _, _]) (us := [_, _, _]) H2 sizeOf120 rfl rfl rfl (aC (by first | rfl | assumption) (aC (by first | rfl | exact Rd.one (f1 _ (H2.right.right.right))) (aC (by first | rfl | exact Rd.one (f2 _ (H2.right.right.right))) bn))) rfl rfl) ?_
   rintro _ w3 H3
   refine aA (aj (ah (aO rfl (aU (bU underlying120 rfl sizeOf120 rfl rfl (H3).get.2) (dw rfl func170 (sD H3 (fun W HW => f1 _ (HW.right.right.right)) (fun W HW => f2 _ (HW.right.right.right)) (by omega) (by omega)) ?_)))))
   rintro _ w4 ⟨d4, s4, rfl, H4⟩
   refine iy (oL H4 underlying64 sizeOf120 zeroValue120 rfl rfl rfl (by decide) (by decide)) ?_
   rintro l5 w5 H5
   refine iy (fK H5.f5 underlying64 (show (prog.info? 120).map (fun i => (i.zero, i.size, i.bytes)) = some (some (.agg #[.int .i64 0, .slice none 0 0, .slice none 0 0]), 3, 56) by kernel_rfl) rfl rfl rfl ((H5).aT) (aC (by first | rfl | assumption) (aC (by first | rfl | exact Rd.one ((H5.f2).aT)) (aC (by first | rfl | exact Rd.one ((H5.f3).aT)) bn))) (by omega) (by omega)) ?_
   rintro l6 w6 H6
   have Hd7 := H6.f2.right
   refine aV rfl (aA (aQ (aj (ah (aU (eP rfl rfl (by omega)) (aO rfl (aA ?_)))))))
   refine dK ((k + 1, l6)) ?_ ?_ ?_ ?_
   ·exact (Sub.cons rfl (Sub.cons rfl (Sub.nil _)))
   ·exact (Sub.cons rfl (Sub.cons rfl (Sub.nil _)))
   ·(try dsimp only)
    first | done | exact ⟨by omega, _, by rw [List.map_append, hfs, Qh (by omega)]; rfl, (aB.vP (Hd7.f4.right.f4.f2.f4.f4).kT.swap.kT.swap.f3).YA⟩
   ·(try dsimp only); omega
 ·(try simp only [aG] at h1)
  try (exfalso; first | contradiction | omega)
  all_goals
   refine fG (aX (aX (bM (aj (ay (ah (aO rfl (aV rfl (aA (aj (aJ (aP (.inl rfl) results164 rfl ?_))))))))))))
   rw [List.take_of_length_le (by omega)] at hfs
   exact ⟨_, hfs, HL.f2.f2⟩
theorem aB.jQ {es : List dH} (H : aB w0 w (jT es • F)) {k : Nat} (hk : k < es.length) : jG w .i32 (es.getD k default).d (es.getD k default).dl ∧ jG w .i32 (es.getD k default).i (es.getD k default).il := let ⟨I, h, hI⟩ := H.uf; ⟨(h k hk).1.rd hI, (h k hk).2.rd hI⟩
theorem yw (H : aB w0 w (Row 120 3 v es.length (es.flatMap dH.enc) • jT es • F)) (hB : ∀ k, k < es.length → EB (es.getD k default).says) (hL : es.length ≤ 16384) :
    fQ prog 164 #[v] w fun v' w' => ∃ fs : List dH, fs.map dH.says = es.map dH.says ∧ aB w0 w' (Row 120 3 v' fs.length (fs.flatMap dH.enc) • jT fs • Row 120 3 v es.length (es.flatMap dH.enc) • jT es • F) :=
  EJ H (fun W HW => HW.aT) (fun k hk => ⟨fun W HW => (HW.right.jQ hk).1, fun W HW => (HW.right.jQ hk).2⟩) hB hL
theorem uQ (H : aB w0 w (BG v es • F)) (hB : ∀ k, k < es.length → EB (es.getD k default).says) (hL : es.length ≤ 16384) :
    fQ prog 164 #[v] w fun v' w' => ∃ fs : List dH, fs.map dH.says = es.map dH.says ∧ aB w0 w' (Row 120 3 v' fs.length (fs.flatMap dH.enc) • jT fs • BG v es • F) :=
  EJ H (fun W HW => HW.zT) (fun k hk => ⟨fun W HW => HW.Y9 hk, fun W HW => HW.Za hk⟩) hB hL
end
end Go.Proofs.YtgmpclifphbjkaaGreatDoor
end
section
namespace Go.Proofs.YtgmpclifphbjkaaGreatDoor
open Go.RowKit
open _root_.Go.Proofs.Tryz
def aca (G : List (List eH)) (N : List eH) : List eH := (jL G N).flatten.reverse.map rJ
section
variable {w0 w : World} {F : HP} {p : Nat} {G : List (List eH)} {N : List eH} {op : Int} {gv nv v u : Value} {gs : List (Value × List dH)} {now es fs : List dH} {a : Int} {d z : Value} {dl il : List Int}
theorem EK (H : aB w0 w (fH p G N op • F)) : fQ prog 115 #[.pointer (some ⟨p, 0, none⟩)] w fun _ w' => aB w0 w' (fH p [] [] 0 • F) := by
 refine gX func115 ntmps115 ?_
 dsimp only [bg, Nat.reduceAdd]
 refine ay (ah (aO rfl (dw rfl func127 (ji H) ?_)))
 rintro _ _ ⟨rfl, rfl⟩
 refine aU (kM rfl) (aA (aj (aH rfl (fun h1 => ?_) (fun h => by exfalso; (try simp only [aG] at h); simp at h))))
 (try simp only [aG] at h1)
 obtain ⟨xI, uO, kF, jJ, jl, qp, oO, BU, BX, Gm, lX⟩ := (H).rW
 refine ah (aO rfl (aU (gq (pl := #[(0, 4), (4, 1)]) (#[_, _, _, _, _]) underlying171 zeroValue171 (fun w => by kernel_rfl) rfl (rfl)) (bH rfl (aI (bJ 0 (l' := [_, _, _, _, _]) (us := [_, _, _, _, _]) lX sizeOf171 rfl rfl rfl (aC (by first | rfl | assumption) (aC (by first | rfl | assumption) (aC (by first | rfl | assumption) (aC (by first | rfl | assumption) (aC (by first | rfl | assumption) bn))))) rfl rfl) ?_))))
 rintro _ w3 H3
 refine aA (dN (.inr rfl) results115 ?_)
 refine aB.qW (gv := .slice none 0 0) (nv := .slice none 0 0) (gs := []) (now := []) ⟨by simp, by decide, by decide, by decide, by simp, by simp⟩ rfl rfl rfl ?_
 exact (((H3.f2.right.f2.right.f2.right.f2.right).qL none).AX none).of_eq (by ac_rfl)
theorem aB.Je (H : aB w0 w (pJ gs • F)) {k : Nat} {gl : Value} {wI : List dH} (hk : k < gs.length) (hg : gs.getD k default = (gl, wI)) : aB w0 w (BG gl wI • pJ gs • F) := by
  have := H.Ko hk
  rwa [hg] at this
end
end Go.Proofs.YtgmpclifphbjkaaGreatDoor
end
section
namespace Go.Proofs.YtgmpclifphbjkaaGreatDoor
open Go.RowKit
open _root_.Go.Proofs.Tryz
theorem Qi {G : List (List eH)} {k : Nat} (hk : k < G.length) : G.take (k + 1) = G.take k ++ [G.getD k []] := by
  rw [List.take_succ_eq_append_getElem hk, List.getD_eq_getElem?_getD, List.getElem?_eq_getElem hk]
  rfl
theorem Jf {G : List (List eH)} {g : List eH} (h : g ∈ G) : g.length ≤ (G.map List.length).sum := by
  induction G with
  | nil => cases h
  | cons x G ih =>
    rw [List.map_cons, List.sum_cons]
    rcases List.mem_cons.1 h with rfl | h
    · omega
    · have := ih h; omega
theorem KA {es : List dH} {l : List eH} (h : es.map dH.says = l) (hl : ∀ e ∈ l, EB e) : ∀ k, k < es.length → EB (es.getD k default).says := fun k hk =>
  hl _ (by rw [← h]; exact List.mem_map_of_mem (vM hk))
section
variable {w0 w : World} {F : HP} {p : Nat} {G : List (List eH)} {N : List eH} {op : Int}
theorem EL (H : aB w0 w (fH p G N op • F)) : fQ prog 112 #[.pointer (some ⟨p, 0, none⟩)] w fun v w' => ∃ q, v = .pointer (some ⟨q, 0, none⟩) ∧ aB w0 w' (fH q G N op • fH p G N op • F) := by
 refine gX func112 ntmps112 ?_
 dsimp only [bg, Nat.reduceAdd]
 refine ay (ah (aV rfl (aA (aj (ay (ay (ah (aO rfl (dw rfl func127 (ji H) ?_)))))))))
 rintro _ _ ⟨rfl, rfl⟩
 refine aA (aj (qN (aS (aj (ay ?_)))))
 obtain ⟨xI, uO, kF, jJ, jl, qp, oO, BU, BX, Gm, lX⟩ := (H).rW
 have hLn : jJ.length ≤ 16384 := by omega
 have hBn := KA oO jl.2.2.2.2.2
 refine ah (aO rfl (bH rfl (aU (bU underlying171 rfl sizeOf171 rfl rfl (lX).get.2) (iy (dI (l := [_, _, _, _, _]) lX zeroValue171 rfl) ?_))))
 rintro _ w3 ⟨b3, rfl, H3⟩
 refine aI (bJ 0 (l' := [_, _, _, _, _]) (us := [_, _, _, _, _]) H3 sizeOf171 rfl rfl rfl (aC (by first | rfl | exact Rd.one ((H3.f3).aT)) (aC (by first | rfl | exact Rd.one ((H3.f5).aT)) (aC (by first | rfl | assumption) (aC (by first | rfl | assumption) (aC (by first | rfl | assumption) bn))))) rfl rfl) ?_
 rintro _ w4 H4
 refine aA (aj (ay (ah (aO rfl (bH rfl (aZ 0 underlying171 rfl sizeOf169 rfl (aZ 1 underlying169 rfl sizeOf64 rfl (cO underlying64 rfl (H4.f2).get.2 rfl (dw rfl func164 (yw H4.f6.f6 hBn hLn) ?_)))))))))
 rintro u5 w5 ⟨fs5, Xz, H5⟩
 obtain ⟨es1, rfl⟩ : ∃ q, q = fs5 := ⟨_, rfl⟩
 have hes1 := Xz
 refine aZ 0 underlying171 rfl sizeOf169 rfl (aZ 0 underlying169 rfl sizeOf167 rfl (aI (aN 0 (l' := [_, _, _, _, _]) H5.f5 sizeOf167 rfl rfl (by first | rfl | assumption) rfl rfl) ?_))
 rintro _ w6 H6
 refine aZ 0 underlying171 rfl sizeOf169 rfl (aZ 1 underlying169 rfl sizeOf64 rfl (aI (aN 1 (l' := [_, _, _, _, _]) H6 sizeOf64 rfl rfl (by first | rfl | exact Rd.one ((H6.f2).aT)) rfl rfl) ?_))
 rintro _ w7 H7
 refine aA (aj (ay (ay (ah (aO rfl (bH rfl (aZ 0 underlying171 rfl sizeOf169 rfl (aZ 0 underlying169 rfl sizeOf167 rfl (cO underlying167 rfl (H7.f6).get.2 rfl (aU (fB ((H7.f7).aT) underlying167 rfl) (aO rfl (aA (aj (bf ?_))))))))))))))
 obtain ⟨Wi, Wj, Zi, -⟩ := ((H7.f7).aT).form
 subst Zi
 refine fM [(3, _), (25, _), (26, _)] (fun (k : Nat) => [(27, .int .i64 (k : Int))]) (fun (k : Nat) W => k ≤ kF.length ∧ ∃ gu, ∃ hs : List (Value × List dH), hs.map (fun g => g.2.map dH.says) = G.take k ∧ aB w0 W (dA b3 (.cells #[gu, u5, .int .i64 op, .int .i64 (dX G N : Nat), .bool true] 171 (0, 0)) • Row 64 1 gu hs.length (hs.map (·.1)) • pJ hs • Row 120 3 u5 es1.length (es1.flatMap dH.enc) • jT es1 • dA p (.cells #[(.slice Wi (kF.length) Wj), uO, .int .i64 op, .int .i64 (dX G N : Nat), .bool true] 171 (0, 0)) • Row 64 1 (.slice Wi (kF.length) Wj) kF.length (kF.map (·.1)) • pJ kF • Row 120 3 uO jJ.length (jJ.flatMap dH.enc) • jT jJ • F)) (fun (k : Nat) => kF.length - k) (0) (Sub.cons rfl (Sub.cons rfl (Sub.cons rfl (Sub.nil _)))) (Sub.cons rfl (Sub.nil _)) ⟨by omega, _, [], rfl, ((H7.f5.f5.f8.f8.f8.f6.f8.f8).AX none).Xn.f5⟩ ?_
 rintro k w9 ⟨hk, gu, hs, Qj, HL⟩
 dsimp only [List.cons_append, List.nil_append]
 refine ay (ah (aU (dL rfl rfl) (aA (aj (ay (aH rfl (fun h1 => ?_) (fun h1 => ?_)))))))
 ·(try simp only [aG] at h1)
  refine aS (aj (ay (bf (ay (ah ?_)))))
  obtain ⟨abW, abX, rfl⟩ := Rd.pos ((HL.f7).aT) (by omega)
  refine aU (eF underlying167 sizeOf64 rfl rfl (by omega)) ?_
  refine aU (iC (dM underlying64 rfl) rfl (by first | exact Rd.Ee ((HL.f7).aT) (by omega) | exact Rd.U9 ((HL.f7).aT) (by omega) | exact Rd.UM ((HL.f7).aT) (by omega))) ?_
  have hkl : k < kF.length := by omega
  rw [show (kF.map (·.1)).getD k undef = (kF.getD k default).1 from by simp [List.getD_eq_getElem?_getD, hkl]]
  obtain ⟨gl, wI, hg⟩ : ∃ gl wI, kF.getD k default = (gl, wI) := ⟨_, _, rfl⟩
  rw [hg]
  have XA := HL.f8
  have XB := XA.Je hkl hg
  have hge : wI.map dH.says = G.getD k [] := by
   rw [← qp]
   have h9 : (kF.map (fun g => g.2.map dH.says)).getD k [] = (kF.getD k default).2.map dH.says := by simp [List.getD_eq_getElem?_getD, hkl]
   rw [h9, hg]
  have hgm : G.getD k [] ∈ G := vM (by omega)
  have hBg := KA hge (jl.2.2.2.2.1 _ hgm)
  have Zj : wI.length ≤ 16384 := by
   have h8 := jl.2.1
   unfold dX at h8
   have h7 := congrArg List.length hge
   rw [List.length_map] at h7
   have h6 := Jf hgm
   omega
  have hhl := congrArg List.length Qj
  rw [List.length_map, List.length_take] at hhl
  refine aV rfl (aA (aj ?_))
  have Wn := XB.drew
  have EM := aB.kp (Wn.f11.f11.f11.f11.f11.f11.f11.f11.f11.f11.f11)
  refine uH [2] EM rfl (dP 0 rfl EM 0 underlying171 rfl sizeOf169 rfl (dP 1 rfl EM 0 underlying169 rfl sizeOf167 rfl (gQ 2 rfl EM (fun W hW => iI underlying167 rfl ((Kp.h hW).f3).get.2 rfl) (fU 3 rfl EM rfl (jH 4 rfl (rU rfl func164 (uQ Wn hBg Zj)) ?_)))))
  rintro YH w12 ⟨SQ, Wh, rV⟩
  obtain ⟨es2, rfl⟩ : ∃ q, q = SQ := ⟨_, rfl⟩
  have hes2 := Wh
  have ED := aB.kp (rV.f13.f13.f13.f13.f13.f13.f13.f13.f13.f13.f13.f13.f13)
  refine bW ED (fun W hW => (Kp.h hW).right.right.f11.f11.f11.f11.f11.f11.f11.f11.f11.f11.f11) ?_
  refine jH 5 rfl (lQ (vs := [_]) rV underlying167 sizeOf64 zeroValue64 rfl rfl rfl (by decide) (aC (by first | rfl | exact Rd.one ((rV).aT)) bn)) ?_
  rintro l13 MB vZ
  have EF := aB.kp (vZ.f14.f14.f14.f14.f14.f14.f14.f14.f14.f14.f14.f14.f14.f14)
  refine bW EF (fun W hW => (Kp.h hW).right.f13.f13.f13.f13.f13.f13.f13.f13.f13.f13.f13.f13.f13) ?_
  refine jH 6 rfl (fK vZ.f7 underlying167 (show (prog.info? 64).map (fun i => (i.zero, i.size, i.bytes)) = some (some (.slice none 0 0), 1, 24) by kernel_rfl) rfl rfl rfl ((vZ).aT) (aC (by first | rfl | exact Rd.one ((vZ.f2).aT)) bn) (by omega) (by omega)) ?_
  rintro l14 JE uX
  have XC := uX.f2.right
  have zn := aB.kp (XC.f13.f13.f13.f13.f13.f13.f13.f13.f13.f13.f13.f13.f13)
  refine fA zn (by kernel_rfl) ?_
  refine dP 7 rfl zn 0 underlying171 rfl sizeOf169 rfl (dP 8 rfl zn 0 underlying169 rfl sizeOf167 rfl ?_)
  refine dB 9 rfl (by kernel_rfl) (aN 0 (l' := [_, _, _, _, _]) XC.f6 sizeOf167 rfl rfl (by first | rfl | exact Rd.one ((XC).aT)) rfl rfl) ?_
  rintro _ w16 qH
  have AZ := aB.kp (qH.f13.f13.f13.f13.f13.f13.f13.f13.f13.f13.f13.f13.f13)
  refine fA AZ (by kernel_rfl) ?_
  have X := aB.tH (es := es2) (qH.f5.right.f12.f12.f7.f12.f12.f12.f12.f8.f12.f10.f12.f12).deep
  have HN := (aB.vS X.swap).Xn.f3
  have hnew : (hs ++ [(YH, es2)]).map (fun g => g.2.map dH.says) = G.take (k + 1) := by rw [List.map_append, Qj, Qi (by omega), ← hge, ← hes2]; rfl
  refine mg (aQ (aj (ah (aU (eP rfl rfl (by omega)) (aO rfl (aA ?_))))))
  refine dK (k + 1) ?_ ?_ ?_ ?_
  ·exact (Sub.cons rfl (Sub.nil _))
  ·exact (Sub.cons rfl (Sub.cons rfl (Sub.cons rfl (Sub.nil _))))
  ·(try dsimp only)
   first | done | exact ⟨by omega, _, _, hnew, HN⟩
  ·(try dsimp only); omega
 ·(try simp only [aG] at h1)
  refine fG (aX (aX (bM (aj (ay (ah (aV rfl (aA (aj (aJ (aP (.inl rfl) results112 rfl ?_)))))))))))
  rw [List.take_of_length_le (by omega)] at Qj
  have X := aB.jV (gs := hs) (now := es1) jl Qj (hes1.trans oO) rfl (HL.f10.f10.f10.f10.f10.f10.f10.f10.f10.f10)
  have Y := aB.jV jl qp oO rfl X.f6.f6.f6.f6.f6
  exact ⟨_, rfl, Y.swap⟩
end
end Go.Proofs.YtgmpclifphbjkaaGreatDoor
end
section
namespace Go.Proofs.YtgmpclifphbjkaaGreatDoor
open Go.RowKit
def zV (G : List (List eH)) (N : List eH) : List (List eH) := (jL G N).reverse
def Jg (N : List eH) : List (List eH) := if N = [] then [] else [N]
theorem SS (N : List eH) : (Jg N).length ≤ 1 := by unfold Jg; split <;> simp
theorem Vp (G : List (List eH)) (N : List eH) : zV G N = Jg N ++ G.reverse := by
  unfold zV Jg jL; split <;> simp
end Go.Proofs.YtgmpclifphbjkaaGreatDoor
end
section
namespace Go.Proofs.YtgmpclifphbjkaaGreatDoor
open Go.RowKit
open _root_.Go.Proofs.Tryz
abbrev mM := ByteArray × Int
def iW (x : mM) : List Value := [.string x.1, .int .i64 x.2]
theorem sK (x : mM) : (iW x).length = 2 := rfl
def Vq (x : mM) : Prop := x.1.size ≤ 16384 ∧ 0 ≤ x.2
def Wp (hl : List mM) (base most : Int) : Prop := hl.length ≤ 4096 ∧ 1 ≤ base ∧ base ≤ 4611686018427387904 ∧ (hl.length : Int) ≤ most ∧ most ≤ 4096 ∧ ∀ x ∈ hl, Vq x
def dZ (p : Nat) (hl : List mM) (base most : Int) : HP := sS fun (v : Value) => fact (Wp hl base most) • dA p (.cells #[v, .int .i64 base, .int .i64 most] 97 (0, 0)) • Row 152 2 v hl.length (hl.flatMap iW)
section
variable {P : Program} {L : List (Nat × Value)} {w0 w : World} {F : HP} {ty : TypeId} {p : Nat} {hl : List mM} {base most : Int} {v : Value}
theorem EN {t e sz : Nat} {z : Value} (H : aB w0 w F) (ht : P.underlying t = some (.slice e)) (hs : ∀ w, (sizeOf e).run P w = .ok sz w) (hz : ∀ w, (zeroValue e).run P w = .ok z w) :
    tZ P L (.buildSlice t 0 #[]) ty w fun v w' => aB w0 w' (Row e sz v 0 [] • F) := by
  refine pV (v := .slice (some ⟨w.heap.size, 0, none⟩) 0 0) (w' := w.alloc (.cells #[] e)) ?_ ?_
  · intro ρ hρ d pos nG g
    simp only [execOp, Instr.buildSlice, Sem.run_bind, run_underlying ht, Result.andThen_ok, hs]
    have h0 : Array.map (fun (_ : Nat) => (default : Value)) (Array.range 0) = #[] := Array.eq_empty_of_size_eq_zero (by simp)
    simp [Instr.fill, newRow, h0]
  · exact (H.alloc _).right.fZ _
theorem aB.hist (H : aB w0 w (dZ p hl base most • F)) : ∃ v, Wp hl base most ∧ aB w0 w (dA p (.cells #[v, .int .i64 base, .int .i64 most] 97 (0, 0)) • Row 152 2 v hl.length (hl.flatMap iW) • F) := by
  obtain ⟨v, H⟩ := H.oh
  obtain ⟨h, H⟩ := H.flat.fact
  exact ⟨v, h, H.flat⟩
theorem aB.uj (h : Wp hl base most) (H : aB w0 w (dA p (.cells #[v, .int .i64 base, .int .i64 most] 97 (0, 0)) • Row 152 2 v hl.length (hl.flatMap iW) • F)) : aB w0 w (dZ p hl base most • F) :=
  aB.iF v (aB.deep (aB.kJ h H.deep))
theorem A8 {hl : List mM} : ∀ x ∈ hl.flatMap iW, x.oneCell' = true := by
  intro x hx
  obtain ⟨e, _, hx⟩ := List.mem_flatMap.1 hx
  simp [iW] at hx
  rcases hx with rfl | rfl <;> rfl
theorem Vr : (prog.info? 152).map (fun i => (i.zero, i.size, i.bytes)) = some (some (.agg #[.string .empty, .int .i64 0]), 2, 24) := by kernel_rfl
theorem Ba (H : aB w0 w F) (hr : yM w0 F 2 v hl.length (hl.flatMap iW)) (hb : hl.length ≤ 1099511627776) :
    fQ prog 110 #[v] w fun v' w' => aB w0 w' (Row 152 2 v' hl.length (hl.flatMap iW) • F) := by
  obtain ⟨hlen, a, c, rfl, h1, h2, h3⟩ := hr w H
  refine gX func110 ntmps110 ?_
  dsimp only [bg, Nat.reduceAdd]
  refine ay (ah (aV rfl (aA (aj (ay (ay (ah (aO rfl (aU (xU underlying51 rfl rfl) (aA (aj (aH rfl (fun h1 => ?_) (fun h1 => ?_)))))))))))))
  · (try simp only [aG] at h1)
    try (exfalso; first | contradiction | omega)
    all_goals
      refine ay (ah (aV rfl (aA (aj (aJ (aK (aP (.inl rfl) results110 rfl ?_)))))))
      obtain rfl : a = none := by simpa using h1
      obtain rfl : hl = [] := by
        cases hl with
        | nil => rfl
        | cons x l => obtain ⟨b, o, e, _⟩ := h3 (by simp); cases e
      exact H.fZ none
  · (try simp only [aG] at h1)
    try (exfalso; first | contradiction | omega)
    all_goals
      refine aS (aj (ay (ah (iy (EN H underlying51 sizeOf152 zeroValue152) ?_))))
      rintro _ w1 H1
      refine aO rfl (iy (fK H1 underlying51 Vr rfl rfl rfl (hr.under _ H1) A8 (by omega) (by omega)) ?_)
      rintro _ w2 H2
      refine aV rfl (aA (aj (aJ (aP (.inl rfl) results110 rfl ?_))))
      exact H2.of_eq (by rw [Nat.zero_add, List.nil_append])
theorem uS (H : aB w0 w (dZ p hl base most • F)) : fQ prog 109 #[.pointer (some ⟨p, 0, none⟩)] w fun v w' => v = .bool false ∧ w = w' := by
 refine gX func109 ntmps109 ?_
 dsimp only [bg, Nat.reduceAdd]
 refine ay (ah (aV rfl (aA (aj (ay ?_)))))
 obtain ⟨Jh, oD, qX⟩ := (H).hist
 refine ah (aO rfl (aU (jc underlying24 rfl rfl) (jo rfl (fun h1 => ?_) (fun h1 => ?_))))
 ·(try simp only [aG] at h1)
  try (exfalso; first | contradiction | omega)
  all_goals
   refine bI (bI (bI (bI (bI (bI (jO rfl rfl (aV rfl (aA (aj (aJ (aP (.inl rfl) results109 rfl ?_)))))))))))
   exact ⟨by rw [show (base == 0) = false from by rw [beq_eq_false_iff_ne]; have := oD.2.1; omega], rfl⟩
 ·(try simp only [aG] at h1)
  try (exfalso; first | contradiction | omega)
  all_goals
   refine bD (aO rfl (bD (bH rfl (bD (aZ 0 underlying97 rfl sizeOf95 rfl (bD (aZ 1 underlying95 rfl sizeOf2 rfl (bD (cO underlying2 rfl (qX).get.2 rfl (bD (aU (dW rfl rfl) (jr rfl rfl (aV rfl (aA (aj (aJ (aP (.inl rfl) results109 rfl ?_)))))))))))))))))
   exact ⟨by rw [show (base == 0) = false from by rw [beq_eq_false_iff_ne]; have := oD.2.1; omega], rfl⟩
theorem wK {n : Int} (H : aB w0 w F) (hn : 0 ≤ n ∧ n ≤ 4096) : fQ prog 7 #[.int .i64 n] w fun v w' => ∃ p, v = .tuple #[.pointer (some ⟨p, 0, none⟩), .int .i64 0] ∧ aB w0 w' (dZ p [] 1 n • F) := by
 refine gX func7 ntmps7 ?_
 dsimp only [bg, Nat.reduceAdd]
 refine ay (ah (aV rfl (aV rfl (aA (aj (ay (ay (ah (aO rfl (aU (dL rfl rfl) (jo rfl (fun h1 => ?_) (fun h1 => ?_))))))))))))
 ·(try simp only [aG] at h1)
  try (exfalso; first | contradiction | omega)
  all_goals
   refine bI (bI (jO rfl rfl (aA (aj (yL (ay (ah (aV rfl (aV rfl (aA (aj (aJ (aK (fC (.inl rfl) results7 rfl rfl ?_))))))))))))))
   exact ⟨_, rfl, aB.uj (v := .slice none 0 0) ⟨by simp, by decide, by decide, by simp; omega, by omega, by simp⟩ ((H.fZ none).swap)⟩
 ·(try simp only [aG] at h1)
  try (exfalso; first | contradiction | omega)
  all_goals
   refine bD (aO rfl (bD (aU (dQ rfl rfl) (jr rfl rfl (aA (aj (aH rfl (fun h2 => ?_) (fun h2 => ?_))))))))
   ·(try simp only [aG] at h2)
    try (exfalso; first | contradiction | omega)
    all_goals
     refine ay (ah (aV rfl (aV rfl (aA (aj (aJ (aK (fC (.inl rfl) results7 rfl rfl ?_))))))))
     exact ⟨_, rfl, aB.uj (v := .slice none 0 0) ⟨by simp, by decide, by decide, by simp; omega, by omega, by simp⟩ ((H.fZ none).swap)⟩
   ·(try simp only [aG] at h2)
    try (exfalso; first | contradiction | omega)
    all_goals
     refine aS (aj (ay (ah (aO rfl (aU (gq (pl := #[(0, 1), (1, 1), (2, 1)]) (#[_, _, _]) underlying95 zeroValue95 (fun w => by kernel_rfl) rfl (rfl)) (aU (gq (pl := #[(0, 3)]) (#[_, _, _]) underlying97 zeroValue97 (fun w => by kernel_rfl) rfl (rfl)) (iy (iq (l := [_, _, _]) H rfl rfl) ?_)))))))
     rintro _ w1 ⟨b1, rfl, H1⟩
     refine aV rfl (aV rfl (aA (aj (aJ (fC (.inl rfl) results7 rfl rfl ?_)))))
     exact ⟨_, rfl, aB.uj (v := .slice none 0 0) ⟨by simp, by decide, by decide, by simp; omega, by omega, by simp⟩ ((H1.fZ none).swap)⟩
theorem jY (H : aB w0 w (dZ p hl base most • F)) : fQ prog 75 #[.pointer (some ⟨p, 0, none⟩)] w fun v w' => v = .int .i64 hl.length ∧ aB w0 w' (dZ p hl base most • F) := by
 refine gX func75 ntmps75 ?_
 dsimp only [bg, Nat.reduceAdd]
 refine ay (ah (aV rfl (aA (aj (ay (ay (ah (aO rfl (dw rfl func109 (uS H) ?_)))))))))
 rintro _ _ ⟨rfl, rfl⟩
 refine aA (aj (qN (aS (aj (ay ?_)))))
 obtain ⟨Jh, oD, qX⟩ := (H).hist
 refine ah (aO rfl (bH rfl (aZ 0 underlying97 rfl sizeOf95 rfl (aZ 0 underlying95 rfl sizeOf51 rfl (cO underlying51 rfl (qX).get.2 rfl (aU (fB ((qX.f2).aT) underlying51 rfl) (aV rfl (aA (aj (aJ (aP (.inl rfl) results75 rfl ?_)))))))))))
 have Sj := qX.f2.f2
 have Sl := aB.uj oD Sj
 exact ⟨rfl, Sl⟩
theorem yx (H : aB w0 w (dZ p hl base most • F)) : fQ prog 40 #[.pointer (some ⟨p, 0, none⟩)] w fun v w' => ∃ q, v = .pointer (some ⟨q, 0, none⟩) ∧ aB w0 w' (dZ q hl base most • dZ p hl base most • F) := by
 refine gX func40 ntmps40 ?_
 dsimp only [bg, Nat.reduceAdd]
 refine ay (ah (aV rfl (aA (aj (ay (ay (ah (aO rfl (dw rfl func109 (uS H) ?_)))))))))
 rintro _ _ ⟨rfl, rfl⟩
 refine aA (aj (qN (aS (aj (ay ?_)))))
 obtain ⟨Jh, oD, qX⟩ := (H).hist
 have hcl := oD.1
 have xH := qX.drew
 have dU := aB.kp (xH.f2.f2)
 refine uH [4, 10, 15] dU rfl (fU 0 rfl dU rfl (iT 1 rfl dU rfl (dP 2 rfl dU 0 underlying97 rfl sizeOf95 rfl (dP 3 rfl dU 0 underlying95 rfl sizeOf51 rfl (gQ 4 rfl dU (fun W hW => iI underlying51 rfl ((Kp.h hW)).get.2 rfl) (fU 6 rfl dU rfl (iT 7 rfl dU rfl (dP 8 rfl dU 0 underlying97 rfl sizeOf95 rfl (dP 9 rfl dU 1 underlying95 rfl sizeOf2 rfl (gQ 10 rfl dU (fun W hW => iI underlying2 rfl ((Kp.h hW)).get.2 rfl) (fU 11 rfl dU rfl (iT 12 rfl dU rfl (dP 13 rfl dU 0 underlying97 rfl sizeOf95 rfl (dP 14 rfl dU 2 underlying95 rfl sizeOf3 rfl (gQ 15 rfl dU (fun W hW => iI underlying3 rfl ((Kp.h hW)).get.2 rfl) (jH 5 rfl (rU rfl func110 (Ba xH (fun W HW => (HW.f2).aT) (by omega))) ?_))))))))))))))))
 rintro u3 w3 H3
 have su := aB.kp (H3.f3.f3.f3)
 refine bW su (fun W hW => (Kp.h hW).right.f2.f2) ?_
 obtain ⟨au3, cu3, eu3, -⟩ := ((H3).aT).form
 subst eu3
 refine iJ 16 rfl su (fun _ => gq (pl := #[(0, 1), (1, 1), (2, 1)]) (#[_, _, _]) underlying95 zeroValue95 (fun w => by kernel_rfl) rfl (rfl)) (iJ 17 rfl su (fun _ => gq (pl := #[(0, 3)]) (#[_, _, _]) underlying97 zeroValue97 (fun w => by kernel_rfl) rfl (rfl)) (jH 18 rfl (iq (l := [_, _, _]) H3 rfl rfl) ?_))
 rintro _ w4 ⟨b4, rfl, H4⟩
 have jd := aB.kp (H4.f4.f4.f4.f4)
 refine fA jd (by kernel_rfl) ?_
 refine iJ 19 rfl jd (fun _ => fO rfl) (mg (aj (aJ (aP (.inl rfl) results40 rfl ?_))))
 have Vs := H4.f4.f4
 have Vt := aB.uj oD Vs
 exact ⟨_, rfl, aB.uj oD Vt.f3.f3⟩
end
end Go.Proofs.YtgmpclifphbjkaaGreatDoor
end
section
namespace Go.Proofs.YtgmpclifphbjkaaGreatDoor
open Go.RowKit
def qY {β : Type} (f : Int → β) (a : Int) (v : β) : Int → β := fun x => if x = a then v else f x
theorem eX {β : Type} (f : Int → β) (a : Int) (v : β) : qY f a v a = v := if_pos rfl
theorem qZ {β : Type} (f : Int → β) {a x : Int} (v : β) (h : x ≠ a) : qY f a v x = f x := if_neg h
theorem OI {β : Type} (f : Int → β) (a : Int) : qY f a (f a) = f := by funext x; unfold qY; split <;> simp_all
structure mD where
  L : List Int
  pt : Int
  mark : Int
  E : List (List Int)
  at_ : Nat
  place : Int
  tx : Int → Option ByteArray
  un : Int → List (List eH)
  mode : Int
  over : Bool
  last : Int
  fr : Int
  to : Int
  res : Int
  run : Bool
structure aY where
  c : mD
  hl : List mM
  base : Int
  most : Int
  iO : Int
  given : Bool
  minus : Bool
  arg : Int
  inn : Bool
  was : mD
  cls : Int
  killed : Bool
  jy : Bool
  argues : Bool
  whole : Bool
  put : List eH
def Nz (hl : List mM) (k : Int) : mM := if 0 ≤ k ∧ k < hl.length then hl.getD k.toNat default else (.empty, 0)
def yS (hl : List mM) (k : Int) : ByteArray := (Nz hl k).1
def iH (hl : List mM) (tx : Int → Option ByteArray) (k : Int) : ByteArray := (tx k).getD (yS hl k)
def yT (hl : List mM) (tx : Int → Option ByteArray) (place : Int) (k : Nat) : Bool := decide ((k : Int) ≠ place) && !((iH hl tx k).toList == (yS hl k).toList)
def mP (hl : List mM) (tx : Int → Option ByteArray) (place : Int) (n : Nat) : List (Int × ByteArray) := ((List.range n).filter (yT hl tx place)).map fun (k : Nat) => ((k : Int), iH hl tx k)
def wL (hl : List mM) (tx : Int → Option ByteArray) (place : Int) : List (Int × ByteArray) := mP hl tx place hl.length ++ (if place ≠ hl.length then [((hl.length : Int), iH hl tx hl.length)] else [])
def mF (G : List (List eH)) (inn : Bool) (put : List eH) (typed run : Bool) : Int := (G.length : Int) + if inn && !put.isEmpty && !(typed && run) then 1 else 0
namespace aY
variable (s : aY)
def here : List (List eH) := s.c.un s.c.place
def iY (G : List (List eH)) : aY := { s with c := { s.c with un := qY s.c.un s.c.place G } }
def vT : Int := if s.inn then 0 else 1
def EO : Int := if s.inn then 1 else 0
def bF : aY := if s.inn then s else { s with inn := true, was := s.c, cls := 0, killed := false, jy := false, argues := false, whole := true, put := [] }
def gV (on : Bool) : List (List eH) := if s.put = [] then s.here else if on then (match s.here.getLast? with | some g => s.here.dropLast ++ [g ++ s.put] | none => [s.put]) else s.here ++ [s.put]
def bG (on : Bool) : aY := if s.put = [] then s else { s.iY (s.gV on) with put := [] }
def um : aY := { s with given := false, minus := false, arg := -1 }
def zU (err : Int) : Int := if s.inn then err else 1
def wM : aY := { s.um with inn := false, c := { s.was with last := 0, fr := 0, to := 0 }, iO := IntKind.i64.wrap (s.iO + 1), put := [] }
def typed : Bool := s.cls == 3 && s.whole
def fV : aY := { (if s.argues then s else s.um) with inn := false }
def jR : aY :=
  let t := s.fV.bG (s.typed && s.c.run)
  let c := { t.c with run := s.typed && (!s.put.isEmpty || s.c.run), last := s.cls }
  { t with c := if s.cls ≠ 2 then { c with fr := 0, to := 0 } else c }
def iE (err : Int) : aY := if s.inn then (if err = 0 then s.jR else s.wM) else s
def jZ (x : eH) : aY :=
  if x.2.1.length + x.2.2.length = 0 then s else
  if 16384 ≤ dX s.here s.put then { s.iY [] with put := [x], c := { (s.iY []).c with run := false } } else { s with put := s.put ++ [x] }
def jm (L : List Int) (pt mk : Int) : aY := { s with c := { s.c with L := L, pt := pt, mark := mk } }
def jE (i j : Int) (l : List Int) : Int := if s.inn then iM s.c.L i j l else 1
def eY (i j : Int) (l : List Int) : aY := if s.inn then (s.jm (iR s.c.L i j l) (mW s.c.L s.c.pt i j l) (nK s.c.L s.c.mark i j l)).jZ (mX s.c.L i j l, jg s.c.L i j l, jh s.c.L i j l) else s
def NC (l : List Int) : Int := s.jE s.c.pt s.c.pt l
def y9 (l : List Int) : aY := s.eY s.c.pt s.c.pt l
def jf (l : List Int) : Int := if s.c.over then min (s.c.pt + l.length) s.c.L.length else s.c.pt
def Bc (l : List Int) : Int := s.jE s.c.pt (s.jf l) l
def jM (l : List Int) : aY := if s.inn then (let t := s.eY s.c.pt (s.jf l) l; if s.Bc l = 0 ∧ s.cls = 0 then { t with cls := 3 } else t) else s
def way (back : Bool) : Int := if s.c.last = 1 ∨ s.killed = true then (if back then 2 else 1) else 0
def lV (i j : Int) : Prop := i < 0 ∨ s.c.L.length < i ∨ j < i ∨ s.c.L.length < j
instance (i j : Int) : Decidable (s.lV i j) := by unfold lV; infer_instance
def cut (i j : Int) : List Int := (s.c.L.drop i.toNat).take (j.toNat - i.toNat)
def nM (i j : Int) (back : Bool) : Int × List (List Int) × Nat := vI s.c.E s.c.at_ (s.way back) (s.cut i j)
def mZ (i j : Int) (back : Bool) : Int := if s.inn then (if s.lV i j then 70 else (s.nM i j back).1) else 1
def DV (E : List (List Int)) (a : Nat) : aY := { s with c := { s.c with E := E, at_ := a } }
def ng (i j : Int) (back : Bool) : aY := if s.mZ i j back = 0 then { s.DV (s.nM i j back).2.1 (s.nM i j back).2.2 with killed := true, cls := 1 } else s
def SV (i j : Int) (back : Bool) : Int := if s.mZ i j back = 0 then (s.ng i j back).jE i j [] else s.mZ i j back
def rX (i j : Int) (back : Bool) : aY := if s.mZ i j back = 0 then (s.ng i j back).eY i j [] else s
def top : List Int := s.c.E.getD s.c.at_ []
def EP : Int := if s.inn then (if s.c.E.length = 0 then 6 else s.NC s.top) else 1
def uo : aY :=
  if s.EP = 0 then
    let t := s.y9 s.top
    { t with jy := true, cls := 2, c := { t.c with mark := Xl t.c.L t.c.mark s.c.pt, fr := s.c.pt, to := s.c.pt + s.top.length } }
  else s
def yA (n : Int) : List Int := s.c.E.getD (vJ s.c.E.length s.c.at_ n) []
def ER (n : Int) : Int := if s.inn then (if s.c.last ≠ 2 ∨ s.jy = true then 6 else if s.c.E.length = 0 then 6 else s.jE s.c.fr s.c.to (s.yA n)) else 1
def xJ (n : Int) : aY :=
  if s.ER n = 0 then
    let t := s.eY s.c.fr s.c.to (s.yA n)
    { t with jy := true, cls := 2, c := { t.c with E := s.c.E, at_ := vJ s.c.E.length s.c.at_ n, fr := s.c.fr, to := s.c.fr + (s.yA n).length } }
  else s
def kills : List (List Int) := s.c.E.drop s.c.at_ ++ s.c.E.take s.c.at_
def OJ (x : Int) : Int := if s.inn then YT s.c.L.length x else 1
def vU (x : Int) : aY := if s.inn then s.jm s.c.L (V8 s.c.L.length s.c.pt x) s.c.mark else s
def OL (x : Int) : Int := if s.inn then smE s.c.L x else 1
def zo (x : Int) : aY := if s.inn then s.jm s.c.L s.c.pt (Xl s.c.L s.c.mark x) else s
def OM : Int := if s.inn then swE s.c.mark else 1
def zq : aY := if s.inn then s.jm s.c.L (swP s.c.pt s.c.mark) (swM s.c.pt s.c.mark) else s
def XD (b : List Int × Int × Int) (x : eH) : List Int × Int × Int := (wE b.1 x.1 x.2.1 x.2.2, Nc b.1 b.2.1 x.1 x.2.1 x.2.2, Nh b.1 b.2.2 x.1 x.2.1 x.2.2)
def apps (b : List Int × Int × Int) (l : List eH) : List Int × Int × Int := l.foldl XD b
def ES (l : List eH) : aY := let b := apps (s.c.L, s.c.pt, s.c.mark) l; s.jm b.1 b.2.1 b.2.2
def wO : aY := { s with whole := false, c := { s.c with run := false } }
def kZ : aY := if s.inn then (let t := s.bG false; if t.here = [] then t else ((t.iY t.here.dropLast).ES ((t.here.getLastD []).reverse.map rJ)).wO) else s
def pW : Int := if s.inn then (if (s.bG false).here = [] then 6 else 0) else 1
def Zk : aY := if s.inn then (let t := s.bG false; if t.here = [] then t else ((t.iY []).ES (t.here.flatten.reverse.map rJ)).wO) else s
def XE (d : Int) : Int := if s.inn then (if d < 0 ∨ 9 < d then 1 else 0) else 1
def aaC (d : Int) : aY := if s.XE d = 0 then { s with given := true, argues := true, arg := min (max s.arg 0 * 10 + d) 1000000 } else s
def acb : aY := if s.inn then { s with given := true, argues := true, minus := !s.minus } else s
def aaD (n : Int) : Int := if s.inn then (if 1000000 < n ∨ n < -1000000 then 1 else 0) else 1
def acd (n : Int) : aY := if s.aaD n = 0 then { s with given := true, argues := true, minus := decide (n < 0), arg := max n (-n) } else s
def count : Int := if s.given then (let n := if s.arg < 0 then 1 else s.arg; if s.minus then -n else n) else 1
def yB (m : Int) : Int := if s.inn then (if m < 0 ∨ 2 < m then 1 else 0) else 1
def yC (m : Int) : aY := if s.yB m = 0 then { s with c := { s.c with mode := m } } else s
def abY (b : Bool) : aY := if s.inn then { s with c := { s.c with over := b } } else s
def aaE (r : Int) : Int := if s.inn then (if r < 1 ∨ 3 < r then 1 else 0) else 1
def ace (r : Int) : aY := if s.aaE r = 0 then { s with c := { s.c with res := r } } else s
def first (k : Int) : ByteArray := yS s.hl k
def stands (k : Int) : ByteArray := (s.c.tx k).getD (s.first k)
def uT : Int := mF s.here s.inn s.put s.typed s.c.run
def saved : List (Int × ByteArray) := wL s.hl s.c.tx s.c.place
def CW : Int := if s.inn then s.was.last else s.c.last
def Zl : Int := if s.inn then s.was.fr else s.c.fr
def Zm : Int := if s.inn then s.was.to else s.c.to
end aY
def mD.fresh (l : List Int) (E : List (List Int)) (a : Nat) (place mode : Int) : mD := ⟨l, l.length, -1, E, a, place, fun _ => none, fun _ => [], mode, false, 0, 0, 0, 0, false⟩
def aY.start (s : aY) (hl : List mM) (base most : Int) (l : List Int) : aY := { s with c := mD.fresh l s.c.E s.c.at_ hl.length s.c.mode, hl := hl, base := base, most := most, given := false, minus := false, arg := -1 }
def aY.new (hl : List mM) (base most : Int) : aY :=
  let c := mD.fresh [] [] 0 hl.length 0
  { c := c, hl := hl, base := base, most := most, iO := 0, given := false, minus := false, arg := -1, inn := false, was := c, cls := 0, killed := false, jy := false, argues := false, whole := false, put := [] }
end Go.Proofs.YtgmpclifphbjkaaGreatDoor
end
