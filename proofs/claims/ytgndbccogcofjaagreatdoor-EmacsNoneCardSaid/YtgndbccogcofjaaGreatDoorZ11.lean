import Derived.Test.YtgndbccogcofjaaGreatDoorZ2
import Derived.Test.YtgndbccogcofjaaGreatDoorZ10
import Derived.Test.YtgndbccogcofjaaGreatDoorZ8
import Derived.Test.YtgndbccogcofjaaGreatDoorZ9
set_option linter.unusedSimpArgs false
set_option linter.unusedVariables false
/- Texts of mine, joined, their names in short: UList4 UList5 UList6 UList7 Grp0 Hist EdM. -/
section
namespace Go.Proofs.YtgndbccogcofjaaGreatDoor
open Go.RowKit
open _root_.Go.Proofs.Tryz
def Nj (G : List (List dQ)) (N : List dQ) : Int := if G.length + N.length = 0 then 6 else 0
def JB (G : List (List dQ)) (N : List dQ) : List (List dQ) := if G.length + N.length = 0 then G else (iG G N).dropLast
def JC (G : List (List dQ)) (N : List dQ) : List dQ := if G.length + N.length = 0 then N else []
def JD (G : List (List dQ)) (N : List dQ) (op : Int) : Int := if G.length + N.length = 0 then op else 0
def Qm (G : List (List dQ)) (N : List dQ) : List dQ := if G.length + N.length = 0 then [] else ((iG G N).getLastD []).reverse.map AQ
theorem Du {G : List (List dQ)} {g N : List dQ} : dO (G ++ [g]) N = dO G N + g.length := by simp [dO]; omega
section
variable {w0 w : World} {F : HP} {p : Nat} {G : List (List dQ)} {N : List dQ} {op : Int} {gv nv v : Value} {gs : List (Value × List bZ)} {now es : List bZ} {a : Int} {d z : Value} {dl il : List Int}
theorem Iu (h : ¬ G.length + N.length = 0) : iG G N ≠ [] := by
  unfold iG; split
  · rename_i hN; rintro rfl; subst hN; exact h rfl
  · simp
theorem aB.Iw (H : aB w0 w (dN p G [] op • F)) (hG : G ≠ []) : ∃ gv nv hs gl rY, G = hs.map (fun g => g.2.map bZ.says) ++ [rY.map bZ.says] ∧ Pe G [] op ∧ G.length = hs.length + 1 ∧ hs.length ≤ 16384 ∧ rY.length ≤ 16384 ∧ (∀ k, k < rY.length → EB (rY.getD k default).says) ∧
    aB w0 w (dh p (.cells #[gv, nv, .int .i64 op, .int .i64 (dO G [] : Nat), .bool true] 180 (0, 0)) • Row 35 1 gv (hs.length + 1) (hs.map (·.1) ++ [gl]) • lG hs • xE gl rY • Cm nv [] • F) := by
  obtain ⟨gv, nv, gs, now, h1, h2, h3, h4, h5, h6, H⟩ := H.qU
  obtain rfl : now = [] := List.eq_nil_of_length_eq_zero (by simpa using h5)
  rcases List.eq_nil_or_concat gs with rfl | ⟨hs, ⟨gl, rY⟩, rfl⟩
  · exact absurd h2.symm hG
  · have hG2 : G = hs.map (fun g => g.2.map bZ.says) ++ [rY.map bZ.says] := by rw [← h2]; simp
    have hle : rY.length ≤ 16384 := by
      have := h1.2.1
      rw [hG2, Du] at this
      simp at this
      omega
    refine ⟨gv, nv, hs, gl, rY, hG2, h1, ?_, ?_, hle, fun k hk => ?_, ?_⟩
    · rw [hG2]; simp
    · rw [hG2] at h6; simp at h6; omega
    · refine h1.2.2.2.2.1 (rY.map bZ.says) (by rw [hG2]; simp) _ ?_
      rw [List.getD_eq_getElem?_getD, List.getElem?_eq_getElem hk]
      exact List.mem_map_of_mem (List.getElem_mem hk)
    · rw [List.concat_eq_append, List.length_append, List.map_append] at H
      have H1 := (H.f3.FV (k := hs.length) (by simp)).swap
      rw [show (hs ++ [(gl, rY)]).getD hs.length default = (gl, rY) from by simp [List.getD_eq_getElem?_getD]] at H1
      have H2 := H1.MN hs.length
      rw [List.take_left' rfl] at H2
      exact H2.of_eq (by unfold Cm; ac_rfl)
theorem vk (H : aB w0 w (dN p G N op • F)) : eG prog 162 #[.pointer (some ⟨p, 0, none⟩)] w fun v w' => ∃ u, ∃ fs : List bZ, v = .tuple #[u, .int .i64 (Nj G N)] ∧ fs.map bZ.says = Qm G N ∧
  aB w0 w' (Row 101 3 u fs.length (fs.flatMap bZ.enc) • iL fs • dN p (JB G N) (JC G N) (JD G N op) • F) := by
 unfold Nj Qm JB JC JD
 refine fP func162 ntmps162 ?_
 dsimp only [aX, Nat.reduceAdd]
 refine ay (ah (aV rfl (aV rfl (aA (aj (ay (ay (ah (aO rfl (dn rfl func181 (iw H) ?_))))))))))
 rintro _ _ ⟨rfl, rfl⟩
 refine aA (aj (nV (aS (aj (ay (ay ?_))))))
 obtain ⟨tN, qV, iM, iF, gY, nZ, lM, Aw, Az, Eh, jS⟩ := (H).qU
 have F7 := jS.drew
 have iy := aB.kp (F7.f5.f5.f5.f5.f5)
 refine xJ [4, 10] iy rfl (iq 0 rfl iy rfl (jv 1 rfl iy rfl (fU 2 rfl iy 0 underlying180 rfl sizeOf178 rfl (fU 3 rfl iy 0 underlying178 rfl sizeOf176 rfl (iV 4 rfl iy (fun W hW => jr underlying176 rfl ((Kp.h hW)).get.2 rfl) (iU 5 rfl iy (fun _ => gW ((F7.f2).aT) underlying176 rfl) (iq 6 rfl iy rfl (jv 7 rfl iy rfl (fU 8 rfl iy 0 underlying180 rfl sizeOf178 rfl (fU 9 rfl iy 1 underlying178 rfl sizeOf35 rfl (iV 10 rfl iy (fun W hW => jr underlying35 rfl ((Kp.h hW)).get.2 rfl) (iU 11 rfl iy (fun _ => gW ((F7.f4).aT) underlying35 rfl) (iU 12 rfl iy (fun _ => fQ rfl rfl (by omega)) (iU 13 rfl iy (fun _ => gI rfl rfl) (oV (aj (aQ rfl (fun h1 => ?_) (fun h1 => ?_))))))))))))))))))
 ·(try simp only [aI] at h1)
  have VQ : G.length + N.length = 0 := by omega
  have MO := F7.f5.f5.f5.f5.f5
  have MP := aB.iT gY nZ lM rfl MO
  refine ay (ah (aV rfl (aV rfl (aA (aj (aJ (aK (kF (.inl rfl) results162 rfl rfl ?_))))))))
  simp only [if_pos VQ]
  exact ⟨_, [], rfl, rfl, ((MP).nH none).Tz⟩
 ·(try simp only [aI] at h1)
  have VQ : ¬ G.length + N.length = 0 := by omega
  have Ry := F7.f5.f5.f5.f5.f5
  have Rz := aB.iT gY nZ lM rfl Ry
  refine aS (aj (ay (ah (aO rfl (dn rfl func218 (tV Rz) ?_)))))
  rintro _ w9 H9
  refine aA (aj (ay ?_))
  obtain ⟨gv, nv, hs, gl, rY, hG, hok, hl1, hl2, hl3, hEB, HU⟩ := (H9).Iw (Iu VQ)
  have htot := hok.2.1
  refine ah (aO rfl (bK rfl (aZ 0 underlying180 rfl sizeOf178 rfl (aZ 0 underlying178 rfl sizeOf176 rfl (dP underlying176 rfl (HU).get.2 rfl (aW (gW ((HU.f2).aT) underlying176 rfl) (aW (gU rfl rfl (by omega)) (aV rfl (aA (aj (ay (ah (aO rfl (bK rfl (aZ 0 underlying180 rfl sizeOf178 rfl (aZ 0 underlying178 rfl sizeOf176 rfl (dP underlying176 rfl (HU).get.2 rfl (aO rfl ?_))))))))))))))))))
  obtain ⟨Z8, Z9, cgv, egv⟩ := Rd.yX ((HU.f2).aT) (by omega)
  cases egv
  refine aW (iK underlying176 sizeOf35 rfl rfl (by omega)) ?_
  refine aW (nU (iC underlying35 rfl) rfl (by first | exact Rd.Hg ((HU.f2).aT) (by omega) | exact Rd.S9 ((HU.f2).aT) (by omega) | exact Rd.QW ((HU.f2).aT) (by omega))) ?_
  rw [show (hs.map (·.1) ++ [gl]).getD ((((hs.length + 1 : Nat)) : Int) - 1).toNat undef = gl from by rw [show ((((hs.length + 1 : Nat)) : Int) - 1).toNat = hs.length from by omega]; simp [List.getD_eq_getElem?_getD]]
  refine aV rfl (aA (aj (ay (ah (aO rfl (aO rfl (bK rfl (aZ 0 underlying180 rfl sizeOf178 rfl (aZ 0 underlying178 rfl sizeOf176 rfl (dP underlying176 rfl (HU).get.2 rfl (aO rfl (aW (zS ((HU.f2).aT) underlying176 sizeOf35 rfl rfl rfl (by omega)) (bK rfl (aZ 0 underlying180 rfl sizeOf178 rfl (aZ 0 underlying178 rfl sizeOf176 rfl (aG (aN 0 (l' := [_, _, _, _, _]) HU sizeOf176 rfl rfl (by first | rfl | exact Rd.one (Rd.Uu ((HU.f2).aT) (by omega))) rfl rfl) ?_))))))))))))))))
  rintro _ w10 ng
  refine aA (aj (ay (ah (aO rfl (bK rfl (aZ 0 underlying180 rfl sizeOf178 rfl (aZ 3 underlying178 rfl sizeOf3 rfl (dP underlying3 rfl (ng).get.2 rfl (aO rfl (aW (gW ((ng.f4).vP) underlying35 rfl) (aW (gU rfl rfl (by omega)) (bK rfl (aZ 0 underlying180 rfl sizeOf178 rfl (aZ 3 underlying178 rfl sizeOf3 rfl (aG (aN 3 (l' := [_, _, _, _, _]) ng sizeOf3 rfl rfl (by first | rfl | assumption) rfl rfl) ?_)))))))))))))))
  rintro _ Ht wB
  refine aA (aj (ay (ah (aO rfl (dn rfl func219 (wZ wB.f4 hEB hl3) ?_)))))
  rintro VF w12 ⟨Nk, Qn, vM⟩
  refine aV rfl (aV rfl (aA (aj (aJ (kF (.inl rfl) results162 rfl rfl ?_)))))
  simp only [if_neg VQ]
  have hdl : (iG G N).dropLast = hs.map (fun g => g.2.map bZ.says) := by rw [hG]; simp
  have hlast : (iG G N).getLastD [] = rY.map bZ.says := by rw [hG]; simp
  have hX := (vM.f3.right.f6.f6.f5.f5.f5.f6).LP (h := hs.length) (by omega)
  rw [hdl, hlast]
  rw [Nat.mul_one, List.take_left' (by simp), show (((hs.length + 1 : Nat) : Int) - 1).toNat = hs.length from by omega, show Int.toNat 0 = 0 from rfl] at hX
  have hT : dO (iG G N) [] = dO (hs.map (fun g => g.2.map bZ.says)) [] + rY.length := by rw [hG, Du, List.length_map]
  have hok2 : Pe (hs.map (fun g => g.2.map bZ.says)) [] 0 := ⟨fun g hg => hok.1 g (by rw [hG]; exact List.mem_append_left _ hg), by omega, by decide, by decide, fun g hg => hok.2.2.2.2.1 g (by rw [hG]; exact List.mem_append_left _ hg), by simp⟩
  refine ⟨_, _, rfl, (by assumption), ?_⟩
  have hU := aB.nN (gv := kZ 1 0 hs.length (.slice (some ⟨Z8, Z9, none⟩) (hs.length + 1) cgv)) (nv := nv) (gs := hs) (now := []) (ed := (dO (iG G N) [] : Nat) - (rY.length : Int)) (F := Row 101 3 VF Nk.length (Nk.flatMap bZ.enc) • iL Nk • F) hok2 rfl rfl (by omega) (hX.of_eq (by unfold wW; ac_rfl))
  exact hU.of_eq (by ac_rfl)
end
end Go.Proofs.YtgndbccogcofjaaGreatDoor
end
section
namespace Go.Proofs.YtgndbccogcofjaaGreatDoor
open Go.RowKit
open _root_.Go.Proofs.Tryz
def tX (op : Int) : Int := if op = 0 then 1 else 0
def RD (G : List (List dQ)) (N : List dQ) (op : Int) : List (List dQ) := if op = 1 then iG G N else G
def RF (N : List dQ) (op : Int) : List dQ := if op = 1 then [] else N
def Pg (op : Int) : Int := if op = 0 then 0 else op - 1
theorem KO {es : List bZ} {k : Nat} (hk : k < es.length) : (es.take (k + 1)).map bZ.says = (es.take k).map bZ.says ++ [(es.getD k default).says] := by
  rw [List.take_succ_eq_append_getElem hk, List.map_append, List.getD_eq_getElem?_getD, List.getElem?_eq_getElem hk]
  rfl
section
variable {w0 w : World} {F : HP} {p : Nat} {G : List (List dQ)} {N : List dQ} {op : Int} {gv nv v : Value} {gs : List (Value × List bZ)} {now es : List bZ} {a : Int} {d z : Value} {dl il : List Int}
theorem rZ (H : aB w0 w (dN p G N op • F)) : eG prog 165 #[.pointer (some ⟨p, 0, none⟩)] w fun v w' => v = .int .i64 (tX op) ∧ aB w0 w' (dN p (RD G N op) (RF N op) (Pg op) • F) := by
 unfold tX RD RF Pg
 refine fP func165 ntmps165 ?_
 dsimp only [aX, Nat.reduceAdd]
 refine ay (ah (aV rfl (aA (aj (ay (ay (ah (aO rfl (dn rfl func181 (iw H) ?_)))))))))
 rintro _ _ ⟨rfl, rfl⟩
 refine aA (aj (nV (aS (aj (ay (ay ?_))))))
 obtain ⟨tN, qV, iM, iF, gY, nZ, lM, Aw, Az, Eh, jS⟩ := (H).qU
 have hop := gY.2.2.1
 have hop2 := gY.2.2.2.1
 refine ah (aO rfl (bK rfl (aZ 0 underlying180 rfl sizeOf178 rfl (aZ 2 underlying178 rfl sizeOf3 rfl (dP underlying3 rfl (jS).get.2 rfl (aW (gI rfl rfl) (aA (aj (aQ rfl (fun h1 => ?_) (fun h1 => ?_))))))))))
 ·(try simp only [aI] at h1)
  have h0 : op = 0 := by omega
  refine ay (ah (aV rfl (aA (aj (aJ (aK (aH (.inl rfl) results165 rfl ?_)))))))
  have MO := jS.f5.f5.f5.f5.f5
  have MP := aB.iT gY nZ lM rfl MO
  subst h0
  exact ⟨rfl, MP⟩
 ·(try simp only [aI] at h1)
  have h0 : ¬ op = 0 := by omega
  refine aS (aj (ay (ay (ah (aO rfl (bK rfl (aZ 0 underlying180 rfl sizeOf178 rfl (aZ 2 underlying178 rfl sizeOf3 rfl (dP underlying3 rfl (jS).get.2 rfl (aW (gU rfl rfl (by omega)) (bK rfl (aZ 0 underlying180 rfl sizeOf178 rfl (aZ 2 underlying178 rfl sizeOf3 rfl (aG (aN 2 (l' := [_, _, _, _, _]) jS sizeOf3 rfl rfl (by first | rfl | assumption) rfl rfl) ?_))))))))))))))
  rintro _ w6 H6
  refine aA (aj (ay (ah (aO rfl (bK rfl (aZ 0 underlying180 rfl sizeOf178 rfl (aZ 2 underlying178 rfl sizeOf3 rfl (dP underlying3 rfl (H6).get.2 rfl (aW (gI rfl rfl) (aA (aj (aQ rfl (fun h2 => ?_) (fun h2 => ?_)))))))))))))
  ·(try simp only [aI] at h2)
   have h1 : op = 1 := by omega
   have Ry := H6.f5.f5.f5.f5.f5
   have Rz := aB.iT (op := op - 1) ⟨gY.1, gY.2.1, by omega, by omega, gY.2.2.2.2⟩ nZ lM rfl Ry
   refine ah (aO rfl (dn rfl func218 (tV Rz) ?_))
   rintro _ w9 H9
   refine aA (aj (ay (ah (aV rfl (aA (aj (aJ (aH (.inl rfl) results165 rfl ?_))))))))
   subst h1
   exact ⟨rfl, H9⟩
  ·(try simp only [aI] at h2)
   have h1 : ¬ op = 1 := by omega
   refine aS (aj (ay (ah (aV rfl (aA (aj (aJ (aH (.inl rfl) results165 rfl ?_))))))))
   rw [if_neg h0, if_neg h1, if_neg h1, if_neg h0]
   exact ⟨rfl, aB.iT ⟨gY.1, gY.2.1, by omega, by omega, gY.2.2.2.2⟩ nZ lM rfl H6.f5.f5.f5.f5.f5⟩
theorem AU (H : aB w0 w F) (hv : Kt w0 F 3 v es.length (es.flatMap bZ.enc)) (he : ∀ k, k < es.length → iD w0 F .i32 (es.getD k default).d (es.getD k default).dl ∧ iD w0 F .i32 (es.getD k default).i (es.getD k default).il)
  (hB : ∀ k, k < es.length → EB (es.getD k default).says) (hL : es.length ≤ 16384) :
  eG prog 187 #[v] w fun v' w' => ∃ fs : List bZ, fs.map bZ.says = es.map bZ.says ∧ aB w0 w' (Row 101 3 v' fs.length (fs.flatMap bZ.enc) • iL fs • F) := by
 refine fP func187 ntmps187 ?_
 dsimp only [aX, Nat.reduceAdd]
 refine ay (ah (aV rfl (aA (aj (ay (ah (aV rfl (aA (aj (ay (ay (ah (aO rfl (aW (gW (hv _ (H)) underlying35 rfl) (aO rfl (aA (aj (bg ?_))))))))))))))))))
 refine ig [(6, _), (7, _)] (fun (⟨k, u⟩ : Nat × Value) => [(3, u), (8, .int .i64 (k : Int))]) (fun (⟨k, u⟩ : Nat × Value) W => k ≤ es.length ∧ ∃ fs : List bZ, fs.map bZ.says = (es.take k).map bZ.says ∧ aB w0 W (Row 101 3 u fs.length (fs.flatMap bZ.enc) • iL fs • F)) (fun (⟨k, u⟩ : Nat × Value) => es.length - k) ((0, .slice none 0 0)) (Sub.cons rfl (Sub.cons rfl (Sub.nil _))) (Sub.cons rfl (Sub.cons rfl (Sub.nil _))) ⟨by omega, [], rfl, (H.nH none).Tz⟩ ?_
 rintro ⟨k, u⟩ w1 ⟨hk, fs, hfs, HL⟩
 dsimp only [List.cons_append, List.nil_append]
 refine ay (ah (aW (eU rfl rfl) (aA (aj (ay (aQ rfl (fun h1 => ?_) (fun h1 => ?_)))))))
 ·(try simp only [aI] at h1)
  try (exfalso; first | contradiction | omega)
  all_goals
   refine aS (aj (ay (bg (ay (ah ?_)))))
   obtain ⟨bv, ov, cv, ev⟩ := Rd.yX (hv _ (HL.right.right)) (by omega)
   cases ev
   refine aW (iK underlying35 sizeOf101 rfl rfl (by omega)) (aW (jG (ys := [_, _, _]) (hv _ (HL.right.right)) (by omega) underlying101 rfl sizeOf101 rfl (mQ bZ.wU (by omega) default) rfl) ?_)
   have hkl : k < es.length := by omega
   obtain ⟨f1, f2⟩ := he k hkl
   obtain ⟨hb1, hb2⟩ := hB k hkl
   have hb1 : (es.getD k default).dl.length ≤ 35184372087808 := hb1
   have hb2 : (es.getD k default).il.length ≤ 35184372087808 := hb2
   have hfl : fs.length = k := by have h9 := congrArg List.length hfs; simp at h9; omega
   refine jo (fJ (l := [_, _, _]) HL zeroValue101 rfl) ?_
   rintro _ w2 ⟨b2, rfl, H2⟩
   refine aG (cO 0 (l' := [_, _, _]) (us := [_, _, _]) H2 sizeOf101 rfl rfl rfl (aC (by first | rfl | assumption) (aC (by first | rfl | exact Rd.one (f1 _ (H2.right.right.right))) (aC (by first | rfl | exact Rd.one (f2 _ (H2.right.right.right))) bP))) rfl rfl) ?_
   rintro _ w3 H3
   refine aA (aj (ah (aO rfl (aW (bW underlying101 rfl sizeOf101 rfl rfl (H3).get.2) (dn rfl func220 (oG H3 (fun W HW => f1 _ (HW.right.right.right)) (fun W HW => f2 _ (HW.right.right.right)) (by omega) (by omega)) ?_)))))
   rintro _ w4 ⟨d4, s4, rfl, H4⟩
   refine jo (oI H4 underlying35 sizeOf101 zeroValue101 rfl rfl rfl (by decide) (by decide)) ?_
   rintro l5 w5 H5
   refine jo (gK H5.f5 underlying35 (show (prog.info? 101).map (fun i => (i.zero, i.size, i.bytes)) = some (some (.agg #[.int .i64 0, .slice none 0 0, .slice none 0 0]), 3, 56) by kernel_rfl) rfl rfl rfl ((H5).aT) (aC (by first | rfl | assumption) (aC (by first | rfl | exact Rd.one ((H5.f2).aT)) (aC (by first | rfl | exact Rd.one ((H5.f3).aT)) bP))) (by omega) (by omega)) ?_
   rintro l6 w6 H6
   have UG := H6.f2.right
   refine aV rfl (aA (aP (aj (ah (aW (fQ rfl rfl (by omega)) (aO rfl (aA ?_)))))))
   refine fA ((k + 1, l6)) ?_ ?_ ?_ ?_
   ·exact (Sub.cons rfl (Sub.cons rfl (Sub.nil _)))
   ·exact (Sub.cons rfl (Sub.cons rfl (Sub.nil _)))
   ·(try dsimp only)
    first | done | exact ⟨by omega, _, by rw [List.map_append, hfs, KO (by omega)]; rfl, (aB.qQ (UG.f4.right.f4.f2.f4.f4).jf.swap.jf.swap.f3).Tz⟩
   ·(try dsimp only); omega
 ·(try simp only [aI] at h1)
  try (exfalso; first | contradiction | omega)
  all_goals
   refine fH (aY (aY (bV (aj (ay (ah (aO rfl (aV rfl (aA (aj (aJ (aH (.inl rfl) results187 rfl ?_))))))))))))
   rw [List.take_of_length_le (by omega)] at hfs
   exact ⟨_, hfs, HL.f2.f2⟩
theorem aB.jw {es : List bZ} (H : aB w0 w (iL es • F)) {k : Nat} (hk : k < es.length) : jV w .i32 (es.getD k default).d (es.getD k default).dl ∧ jV w .i32 (es.getD k default).i (es.getD k default).il := let ⟨I, h, hI⟩ := H.rF; ⟨(h k hk).1.rd hI, (h k hk).2.rd hI⟩
theorem tY (H : aB w0 w (Row 101 3 v es.length (es.flatMap bZ.enc) • iL es • F)) (hB : ∀ k, k < es.length → EB (es.getD k default).says) (hL : es.length ≤ 16384) :
    eG prog 187 #[v] w fun v' w' => ∃ fs : List bZ, fs.map bZ.says = es.map bZ.says ∧ aB w0 w' (Row 101 3 v' fs.length (fs.flatMap bZ.enc) • iL fs • Row 101 3 v es.length (es.flatMap bZ.enc) • iL es • F) :=
  AU H (fun W HW => HW.aT) (fun k hk => ⟨fun W HW => (HW.right.jw hk).1, fun W HW => (HW.right.jw hk).2⟩) hB hL
theorem qA (H : aB w0 w (xE v es • F)) (hB : ∀ k, k < es.length → EB (es.getD k default).says) (hL : es.length ≤ 16384) :
    eG prog 187 #[v] w fun v' w' => ∃ fs : List bZ, fs.map bZ.says = es.map bZ.says ∧ aB w0 w' (Row 101 3 v' fs.length (fs.flatMap bZ.enc) • iL fs • xE v es • F) :=
  AU H (fun W HW => HW.vP) (fun k hk => ⟨fun W HW => HW.Uy hk, fun W HW => HW.Uz hk⟩) hB hL
end
end Go.Proofs.YtgndbccogcofjaaGreatDoor
end
section
namespace Go.Proofs.YtgndbccogcofjaaGreatDoor
open Go.RowKit
open _root_.Go.Proofs.Tryz
def aac (G : List (List dQ)) (N : List dQ) : List dQ := (iG G N).flatten.reverse.map AQ
section
variable {w0 w : World} {F : HP} {p : Nat} {G : List (List dQ)} {N : List dQ} {op : Int} {gv nv v u : Value} {gs : List (Value × List bZ)} {now es fs : List bZ} {a : Int} {d z : Value} {dl il : List Int}
theorem AV (H : aB w0 w (dN p G N op • F)) : eG prog 195 #[.pointer (some ⟨p, 0, none⟩)] w fun _ w' => aB w0 w' (dN p [] [] 0 • F) := by
 refine fP func195 ntmps195 ?_
 dsimp only [aX, Nat.reduceAdd]
 refine ay (ah (aO rfl (dn rfl func181 (iw H) ?_)))
 rintro _ _ ⟨rfl, rfl⟩
 refine aW (kC rfl) (aA (aj (aQ rfl (fun h1 => ?_) (fun h => by exfalso; (try simp only [aI] at h); simp at h))))
 (try simp only [aI] at h1)
 obtain ⟨tN, qV, iM, iF, gY, nZ, lM, Aw, Az, Eh, jS⟩ := (H).qU
 refine ah (aO rfl (aW (dS (pl := #[(0, 4), (4, 1)]) (#[_, _, _, _, _]) underlying180 zeroValue180 (fun w => by kernel_rfl) rfl (rfl)) (bK rfl (aG (cO 0 (l' := [_, _, _, _, _]) (us := [_, _, _, _, _]) jS sizeOf180 rfl rfl rfl (aC (by first | rfl | assumption) (aC (by first | rfl | assumption) (aC (by first | rfl | assumption) (aC (by first | rfl | assumption) (aC (by first | rfl | assumption) bP))))) rfl rfl) ?_))))
 rintro _ w3 H3
 refine aA (fF (.inr rfl) results195 ?_)
 refine aB.nN (gv := .slice none 0 0) (nv := .slice none 0 0) (gs := []) (now := []) ⟨by simp, by decide, by decide, by decide, by simp, by simp⟩ rfl rfl rfl ?_
 exact (((H3.f2.right.f2.right.f2.right.f2.right).nH none).wX none).of_eq (by ac_rfl)
theorem aB.Ep (H : aB w0 w (lG gs • F)) {k : Nat} {gl : Value} {rY : List bZ} (hk : k < gs.length) (hg : gs.getD k default = (gl, rY)) : aB w0 w (xE gl rY • lG gs • F) := by
  have := H.FV hk
  rwa [hg] at this
end
end Go.Proofs.YtgndbccogcofjaaGreatDoor
end
section
namespace Go.Proofs.YtgndbccogcofjaaGreatDoor
open Go.RowKit
open _root_.Go.Proofs.Tryz
theorem KP {G : List (List dQ)} {k : Nat} (hk : k < G.length) : G.take (k + 1) = G.take k ++ [G.getD k []] := by
  rw [List.take_succ_eq_append_getElem hk, List.getD_eq_getElem?_getD, List.getElem?_eq_getElem hk]
  rfl
theorem Es {G : List (List dQ)} {g : List dQ} (h : g ∈ G) : g.length ≤ (G.map List.length).sum := by
  induction G with
  | nil => cases h
  | cons x G ih =>
    rw [List.map_cons, List.sum_cons]
    rcases List.mem_cons.1 h with rfl | h
    · omega
    · have := ih h; omega
theorem F8 {es : List bZ} {l : List dQ} (h : es.map bZ.says = l) (hl : ∀ e ∈ l, EB e) : ∀ k, k < es.length → EB (es.getD k default).says := fun k hk =>
  hl _ (by rw [← h]; exact List.mem_map_of_mem (qO hk))
section
variable {w0 w : World} {F : HP} {p : Nat} {G : List (List dQ)} {N : List dQ} {op : Int}
theorem AX (H : aB w0 w (dN p G N op • F)) : eG prog 116 #[.pointer (some ⟨p, 0, none⟩)] w fun v w' => ∃ q, v = .pointer (some ⟨q, 0, none⟩) ∧ aB w0 w' (dN q G N op • dN p G N op • F) := by
 refine fP func116 ntmps116 ?_
 dsimp only [aX, Nat.reduceAdd]
 refine ay (ah (aV rfl (aA (aj (ay (ay (ah (aO rfl (dn rfl func181 (iw H) ?_)))))))))
 rintro _ _ ⟨rfl, rfl⟩
 refine aA (aj (nV (aS (aj (ay ?_)))))
 obtain ⟨tN, qV, iM, iF, gY, nZ, lM, Aw, Az, Eh, jS⟩ := (H).qU
 have hLn : iF.length ≤ 16384 := by omega
 have hBn := F8 lM gY.2.2.2.2.2
 refine ah (aO rfl (bK rfl (aW (bW underlying180 rfl sizeOf180 rfl rfl (jS).get.2) (jo (fJ (l := [_, _, _, _, _]) jS zeroValue180 rfl) ?_))))
 rintro _ w3 ⟨b3, rfl, H3⟩
 refine aG (cO 0 (l' := [_, _, _, _, _]) (us := [_, _, _, _, _]) H3 sizeOf180 rfl rfl rfl (aC (by first | rfl | exact Rd.one ((H3.f3).aT)) (aC (by first | rfl | exact Rd.one ((H3.f5).aT)) (aC (by first | rfl | assumption) (aC (by first | rfl | assumption) (aC (by first | rfl | assumption) bP))))) rfl rfl) ?_
 rintro _ w4 H4
 refine aA (aj (ay (ah (aO rfl (bK rfl (aZ 0 underlying180 rfl sizeOf178 rfl (aZ 1 underlying178 rfl sizeOf35 rfl (dP underlying35 rfl (H4.f2).get.2 rfl (dn rfl func187 (tY H4.f6.f6 hBn hLn) ?_)))))))))
 rintro u5 w5 ⟨fs5, WV, H5⟩
 obtain ⟨es1, rfl⟩ : ∃ q, q = fs5 := ⟨_, rfl⟩
 have hes1 := WV
 refine aZ 0 underlying180 rfl sizeOf178 rfl (aZ 0 underlying178 rfl sizeOf176 rfl (aG (aN 0 (l' := [_, _, _, _, _]) H5.f5 sizeOf176 rfl rfl (by first | rfl | assumption) rfl rfl) ?_))
 rintro _ w6 H6
 refine aZ 0 underlying180 rfl sizeOf178 rfl (aZ 1 underlying178 rfl sizeOf35 rfl (aG (aN 1 (l' := [_, _, _, _, _]) H6 sizeOf35 rfl rfl (by first | rfl | exact Rd.one ((H6.f2).aT)) rfl rfl) ?_))
 rintro _ w7 H7
 refine aA (aj (ay (ay (ah (aO rfl (bK rfl (aZ 0 underlying180 rfl sizeOf178 rfl (aZ 0 underlying178 rfl sizeOf176 rfl (dP underlying176 rfl (H7.f6).get.2 rfl (aW (gW ((H7.f7).aT) underlying176 rfl) (aO rfl (aA (aj (bg ?_))))))))))))))
 obtain ⟨Qo, Qp, UH, -⟩ := ((H7.f7).aT).form
 subst UH
 refine ig [(3, _), (25, _), (26, _)] (fun (k : Nat) => [(27, .int .i64 (k : Int))]) (fun (k : Nat) W => k ≤ iM.length ∧ ∃ gu, ∃ hs : List (Value × List bZ), hs.map (fun g => g.2.map bZ.says) = G.take k ∧ aB w0 W (dh b3 (.cells #[gu, u5, .int .i64 op, .int .i64 (dO G N : Nat), .bool true] 180 (0, 0)) • Row 35 1 gu hs.length (hs.map (·.1)) • lG hs • Row 101 3 u5 es1.length (es1.flatMap bZ.enc) • iL es1 • dh p (.cells #[(.slice Qo (iM.length) Qp), qV, .int .i64 op, .int .i64 (dO G N : Nat), .bool true] 180 (0, 0)) • Row 35 1 (.slice Qo (iM.length) Qp) iM.length (iM.map (·.1)) • lG iM • Row 101 3 qV iF.length (iF.flatMap bZ.enc) • iL iF • F)) (fun (k : Nat) => iM.length - k) (0) (Sub.cons rfl (Sub.cons rfl (Sub.cons rfl (Sub.nil _)))) (Sub.cons rfl (Sub.nil _)) ⟨by omega, _, [], rfl, ((H7.f5.f5.f8.f8.f8.f6.f8.f8).wX none).Rn.f5⟩ ?_
 rintro k w9 ⟨hk, gu, hs, Nl, HL⟩
 dsimp only [List.cons_append, List.nil_append]
 refine ay (ah (aW (eU rfl rfl) (aA (aj (ay (aQ rfl (fun h1 => ?_) (fun h1 => ?_)))))))
 ·(try simp only [aI] at h1)
  refine aS (aj (ay (bg (ay (ah ?_)))))
  obtain ⟨Y7, Y8, rfl⟩ := Rd.pos ((HL.f7).aT) (by omega)
  refine aW (iK underlying176 sizeOf35 rfl rfl (by omega)) ?_
  refine aW (nU (iC underlying35 rfl) rfl (by first | exact Rd.Hg ((HL.f7).aT) (by omega) | exact Rd.S9 ((HL.f7).aT) (by omega) | exact Rd.QW ((HL.f7).aT) (by omega))) ?_
  have hkl : k < iM.length := by omega
  rw [show (iM.map (·.1)).getD k undef = (iM.getD k default).1 from by simp [List.getD_eq_getElem?_getD, hkl]]
  obtain ⟨gl, rY, hg⟩ : ∃ gl rY, iM.getD k default = (gl, rY) := ⟨_, _, rfl⟩
  rw [hg]
  have RG := HL.f8
  have RH := RG.Ep hkl hg
  have hge : rY.map bZ.says = G.getD k [] := by
   rw [← nZ]
   have h9 : (iM.map (fun g => g.2.map bZ.says)).getD k [] = (iM.getD k default).2.map bZ.says := by simp [List.getD_eq_getElem?_getD, hkl]
   rw [h9, hg]
  have hgm : G.getD k [] ∈ G := qO (by omega)
  have hBg := F8 hge (gY.2.2.2.2.1 _ hgm)
  have UJ : rY.length ≤ 16384 := by
   have h8 := gY.2.1
   unfold dO at h8
   have h7 := congrArg List.length hge
   rw [List.length_map] at h7
   have h6 := Es hgm
   omega
  have WW := congrArg List.length Nl
  rw [List.length_map, List.length_take] at WW
  refine aV rfl (aA (aj ?_))
  have Qq := RH.drew
  have AY := aB.kp (Qq.f11.f11.f11.f11.f11.f11.f11.f11.f11.f11.f11)
  refine xJ [2] AY rfl (fU 0 rfl AY 0 underlying180 rfl sizeOf178 rfl (fU 1 rfl AY 0 underlying178 rfl sizeOf176 rfl (iV 2 rfl AY (fun W hW => jr underlying176 rfl ((Kp.h hW).f3).get.2 rfl) (iq 3 rfl AY rfl (jB 4 rfl (vK rfl func187 (qA Qq hBg UJ)) ?_)))))
  rintro VF w12 ⟨Nk, Qn, vM⟩
  obtain ⟨es2, rfl⟩ : ∃ q, q = Nk := ⟨_, rfl⟩
  have hes2 := Qn
  have wY := aB.kp (vM.f13.f13.f13.f13.f13.f13.f13.f13.f13.f13.f13.f13.f13)
  refine dM wY (fun W hW => (Kp.h hW).right.right.f11.f11.f11.f11.f11.f11.f11.f11.f11.f11.f11) ?_
  refine jB 5 rfl (kM (vs := [_]) vM underlying176 sizeOf35 zeroValue35 rfl rfl rfl (by decide) (aC (by first | rfl | exact Rd.one ((vM).aT)) bP)) ?_
  rintro l13 Me uX
  have uY := aB.kp (uX.f14.f14.f14.f14.f14.f14.f14.f14.f14.f14.f14.f14.f14.f14)
  refine dM uY (fun W hW => (Kp.h hW).right.f13.f13.f13.f13.f13.f13.f13.f13.f13.f13.f13.f13.f13) ?_
  refine jB 6 rfl (gK uX.f7 underlying176 (show (prog.info? 35).map (fun i => (i.zero, i.size, i.bytes)) = some (some (.slice none 0 0), 1, 24) by kernel_rfl) rfl rfl rfl ((uX).aT) (aC (by first | rfl | exact Rd.one ((uX.f2).aT)) bP) (by omega) (by omega)) ?_
  rintro Y5 Ky wM
  have RI := wM.f2.right
  have uZ := aB.kp (RI.f13.f13.f13.f13.f13.f13.f13.f13.f13.f13.f13.f13.f13)
  refine eX uZ (by kernel_rfl) ?_
  refine fU 7 rfl uZ 0 underlying180 rfl sizeOf178 rfl (fU 8 rfl uZ 0 underlying178 rfl sizeOf176 rfl ?_)
  refine eP 9 rfl (by kernel_rfl) (aN 0 (l' := [_, _, _, _, _]) RI.f6 sizeOf176 rfl rfl (by first | rfl | exact Rd.one ((RI).aT)) rfl rfl) ?_
  rintro _ w16 rP
  have F9 := aB.kp (rP.f13.f13.f13.f13.f13.f13.f13.f13.f13.f13.f13.f13.f13)
  refine eX F9 (by kernel_rfl) ?_
  have X := aB.oN (es := es2) (rP.f5.right.f12.f12.f7.f12.f12.f12.f12.f8.f12.f10.f12.f12).deep
  have HN := (aB.qR X.swap).Rn.f3
  have hnew : (hs ++ [(VF, es2)]).map (fun g => g.2.map bZ.says) = G.take (k + 1) := by rw [List.map_append, Nl, KP (by omega), ← hge, ← hes2]; rfl
  refine oV (aP (aj (ah (aW (fQ rfl rfl (by omega)) (aO rfl (aA ?_))))))
  refine fA (k + 1) ?_ ?_ ?_ ?_
  ·exact (Sub.cons rfl (Sub.nil _))
  ·exact (Sub.cons rfl (Sub.cons rfl (Sub.cons rfl (Sub.nil _))))
  ·(try dsimp only)
   first | done | exact ⟨by omega, _, _, hnew, HN⟩
  ·(try dsimp only); omega
 ·(try simp only [aI] at h1)
  refine fH (aY (aY (bV (aj (ay (ah (aV rfl (aA (aj (aJ (aH (.inl rfl) results116 rfl ?_)))))))))))
  rw [List.take_of_length_le (by omega)] at Nl
  have X := aB.iT (gs := hs) (now := es1) gY Nl (hes1.trans lM) rfl (HL.f10.f10.f10.f10.f10.f10.f10.f10.f10.f10)
  have Y := aB.iT gY nZ lM rfl X.f6.f6.f6.f6.f6
  exact ⟨_, rfl, Y.swap⟩
end
end Go.Proofs.YtgndbccogcofjaaGreatDoor
end
section
namespace Go.Proofs.YtgndbccogcofjaaGreatDoor
open Go.RowKit
def vS (G : List (List dQ)) (N : List dQ) : List (List dQ) := (iG G N).reverse
def Et (N : List dQ) : List (List dQ) := if N = [] then [] else [N]
theorem Np (N : List dQ) : (Et N).length ≤ 1 := by unfold Et; split <;> simp
theorem Ph (G : List (List dQ)) (N : List dQ) : vS G N = Et N ++ G.reverse := by
  unfold vS Et iG; split <;> simp
end Go.Proofs.YtgndbccogcofjaaGreatDoor
end
section
namespace Go.Proofs.YtgndbccogcofjaaGreatDoor
open Go.RowKit
open _root_.Go.Proofs.Tryz
abbrev nS := ByteArray × Int
def kS (x : nS) : List Value := [.string x.1, .int .i64 x.2]
theorem xZ (x : nS) : (kS x).length = 2 := rfl
def UK (x : nS) : Prop := x.1.size ≤ 16384 ∧ 0 ≤ x.2
def UL (hl : List nS) (base most : Int) : Prop := hl.length ≤ 4096 ∧ 1 ≤ base ∧ base ≤ 4611686018427387904 ∧ (hl.length : Int) ≤ most ∧ most ≤ 4096 ∧ ∀ x ∈ hl, UK x
def dY (p : Nat) (hl : List nS) (base most : Int) : HP := qo fun (v : Value) => fact (UL hl base most) • dh p (.cells #[v, .int .i64 base, .int .i64 most] 132 (0, 0)) • Row 128 2 v hl.length (hl.flatMap kS)
section
variable {P : Program} {L : List (Nat × Value)} {w0 w : World} {F : HP} {ty : TypeId} {p : Nat} {hl : List nS} {base most : Int} {v : Value}
theorem AZ {t e sz : Nat} {z : Value} (H : aB w0 w F) (ht : P.underlying t = some (.slice e)) (hs : ∀ w, (sizeOf e).run P w = .ok sz w) (hz : ∀ w, (zeroValue e).run P w = .ok z w) :
    oK P L (.buildSlice t 0 #[]) ty w fun v w' => aB w0 w' (Row e sz v 0 [] • F) := by
  refine mF (v := .slice (some ⟨w.heap.size, 0, none⟩) 0 0) (w' := w.alloc (.cells #[] e)) ?_ ?_
  · intro ρ hρ d pos ku g
    simp only [execOp, Instr.buildSlice, Sem.run_bind, run_underlying ht, Result.andThen_ok, hs]
    have h0 : Array.map (fun (_ : Nat) => (default : Value)) (Array.range 0) = #[] := Array.eq_empty_of_size_eq_zero (by simp)
    simp [Instr.fill, newRow, h0]
  · exact (H.alloc _).right.iP _
theorem aB.hist (H : aB w0 w (dY p hl base most • F)) : ∃ v, UL hl base most ∧ aB w0 w (dh p (.cells #[v, .int .i64 base, .int .i64 most] 132 (0, 0)) • Row 128 2 v hl.length (hl.flatMap kS) • F) := by
  obtain ⟨v, H⟩ := H.kH
  obtain ⟨h, H⟩ := H.flat.fact
  exact ⟨v, h, H.flat⟩
theorem aB.su (h : UL hl base most) (H : aB w0 w (dh p (.cells #[v, .int .i64 base, .int .i64 most] 132 (0, 0)) • Row 128 2 v hl.length (hl.flatMap kS) • F)) : aB w0 w (dY p hl base most • F) :=
  aB.gy v (aB.deep (aB.je h H.deep))
theorem JE {hl : List nS} : ∀ x ∈ hl.flatMap kS, x.oneCell' = true := by
  intro x hx
  obtain ⟨e, _, hx⟩ := List.mem_flatMap.1 hx
  simp [kS] at hx
  rcases hx with rfl | rfl <;> rfl
theorem Pj : (prog.info? 128).map (fun i => (i.zero, i.size, i.bytes)) = some (some (.agg #[.string .empty, .int .i64 0]), 2, 24) := by kernel_rfl
theorem xg (H : aB w0 w F) (hr : Kt w0 F 2 v hl.length (hl.flatMap kS)) (hb : hl.length ≤ 1099511627776) :
    eG prog 118 #[v] w fun v' w' => aB w0 w' (Row 128 2 v' hl.length (hl.flatMap kS) • F) := by
  obtain ⟨hlen, a, c, rfl, h1, h2, h3⟩ := hr w H
  refine fP func118 ntmps118 ?_
  dsimp only [aX, Nat.reduceAdd]
  refine ay (ah (aV rfl (aA (aj (ay (ay (ah (aO rfl (aW (sV underlying47 rfl rfl) (aA (aj (aQ rfl (fun h1 => ?_) (fun h1 => ?_)))))))))))))
  · (try simp only [aI] at h1)
    try (exfalso; first | contradiction | omega)
    all_goals
      refine ay (ah (aV rfl (aA (aj (aJ (aK (aH (.inl rfl) results118 rfl ?_)))))))
      obtain rfl : a = none := by simpa using h1
      obtain rfl : hl = [] := by
        cases hl with
        | nil => rfl
        | cons x l => obtain ⟨b, o, e, _⟩ := h3 (by simp); cases e
      exact H.iP none
  · (try simp only [aI] at h1)
    try (exfalso; first | contradiction | omega)
    all_goals
      refine aS (aj (ay (ah (jo (AZ H underlying47 sizeOf128 zeroValue128) ?_))))
      rintro _ w1 H1
      refine aO rfl (jo (gK H1 underlying47 Pj rfl rfl rfl (hr.under _ H1) JE (by omega) (by omega)) ?_)
      rintro _ w2 H2
      refine aV rfl (aA (aj (aJ (aH (.inl rfl) results118 rfl ?_))))
      exact H2.of_eq (by rw [Nat.zero_add, List.nil_append])
theorem qB (H : aB w0 w (dY p hl base most • F)) : eG prog 117 #[.pointer (some ⟨p, 0, none⟩)] w fun v w' => v = .bool false ∧ w = w' := by
 refine fP func117 ntmps117 ?_
 dsimp only [aX, Nat.reduceAdd]
 refine ay (ah (aV rfl (aA (aj (ay ?_)))))
 obtain ⟨RJ, vT, A8⟩ := (H).hist
 refine ah (aO rfl (aW (fO underlying33 rfl rfl) (fV rfl (fun h1 => ?_) (fun h1 => ?_))))
 ·(try simp only [aI] at h1)
  try (exfalso; first | contradiction | omega)
  all_goals
   refine bC (bC (bC (bC (bC (bC (fG rfl rfl (aV rfl (aA (aj (aJ (aH (.inl rfl) results117 rfl ?_)))))))))))
   exact ⟨by rw [show (base == 0) = false from by rw [beq_eq_false_iff_ne]; have := vT.2.1; omega], rfl⟩
 ·(try simp only [aI] at h1)
  try (exfalso; first | contradiction | omega)
  all_goals
   refine bf (aO rfl (bf (bK rfl (bf (aZ 0 underlying132 rfl sizeOf130 rfl (bf (aZ 1 underlying130 rfl sizeOf2 rfl (bf (dP underlying2 rfl (A8).get.2 rfl (bf (aW (gI rfl rfl) (eY rfl rfl (aV rfl (aA (aj (aJ (aH (.inl rfl) results117 rfl ?_)))))))))))))))))
   exact ⟨by rw [show (base == 0) = false from by rw [beq_eq_false_iff_ne]; have := vT.2.1; omega], rfl⟩
theorem Eu {n : Int} (H : aB w0 w F) (hn : 0 ≤ n ∧ n ≤ 4096) : eG prog 107 #[.int .i64 n] w fun v w' => ∃ p, v = .tuple #[.pointer (some ⟨p, 0, none⟩), .int .i64 0] ∧ aB w0 w' (dY p [] 1 n • F) := by
 refine fP func107 ntmps107 ?_
 dsimp only [aX, Nat.reduceAdd]
 refine ay (ah (aV rfl (aV rfl (aA (aj (ay (ay (ah (aO rfl (aW (eU rfl rfl) (fV rfl (fun h1 => ?_) (fun h1 => ?_))))))))))))
 ·(try simp only [aI] at h1)
  try (exfalso; first | contradiction | omega)
  all_goals
   refine bC (bC (fG rfl rfl (aA (aj (uI (ay (ah (aV rfl (aV rfl (aA (aj (aJ (aK (kF (.inl rfl) results107 rfl rfl ?_))))))))))))))
   exact ⟨_, rfl, aB.su (v := .slice none 0 0) ⟨by simp, by decide, by decide, by simp; omega, by omega, by simp⟩ ((H.iP none).swap)⟩
 ·(try simp only [aI] at h1)
  try (exfalso; first | contradiction | omega)
  all_goals
   refine bf (aO rfl (bf (aW (dB rfl rfl) (eY rfl rfl (aA (aj (aQ rfl (fun h2 => ?_) (fun h2 => ?_))))))))
   ·(try simp only [aI] at h2)
    try (exfalso; first | contradiction | omega)
    all_goals
     refine ay (ah (aV rfl (aV rfl (aA (aj (aJ (aK (kF (.inl rfl) results107 rfl rfl ?_))))))))
     exact ⟨_, rfl, aB.su (v := .slice none 0 0) ⟨by simp, by decide, by decide, by simp; omega, by omega, by simp⟩ ((H.iP none).swap)⟩
   ·(try simp only [aI] at h2)
    try (exfalso; first | contradiction | omega)
    all_goals
     refine aS (aj (ay (ah (aO rfl (aW (dS (pl := #[(0, 1), (1, 1), (2, 1)]) (#[_, _, _]) underlying130 zeroValue130 (fun w => by kernel_rfl) rfl (rfl)) (aW (dS (pl := #[(0, 3)]) (#[_, _, _]) underlying132 zeroValue132 (fun w => by kernel_rfl) rfl (rfl)) (jo (gV (l := [_, _, _]) H rfl rfl) ?_)))))))
     rintro _ w1 ⟨b1, rfl, H1⟩
     refine aV rfl (aV rfl (aA (aj (aJ (kF (.inl rfl) results107 rfl rfl ?_)))))
     exact ⟨_, rfl, aB.su (v := .slice none 0 0) ⟨by simp, by decide, by decide, by simp; omega, by omega, by simp⟩ ((H1.iP none).swap)⟩
theorem lH (H : aB w0 w (dY p hl base most • F)) : eG prog 102 #[.pointer (some ⟨p, 0, none⟩)] w fun v w' => v = .int .i64 hl.length ∧ aB w0 w' (dY p hl base most • F) := by
 refine fP func102 ntmps102 ?_
 dsimp only [aX, Nat.reduceAdd]
 refine ay (ah (aV rfl (aA (aj (ay (ay (ah (aO rfl (dn rfl func117 (qB H) ?_)))))))))
 rintro _ _ ⟨rfl, rfl⟩
 refine aA (aj (nV (aS (aj (ay ?_)))))
 obtain ⟨RJ, vT, A8⟩ := (H).hist
 refine ah (aO rfl (bK rfl (aZ 0 underlying132 rfl sizeOf130 rfl (aZ 0 underlying130 rfl sizeOf47 rfl (dP underlying47 rfl (A8).get.2 rfl (aW (gW ((A8.f2).aT) underlying47 rfl) (aV rfl (aA (aj (aJ (aH (.inl rfl) results102 rfl ?_)))))))))))
 have MO := A8.f2.f2
 have MP := aB.su vT MO
 exact ⟨rfl, MP⟩
theorem lI (H : aB w0 w (dY p hl base most • F)) : eG prog 45 #[.pointer (some ⟨p, 0, none⟩)] w fun v w' => ∃ q, v = .pointer (some ⟨q, 0, none⟩) ∧ aB w0 w' (dY q hl base most • dY p hl base most • F) := by
 refine fP func45 ntmps45 ?_
 dsimp only [aX, Nat.reduceAdd]
 refine ay (ah (aV rfl (aA (aj (ay (ay (ah (aO rfl (dn rfl func117 (qB H) ?_)))))))))
 rintro _ _ ⟨rfl, rfl⟩
 refine aA (aj (nV (aS (aj (ay ?_)))))
 obtain ⟨RJ, vT, A8⟩ := (H).hist
 have hcl := vT.1
 have F7 := A8.drew
 have iy := aB.kp (F7.f2.f2)
 refine xJ [4, 10, 15] iy rfl (iq 0 rfl iy rfl (jv 1 rfl iy rfl (fU 2 rfl iy 0 underlying132 rfl sizeOf130 rfl (fU 3 rfl iy 0 underlying130 rfl sizeOf47 rfl (iV 4 rfl iy (fun W hW => jr underlying47 rfl ((Kp.h hW)).get.2 rfl) (iq 6 rfl iy rfl (jv 7 rfl iy rfl (fU 8 rfl iy 0 underlying132 rfl sizeOf130 rfl (fU 9 rfl iy 1 underlying130 rfl sizeOf2 rfl (iV 10 rfl iy (fun W hW => jr underlying2 rfl ((Kp.h hW)).get.2 rfl) (iq 11 rfl iy rfl (jv 12 rfl iy rfl (fU 13 rfl iy 0 underlying132 rfl sizeOf130 rfl (fU 14 rfl iy 2 underlying130 rfl sizeOf3 rfl (iV 15 rfl iy (fun W hW => jr underlying3 rfl ((Kp.h hW)).get.2 rfl) (jB 5 rfl (vK rfl func118 (xg F7 (fun W HW => (HW.f2).aT) (by omega))) ?_))))))))))))))))
 rintro u3 w3 H3
 have Cj := aB.kp (H3.f3.f3.f3)
 refine dM Cj (fun W hW => (Kp.h hW).right.f2.f2) ?_
 obtain ⟨ZR, ZT, WS, -⟩ := ((H3).aT).form
 subst WS
 refine iU 16 rfl Cj (fun _ => dS (pl := #[(0, 1), (1, 1), (2, 1)]) (#[_, _, _]) underlying130 zeroValue130 (fun w => by kernel_rfl) rfl (rfl)) (iU 17 rfl Cj (fun _ => dS (pl := #[(0, 3)]) (#[_, _, _]) underlying132 zeroValue132 (fun w => by kernel_rfl) rfl (rfl)) (jB 18 rfl (gV (l := [_, _, _]) H3 rfl rfl) ?_))
 rintro _ w4 ⟨b4, rfl, H4⟩
 have uN := aB.kp (H4.f4.f4.f4.f4)
 refine eX uN (by kernel_rfl) ?_
 refine iU 19 rfl uN (fun _ => fZ rfl) (oV (aj (aJ (aH (.inl rfl) results45 rfl ?_))))
 have RN := H4.f4.f4
 have RP := aB.su vT RN
 exact ⟨_, rfl, aB.su vT RP.f3.f3⟩
end
end Go.Proofs.YtgndbccogcofjaaGreatDoor
end
section
namespace Go.Proofs.YtgndbccogcofjaaGreatDoor
open Go.RowKit
def uO {β : Type} (f : Int → β) (a : Int) (v : β) : Int → β := fun x => if x = a then v else f x
theorem fD {β : Type} (f : Int → β) (a : Int) (v : β) : uO f a v a = v := if_pos rfl
theorem qW {β : Type} (f : Int → β) {a x : Int} (v : β) (h : x ≠ a) : uO f a v x = f x := if_neg h
theorem Pm {β : Type} (f : Int → β) (a : Int) : uO f a (f a) = f := by funext x; unfold uO; split <;> simp_all
structure jU where
  L : List Int
  pt : Int
  mark : Int
  E : List (List Int)
  at_ : Nat
  place : Int
  tx : Int → Option ByteArray
  un : Int → List (List dQ)
  mode : Int
  over : Bool
  last : Int
  fr : Int
  to : Int
  res : Int
  run : Bool
structure bD where
  c : jU
  hl : List nS
  base : Int
  most : Int
  tZ : Int
  given : Bool
  minus : Bool
  arg : Int
  inn : Bool
  was : jU
  cls : Int
  killed : Bool
  jY : Bool
  argues : Bool
  whole : Bool
  put : List dQ
def WX (hl : List nS) (k : Int) : nS := if 0 ≤ k ∧ k < hl.length then hl.getD k.toNat default else (.empty, 0)
def Ew (hl : List nS) (k : Int) : ByteArray := (WX hl k).1
def Ba (hl : List nS) (tx : Int → Option ByteArray) (k : Int) : ByteArray := (tx k).getD (Ew hl k)
def Pn (hl : List nS) (tx : Int → Option ByteArray) (place : Int) (k : Nat) : Bool := decide ((k : Int) ≠ place) && !((Ba hl tx k).toList == (Ew hl k).toList)
def Po (hl : List nS) (tx : Int → Option ByteArray) (place : Int) (n : Nat) : List (Int × ByteArray) := ((List.range n).filter (Pn hl tx place)).map fun (k : Nat) => ((k : Int), Ba hl tx k)
def Pq (hl : List nS) (tx : Int → Option ByteArray) (place : Int) : List (Int × ByteArray) := Po hl tx place hl.length ++ (if place ≠ hl.length then [((hl.length : Int), Ba hl tx hl.length)] else [])
def Nq (G : List (List dQ)) (inn : Bool) (put : List dQ) (typed run : Bool) : Int := (G.length : Int) + if inn && !put.isEmpty && !(typed && run) then 1 else 0
namespace bD
variable (s : bD)
def here : List (List dQ) := s.c.un s.c.place
def jH (G : List (List dQ)) : bD := { s with c := { s.c with un := uO s.c.un s.c.place G } }
def qX : Int := if s.inn then 0 else 1
def yc : Int := if s.inn then 1 else 0
def bT : bD := if s.inn then s else { s with inn := true, was := s.c, cls := 0, killed := false, jY := false, argues := false, whole := true, put := [] }
def iH (on : Bool) : List (List dQ) := if s.put = [] then s.here else if on then (match s.here.getLast? with | some g => s.here.dropLast ++ [g ++ s.put] | none => [s.put]) else s.here ++ [s.put]
def dI (on : Bool) : bD := if s.put = [] then s else { s.jH (s.iH on) with put := [] }
def sO : bD := { s with given := false, minus := false, arg := -1 }
def tX (err : Int) : Int := if s.inn then err else 1
def vU : bD := { s.sO with inn := false, c := { s.was with last := 0, fr := 0, to := 0 }, tZ := IntKind.i64.wrap (s.tZ + 1), put := [] }
def typed : Bool := s.cls == 3 && s.whole
def dZ : bD := { (if s.argues then s else s.sO) with inn := false }
def iQ : bD :=
  let t := s.dZ.dI (s.typed && s.c.run)
  let c := { t.c with run := s.typed && (!s.put.isEmpty || s.c.run), last := s.cls }
  { t with c := if s.cls ≠ 2 then { c with fr := 0, to := 0 } else c }
def ji (err : Int) : bD := if s.inn then (if err = 0 then s.iQ else s.vU) else s
def lJ (x : dQ) : bD :=
  if x.2.1.length + x.2.2.length = 0 then s else
  if 16384 ≤ dO s.here s.put then { s.jH [] with put := [x], c := { (s.jH []).c with run := false } } else { s with put := s.put ++ [x] }
def iI (L : List Int) (pt mk : Int) : bD := { s with c := { s.c with L := L, pt := pt, mark := mk } }
def jZ (i j : Int) (l : List Int) : Int := if s.inn then iW s.c.L i j l else 1
def jc (i j : Int) (l : List Int) : bD := if s.inn then (s.iI (kP s.c.L i j l) (kQ s.c.L s.c.pt i j l) (lC s.c.L s.c.mark i j l)).lJ (mG s.c.L i j l, iY s.c.L i j l, iZ s.c.L i j l) else s
def Iy (l : List Int) : Int := s.jZ s.c.pt s.c.pt l
def xk (l : List Int) : bD := s.jc s.c.pt s.c.pt l
def yg (l : List Int) : Int := if s.c.over then min (s.c.pt + l.length) s.c.L.length else s.c.pt
def Nr (l : List Int) : Int := s.jZ s.c.pt (s.yg l) l
def vw (l : List Int) : bD := if s.inn then (let t := s.jc s.c.pt (s.yg l) l; if s.Nr l = 0 ∧ s.cls = 0 then { t with cls := 3 } else t) else s
def way (back : Bool) : Int := if s.c.last = 1 ∨ s.killed = true then (if back then 2 else 1) else 0
def jy (i j : Int) : Prop := i < 0 ∨ s.c.L.length < i ∨ j < i ∨ s.c.L.length < j
instance (i j : Int) : Decidable (s.jy i j) := by unfold jy; infer_instance
def cut (i j : Int) : List Int := (s.c.L.drop i.toNat).take (j.toNat - i.toNat)
def kD (i j : Int) (back : Bool) : Int × List (List Int) × Nat := tK s.c.E s.c.at_ (s.way back) (s.cut i j)
def kE (i j : Int) (back : Bool) : Int := if s.inn then (if s.jy i j then 70 else (s.kD i j back).1) else 1
def zu (E : List (List Int)) (a : Nat) : bD := { s with c := { s.c with E := E, at_ := a } }
def oh (i j : Int) (back : Bool) : bD := if s.kE i j back = 0 then { s.zu (s.kD i j back).2.1 (s.kD i j back).2.2 with killed := true, cls := 1 } else s
def JF (i j : Int) (back : Bool) : Int := if s.kE i j back = 0 then (s.oh i j back).jZ i j [] else s.kE i j back
def qY (i j : Int) (back : Bool) : bD := if s.kE i j back = 0 then (s.oh i j back).jc i j [] else s
def top : List Int := s.c.E.getD s.c.at_ []
def vC : Int := if s.inn then (if s.c.E.length = 0 then 6 else s.Iy s.top) else 1
def pY : bD :=
  if s.vC = 0 then
    let t := s.xk s.top
    { t with jY := true, cls := 2, c := { t.c with mark := Tn t.c.L t.c.mark s.c.pt, fr := s.c.pt, to := s.c.pt + s.top.length } }
  else s
def RQ (n : Int) : List Int := s.c.E.getD (xR s.c.E.length s.c.at_ n) []
def WY (n : Int) : Int := if s.inn then (if s.c.last ≠ 2 ∨ s.jY = true then 6 else if s.c.E.length = 0 then 6 else s.jZ s.c.fr s.c.to (s.RQ n)) else 1
def aad (n : Int) : bD :=
  if s.WY n = 0 then
    let t := s.jc s.c.fr s.c.to (s.RQ n)
    { t with jY := true, cls := 2, c := { t.c with E := s.c.E, at_ := xR s.c.E.length s.c.at_ n, fr := s.c.fr, to := s.c.fr + (s.RQ n).length } }
  else s
def kills : List (List Int) := s.c.E.drop s.c.at_ ++ s.c.E.take s.c.at_
def Bc (x : Int) : Int := if s.inn then Un s.c.L.length x else 1
def sQ (x : Int) : bD := if s.inn then s.iI s.c.L (Ql s.c.L.length s.c.pt x) s.c.mark else s
def Y9 (x : Int) : Int := if s.inn then Wx s.c.L x else 1
def Za (x : Int) : bD := if s.inn then s.iI s.c.L s.c.pt (Tn s.c.L s.c.mark x) else s
def Zb : Int := if s.inn then ZK s.c.mark else 1
def Zc : bD := if s.inn then s.iI s.c.L (ZL s.c.pt s.c.mark) (ZM s.c.pt s.c.mark) else s
def WZ (b : List Int × Int × Int) (x : dQ) : List Int × Int × Int := (WI b.1 x.1 x.2.1 x.2.2, WJ b.1 b.2.1 x.1 x.2.1 x.2.2, WM b.1 b.2.2 x.1 x.2.1 x.2.2)
def apps (b : List Int × Int × Int) (l : List dQ) : List Int × Int × Int := l.foldl WZ b
def Qr (l : List dQ) : bD := let b := apps (s.c.L, s.c.pt, s.c.mark) l; s.iI b.1 b.2.1 b.2.2
def JG : bD := { s with whole := false, c := { s.c with run := false } }
def Zd : bD := if s.inn then (let t := s.dI false; if t.here = [] then t else ((t.jH t.here.dropLast).Qr ((t.here.getLastD []).reverse.map AQ)).JG) else s
def Nj : Int := if s.inn then (if (s.dI false).here = [] then 6 else 0) else 1
def aae : bD := if s.inn then (let t := s.dI false; if t.here = [] then t else ((t.jH []).Qr (t.here.flatten.reverse.map AQ)).JG) else s
def RS (d : Int) : Int := if s.inn then (if d < 0 ∨ 9 < d then 1 else 0) else 1
def W9 (d : Int) : bD := if s.RS d = 0 then { s with given := true, argues := true, arg := min (max s.arg 0 * 10 + d) 1000000 } else s
def aaf : bD := if s.inn then { s with given := true, argues := true, minus := !s.minus } else s
def Xa (n : Int) : Int := if s.inn then (if 1000000 < n ∨ n < -1000000 then 1 else 0) else 1
def aag (n : Int) : bD := if s.Xa n = 0 then { s with given := true, argues := true, minus := decide (n < 0), arg := max n (-n) } else s
def count : Int := if s.given then (let n := if s.arg < 0 then 1 else s.arg; if s.minus then -n else n) else 1
def UM (m : Int) : Int := if s.inn then (if m < 0 ∨ 2 < m then 1 else 0) else 1
def Ze (m : Int) : bD := if s.UM m = 0 then { s with c := { s.c with mode := m } } else s
def Zf (b : Bool) : bD := if s.inn then { s with c := { s.c with over := b } } else s
def Xb (r : Int) : Int := if s.inn then (if r < 1 ∨ 3 < r then 1 else 0) else 1
def aah (r : Int) : bD := if s.Xb r = 0 then { s with c := { s.c with res := r } } else s
def first (k : Int) : ByteArray := Ew s.hl k
def stands (k : Int) : ByteArray := (s.c.tx k).getD (s.first k)
def Xc : Int := Nq s.here s.inn s.put s.typed s.c.run
def saved : List (Int × ByteArray) := Pq s.hl s.c.tx s.c.place
def Zg : Int := if s.inn then s.was.last else s.c.last
def frS : Int := if s.inn then s.was.fr else s.c.fr
def toS : Int := if s.inn then s.was.to else s.c.to
end bD
def jU.fresh (l : List Int) (E : List (List Int)) (a : Nat) (place mode : Int) : jU := ⟨l, l.length, -1, E, a, place, fun _ => none, fun _ => [], mode, false, 0, 0, 0, 0, false⟩
def bD.start (s : bD) (hl : List nS) (base most : Int) (l : List Int) : bD := { s with c := jU.fresh l s.c.E s.c.at_ hl.length s.c.mode, hl := hl, base := base, most := most, given := false, minus := false, arg := -1 }
def bD.new (hl : List nS) (base most : Int) : bD :=
  let c := jU.fresh [] [] 0 hl.length 0
  { c := c, hl := hl, base := base, most := most, tZ := 0, given := false, minus := false, arg := -1, inn := false, was := c, cls := 0, killed := false, jY := false, argues := false, whole := false, put := [] }
end Go.Proofs.YtgndbccogcofjaaGreatDoor
end
