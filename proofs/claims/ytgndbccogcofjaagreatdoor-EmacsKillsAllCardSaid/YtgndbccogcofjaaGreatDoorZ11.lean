import Derived.Test.YtgndbccogcofjaaGreatDoorZ2
import Derived.Test.YtgndbccogcofjaaGreatDoorZ10
import Derived.Test.YtgndbccogcofjaaGreatDoorZ8
import Derived.Test.YtgndbccogcofjaaGreatDoorZ9
set_option linter.unusedSimpArgs false
set_option linter.unusedVariables false
/- Texts of mine, joined, their names in short: UList4 UList5 UList6 UList7 Grp0 Hist EdM. -/
section
namespace Go.Proofs.YtgndbccogcofjaaGreatDoor
open Go.RowKit
open _root_.Go.Proofs.Tryz
def OJ (G : List (List dU)) (N : List dU) : Int := if G.length + N.length = 0 then 6 else 0
def KO (G : List (List dU)) (N : List dU) : List (List dU) := if G.length + N.length = 0 then G else (iP G N).dropLast
def KP (G : List (List dU)) (N : List dU) : List dU := if G.length + N.length = 0 then N else []
def KQ (G : List (List dU)) (N : List dU) (op : Int) : Int := if G.length + N.length = 0 then op else 0
def RN (G : List (List dU)) (N : List dU) : List dU := if G.length + N.length = 0 then [] else ((iP G N).getLastD []).reverse.map Cm
theorem EC {G : List (List dU)} {g N : List dU} : dR (G ++ [g]) N = dR G N + g.length := by simp [dR]; omega
section
variable {w0 w : World} {F : HP} {p : Nat} {G : List (List dU)} {N : List dU} {op : Int} {gv nv v : Value} {gs : List (Value × List cO)} {now es : List cO} {a : Int} {d z : Value} {dl il : List Int}
theorem JE (h : ¬ G.length + N.length = 0) : iP G N ≠ [] := by
  unfold iP; split
  · rename_i hN; rintro rfl; subst hN; exact h rfl
  · simp
theorem aB.JF (H : aB w0 w (dQ p G [] op • F)) (hG : G ≠ []) : ∃ gv nv hs gl tZ, G = hs.map (fun g => g.2.map cO.says) ++ [tZ.map cO.says] ∧ QD G [] op ∧ G.length = hs.length + 1 ∧ hs.length ≤ 16384 ∧ tZ.length ≤ 16384 ∧ (∀ k, k < tZ.length → EB (tZ.getD k default).says) ∧
    aB w0 w (dB p (.cells #[gv, nv, .int .i64 op, .int .i64 (dR G [] : Nat), .bool true] 180 (0, 0)) • Row 35 1 gv (hs.length + 1) (hs.map (·.1) ++ [gl]) • mg hs • yS gl tZ • DX nv [] • F) := by
  obtain ⟨gv, nv, gs, now, h1, h2, h3, h4, h5, h6, H⟩ := H.sD
  obtain rfl : now = [] := List.eq_nil_of_length_eq_zero (by simpa using h5)
  rcases List.eq_nil_or_concat gs with rfl | ⟨hs, ⟨gl, tZ⟩, rfl⟩
  · exact absurd h2.symm hG
  · have hG2 : G = hs.map (fun g => g.2.map cO.says) ++ [tZ.map cO.says] := by rw [← h2]; simp
    have hle : tZ.length ≤ 16384 := by
      have := h1.2.1
      rw [hG2, EC] at this
      simp at this
      omega
    refine ⟨gv, nv, hs, gl, tZ, hG2, h1, ?_, ?_, hle, fun k hk => ?_, ?_⟩
    · rw [hG2]; simp
    · rw [hG2] at h6; simp at h6; omega
    · refine h1.2.2.2.2.1 (tZ.map cO.says) (by rw [hG2]; simp) _ ?_
      rw [List.getD_eq_getElem?_getD, List.getElem?_eq_getElem hk]
      exact List.mem_map_of_mem (List.getElem_mem hk)
    · rw [List.concat_eq_append, List.length_append, List.map_append] at H
      have H1 := (H.f3.Ia (k := hs.length) (by simp)).swap
      rw [show (hs ++ [(gl, tZ)]).getD hs.length default = (gl, tZ) from by simp [List.getD_eq_getElem?_getD]] at H1
      have H2 := H1.Ot hs.length
      rw [List.take_left' rfl] at H2
      exact H2.of_eq (by unfold DX; ac_rfl)
theorem wQ (H : aB w0 w (dQ p G N op • F)) : fA prog 162 #[.pointer (some ⟨p, 0, none⟩)] w fun v w' => ∃ u, ∃ fs : List cO, v = .tuple #[u, .int .i64 (OJ G N)] ∧ fs.map cO.says = RN G N ∧
  aB w0 w' (Row 101 3 u fs.length (fs.flatMap cO.enc) • iR fs • dQ p (KO G N) (KP G N) (KQ G N op) • F) := by
 unfold OJ RN KO KP KQ
 refine fU func162 ntmps162 ?_
 dsimp only [aY, Nat.reduceAdd]
 refine ay (ah (aU rfl (aU rfl (aA (aj (ay (ay (ah (aO rfl (bZ rfl func181 (iI H) ?_))))))))))
 rintro _ _ ⟨rfl, rfl⟩
 refine aA (aj (oK (aP (aj (ay (ay ?_))))))
 obtain ⟨vk, sF, iW, iO, iy, oN, mM, BX, BZ, FN, kK⟩ := (H).sD
 have Ij := kK.drew
 have iJ := aB.kp (Ij.f5.f5.f5.f5.f5)
 refine yQ [4, 10] iJ rfl (iE 0 rfl iJ rfl (jF 1 rfl iJ rfl (gG 2 rfl iJ 0 underlying180 rfl sizeOf178 rfl (gG 3 rfl iJ 0 underlying178 rfl sizeOf176 rfl (je 4 rfl iJ (fun W hW => jE underlying176 rfl ((Kp.h hW)).get.2 rfl) (jc 5 rfl iJ (fun _ => iH ((Ij.f2).aT) underlying176 rfl) (iE 6 rfl iJ rfl (jF 7 rfl iJ rfl (gG 8 rfl iJ 0 underlying180 rfl sizeOf178 rfl (gG 9 rfl iJ 1 underlying178 rfl sizeOf35 rfl (je 10 rfl iJ (fun W hW => jE underlying35 rfl ((Kp.h hW)).get.2 rfl) (jc 11 rfl iJ (fun _ => iH ((Ij.f4).aT) underlying35 rfl) (jc 12 rfl iJ (fun _ => fP rfl rfl (by omega)) (jc 13 rfl iJ (fun _ => eX rfl rfl) (pU (aj (aN rfl (fun h1 => ?_) (fun h1 => ?_))))))))))))))))))
 ·(try simp only [aH] at h1)
  have Xa : G.length + N.length = 0 := by omega
  have Ou := Ij.f5.f5.f5.f5.f5
  have Ov := aB.jg iy oN mM rfl Ou
  refine ay (ah (aU rfl (aU rfl (aA (aj (aJ (aK (kX (.inl rfl) results162 rfl rfl ?_))))))))
  simp only [if_pos Xa]
  exact ⟨_, [], rfl, rfl, ((Ov).oh none).UG⟩
 ·(try simp only [aH] at h1)
  have Xa : ¬ G.length + N.length = 0 := by omega
  have TJ := Ij.f5.f5.f5.f5.f5
  have TK := aB.jg iy oN mM rfl TJ
  refine aP (aj (ay (ah (aO rfl (bZ rfl func218 (vw TK) ?_)))))
  rintro _ w9 H9
  refine aA (aj (ay ?_))
  obtain ⟨gv, nv, hs, gl, tZ, hG, hok, hl1, hl2, hl3, hEB, HU⟩ := (H9).JF (JE Xa)
  have htot := hok.2.1
  refine ah (aO rfl (bP rfl (bg 0 underlying180 rfl sizeOf178 rfl (bg 0 underlying178 rfl sizeOf176 rfl (dS underlying176 rfl (HU).get.2 rfl (aW (iH ((HU.f2).aT) underlying176 rfl) (aW (iq rfl rfl (by omega)) (aU rfl (aA (aj (ay (ah (aO rfl (bP rfl (bg 0 underlying180 rfl sizeOf178 rfl (bg 0 underlying178 rfl sizeOf176 rfl (dS underlying176 rfl (HU).get.2 rfl (aO rfl ?_))))))))))))))))))
  obtain ⟨bgv, ogv, cgv, egv⟩ := Rd.Bh ((HU.f2).aT) (by omega)
  cases egv
  refine aW (iZ underlying176 sizeOf35 rfl rfl (by omega)) ?_
  refine aW (pO (gI underlying35 rfl) rfl (by first | exact Rd.L9 ((HU.f2).aT) (by omega) | exact Rd.U0 ((HU.f2).aT) (by omega) | exact Rd.Uu ((HU.f2).aT) (by omega))) ?_
  rw [show (hs.map (·.1) ++ [gl]).getD ((((hs.length + 1 : Nat)) : Int) - 1).toNat undef = gl from by rw [show ((((hs.length + 1 : Nat)) : Int) - 1).toNat = hs.length from by omega]; simp [List.getD_eq_getElem?_getD]]
  refine aU rfl (aA (aj (ay (ah (aO rfl (aO rfl (bP rfl (bg 0 underlying180 rfl sizeOf178 rfl (bg 0 underlying178 rfl sizeOf176 rfl (dS underlying176 rfl (HU).get.2 rfl (aO rfl (aW (Bj ((HU.f2).aT) underlying176 sizeOf35 rfl rfl rfl (by omega)) (bP rfl (bg 0 underlying180 rfl sizeOf178 rfl (bg 0 underlying178 rfl sizeOf176 rfl (aG (aQ 0 (l' := [_, _, _, _, _]) HU sizeOf176 rfl rfl (by first | rfl | exact Rd.one (Rd.Vs ((HU.f2).aT) (by omega))) rfl rfl) ?_))))))))))))))))
  rintro _ w10 mJ
  refine aA (aj (ay (ah (aO rfl (bP rfl (bg 0 underlying180 rfl sizeOf178 rfl (bg 3 underlying178 rfl sizeOf3 rfl (dS underlying3 rfl (mJ).get.2 rfl (aO rfl (aW (iH ((mJ.f4).xg) underlying35 rfl) (aW (iq rfl rfl (by omega)) (bP rfl (bg 0 underlying180 rfl sizeOf178 rfl (bg 3 underlying178 rfl sizeOf3 rfl (aG (aQ 3 (l' := [_, _, _, _, _]) mJ sizeOf3 rfl rfl (by first | rfl | assumption) rfl rfl) ?_)))))))))))))))
  rintro _ He uO
  refine aA (aj (ay (ah (aO rfl (bZ rfl func219 (yD uO.f4 hEB hl3) ?_)))))
  rintro WR w12 ⟨OL, RP, wE⟩
  refine aU rfl (aU rfl (aA (aj (aJ (kX (.inl rfl) results162 rfl rfl ?_)))))
  simp only [if_neg Xa]
  have hdl : (iP G N).dropLast = hs.map (fun g => g.2.map cO.says) := by rw [hG]; simp
  have hlast : (iP G N).getLastD [] = tZ.map cO.says := by rw [hG]; simp
  have hX := (wE.f3.right.f6.f6.f5.f5.f5.f6).NS (h := hs.length) (by omega)
  rw [hdl, hlast]
  rw [Nat.mul_one, List.take_left' (by simp), show (((hs.length + 1 : Nat) : Int) - 1).toNat = hs.length from by omega, show Int.toNat 0 = 0 from rfl] at hX
  have hT : dR (iP G N) [] = dR (hs.map (fun g => g.2.map cO.says)) [] + tZ.length := by rw [hG, EC, List.length_map]
  have hok2 : QD (hs.map (fun g => g.2.map cO.says)) [] 0 := ⟨fun g hg => hok.1 g (by rw [hG]; exact List.mem_append_left _ hg), by omega, by decide, by decide, fun g hg => hok.2.2.2.2.1 g (by rw [hG]; exact List.mem_append_left _ hg), by simp⟩
  refine ⟨_, _, rfl, (by assumption), ?_⟩
  have hU := aB.oD (gv := lT 1 0 hs.length (.slice (some ⟨bgv, ogv, none⟩) (hs.length + 1) cgv)) (nv := nv) (gs := hs) (now := []) (ed := (dR (iP G N) [] : Nat) - (tZ.length : Int)) (F := Row 101 3 WR OL.length (OL.flatMap cO.enc) • iR OL • F) hok2 rfl rfl (by omega) (hX.of_eq (by unfold yA; ac_rfl))
  exact hU.of_eq (by ac_rfl)
end
end Go.Proofs.YtgndbccogcofjaaGreatDoor
end
section
namespace Go.Proofs.YtgndbccogcofjaaGreatDoor
open Go.RowKit
open _root_.Go.Proofs.Tryz
def pY (op : Int) : Int := if op = 0 then 1 else 0
def TL (G : List (List dU)) (N : List dU) (op : Int) : List (List dU) := if op = 1 then iP G N else G
def TM (N : List dU) (op : Int) : List dU := if op = 1 then [] else N
def QE (op : Int) : Int := if op = 0 then 0 else op - 1
theorem MQ {es : List cO} {k : Nat} (hk : k < es.length) : (es.take (k + 1)).map cO.says = (es.take k).map cO.says ++ [(es.getD k default).says] := by
  rw [List.take_succ_eq_append_getElem hk, List.map_append, List.getD_eq_getElem?_getD, List.getElem?_eq_getElem hk]
  rfl
section
variable {w0 w : World} {F : HP} {p : Nat} {G : List (List dU)} {N : List dU} {op : Int} {gv nv v : Value} {gs : List (Value × List cO)} {now es : List cO} {a : Int} {d z : Value} {dl il : List Int}
theorem uf (H : aB w0 w (dQ p G N op • F)) : fA prog 165 #[.pointer (some ⟨p, 0, none⟩)] w fun v w' => v = .int .i64 (pY op) ∧ aB w0 w' (dQ p (TL G N op) (TM N op) (QE op) • F) := by
 unfold pY TL TM QE
 refine fU func165 ntmps165 ?_
 dsimp only [aY, Nat.reduceAdd]
 refine ay (ah (aU rfl (aA (aj (ay (ay (ah (aO rfl (bZ rfl func181 (iI H) ?_)))))))))
 rintro _ _ ⟨rfl, rfl⟩
 refine aA (aj (oK (aP (aj (ay (ay ?_))))))
 obtain ⟨vk, sF, iW, iO, iy, oN, mM, BX, BZ, FN, kK⟩ := (H).sD
 have hop := iy.2.2.1
 have hop2 := iy.2.2.2.1
 refine ah (aO rfl (bP rfl (bg 0 underlying180 rfl sizeOf178 rfl (bg 2 underlying178 rfl sizeOf3 rfl (dS underlying3 rfl (kK).get.2 rfl (aW (eX rfl rfl) (aA (aj (aN rfl (fun h1 => ?_) (fun h1 => ?_))))))))))
 ·(try simp only [aH] at h1)
  have h0 : op = 0 := by omega
  refine ay (ah (aU rfl (aA (aj (aJ (aK (aI (.inl rfl) results165 rfl ?_)))))))
  have Ou := kK.f5.f5.f5.f5.f5
  have Ov := aB.jg iy oN mM rfl Ou
  subst h0
  exact ⟨rfl, Ov⟩
 ·(try simp only [aH] at h1)
  have h0 : ¬ op = 0 := by omega
  refine aP (aj (ay (ay (ah (aO rfl (bP rfl (bg 0 underlying180 rfl sizeOf178 rfl (bg 2 underlying178 rfl sizeOf3 rfl (dS underlying3 rfl (kK).get.2 rfl (aW (iq rfl rfl (by omega)) (bP rfl (bg 0 underlying180 rfl sizeOf178 rfl (bg 2 underlying178 rfl sizeOf3 rfl (aG (aQ 2 (l' := [_, _, _, _, _]) kK sizeOf3 rfl rfl (by first | rfl | assumption) rfl rfl) ?_))))))))))))))
  rintro _ w6 H6
  refine aA (aj (ay (ah (aO rfl (bP rfl (bg 0 underlying180 rfl sizeOf178 rfl (bg 2 underlying178 rfl sizeOf3 rfl (dS underlying3 rfl (H6).get.2 rfl (aW (eX rfl rfl) (aA (aj (aN rfl (fun h2 => ?_) (fun h2 => ?_)))))))))))))
  ·(try simp only [aH] at h2)
   have h1 : op = 1 := by omega
   have TJ := H6.f5.f5.f5.f5.f5
   have TK := aB.jg (op := op - 1) ⟨iy.1, iy.2.1, by omega, by omega, iy.2.2.2.2⟩ oN mM rfl TJ
   refine ah (aO rfl (bZ rfl func218 (vw TK) ?_))
   rintro _ w9 H9
   refine aA (aj (ay (ah (aU rfl (aA (aj (aJ (aI (.inl rfl) results165 rfl ?_))))))))
   subst h1
   exact ⟨rfl, H9⟩
  ·(try simp only [aH] at h2)
   have h1 : ¬ op = 1 := by omega
   refine aP (aj (ay (ah (aU rfl (aA (aj (aJ (aI (.inl rfl) results165 rfl ?_))))))))
   rw [if_neg h0, if_neg h1, if_neg h1, if_neg h0]
   exact ⟨rfl, aB.jg ⟨iy.1, iy.2.1, by omega, by omega, iy.2.2.2.2⟩ oN mM rfl H6.f5.f5.f5.f5.f5⟩
theorem CB (H : aB w0 w F) (hv : I8 w0 F 3 v es.length (es.flatMap cO.enc)) (he : ∀ k, k < es.length → gJ w0 F .i32 (es.getD k default).d (es.getD k default).dl ∧ gJ w0 F .i32 (es.getD k default).i (es.getD k default).il)
  (hB : ∀ k, k < es.length → EB (es.getD k default).says) (hL : es.length ≤ 16384) :
  fA prog 187 #[v] w fun v' w' => ∃ fs : List cO, fs.map cO.says = es.map cO.says ∧ aB w0 w' (Row 101 3 v' fs.length (fs.flatMap cO.enc) • iR fs • F) := by
 refine fU func187 ntmps187 ?_
 dsimp only [aY, Nat.reduceAdd]
 refine ay (ah (aU rfl (aA (aj (ay (ah (aU rfl (aA (aj (ay (ay (ah (aO rfl (aW (iH (hv _ (H)) underlying35 rfl) (aO rfl (aA (aj (bC ?_))))))))))))))))))
 refine ig [(6, _), (7, _)] (fun (⟨k, u⟩ : Nat × Value) => [(3, u), (8, .int .i64 (k : Int))]) (fun (⟨k, u⟩ : Nat × Value) W => k ≤ es.length ∧ ∃ fs : List cO, fs.map cO.says = (es.take k).map cO.says ∧ aB w0 W (Row 101 3 u fs.length (fs.flatMap cO.enc) • iR fs • F)) (fun (⟨k, u⟩ : Nat × Value) => es.length - k) ((0, .slice none 0 0)) (Sub.cons rfl (Sub.cons rfl (Sub.nil _))) (Sub.cons rfl (Sub.cons rfl (Sub.nil _))) ⟨by omega, [], rfl, (H.oh none).UG⟩ ?_
 rintro ⟨k, u⟩ w1 ⟨hk, fs, hfs, HL⟩
 dsimp only [List.cons_append, List.nil_append]
 refine ay (ah (aW (fE rfl rfl) (aA (aj (ay (aN rfl (fun h1 => ?_) (fun h1 => ?_)))))))
 ·(try simp only [aH] at h1)
  try (exfalso; first | contradiction | omega)
  all_goals
   refine aP (aj (ay (bC (ay (ah ?_)))))
   obtain ⟨bv, ov, cv, ev⟩ := Rd.Bh (hv _ (HL.right.right)) (by omega)
   cases ev
   refine aW (iZ underlying35 sizeOf101 rfl rfl (by omega)) (aW (jW (ys := [_, _, _]) (hv _ (HL.right.right)) (by omega) underlying101 rfl sizeOf101 rfl (nO cO.yw (by omega) default) rfl) ?_)
   have hkl : k < es.length := by omega
   obtain ⟨f1, f2⟩ := he k hkl
   obtain ⟨hb1, hb2⟩ := hB k hkl
   have hb1 : (es.getD k default).dl.length ≤ 35184372087808 := hb1
   have hb2 : (es.getD k default).il.length ≤ 35184372087808 := hb2
   have hfl : fs.length = k := by have h9 := congrArg List.length hfs; simp at h9; omega
   refine ji (fV (l := [_, _, _]) HL zeroValue101 rfl) ?_
   rintro _ w2 ⟨b2, rfl, H2⟩
   refine aG (cZ 0 (l' := [_, _, _]) (us := [_, _, _]) H2 sizeOf101 rfl rfl rfl (aC (by first | rfl | assumption) (aC (by first | rfl | exact Rd.one (f1 _ (H2.right.right.right))) (aC (by first | rfl | exact Rd.one (f2 _ (H2.right.right.right))) bU))) rfl rfl) ?_
   rintro _ w3 H3
   refine aA (aj (ah (aO rfl (aW (bW underlying101 rfl sizeOf101 rfl rfl (H3).get.2) (bZ rfl func220 (oZ H3 (fun W HW => f1 _ (HW.right.right.right)) (fun W HW => f2 _ (HW.right.right.right)) (by omega) (by omega)) ?_)))))
   rintro _ w4 ⟨d4, s4, rfl, H4⟩
   refine ji (pz H4 underlying35 sizeOf101 zeroValue101 rfl rfl rfl (by decide) (by decide)) ?_
   rintro l5 w5 H5
   refine ji (gX H5.f5 underlying35 (show (prog.info? 101).map (fun i => (i.zero, i.size, i.bytes)) = some (some (.agg #[.int .i64 0, .slice none 0 0, .slice none 0 0]), 3, 56) by kernel_rfl) rfl rfl rfl ((H5).aT) (aC (by first | rfl | assumption) (aC (by first | rfl | exact Rd.one ((H5.f2).aT)) (aC (by first | rfl | exact Rd.one ((H5.f3).aT)) bU))) (by omega) (by omega)) ?_
   rintro l6 w6 H6
   have VE := H6.f2.right
   refine aU rfl (aA (aS (aj (ah (aW (fP rfl rfl (by omega)) (aO rfl (aA ?_)))))))
   refine fD ((k + 1, l6)) ?_ ?_ ?_ ?_
   ·exact (Sub.cons rfl (Sub.cons rfl (Sub.nil _)))
   ·exact (Sub.cons rfl (Sub.cons rfl (Sub.nil _)))
   ·(try dsimp only)
    first | done | exact ⟨by omega, _, by rw [List.map_append, hfs, MQ (by omega)]; rfl, (aB.rZ (VE.f4.right.f4.f2.f4.f4).jv.swap.jv.swap.f3).UG⟩
   ·(try dsimp only); omega
 ·(try simp only [aH] at h1)
  try (exfalso; first | contradiction | omega)
  all_goals
   refine eU (aX (aX (bV (aj (ay (ah (aO rfl (aU rfl (aA (aj (aJ (aI (.inl rfl) results187 rfl ?_))))))))))))
   rw [List.take_of_length_le (by omega)] at hfs
   exact ⟨_, hfs, HL.f2.f2⟩
theorem aB.jL {es : List cO} (H : aB w0 w (iR es • F)) {k : Nat} (hk : k < es.length) : jR w .i32 (es.getD k default).d (es.getD k default).dl ∧ jR w .i32 (es.getD k default).i (es.getD k default).il := let ⟨I, h, hI⟩ := H.sV; ⟨(h k hk).1.rd hI, (h k hk).2.rd hI⟩
theorem vC (H : aB w0 w (Row 101 3 v es.length (es.flatMap cO.enc) • iR es • F)) (hB : ∀ k, k < es.length → EB (es.getD k default).says) (hL : es.length ≤ 16384) :
    fA prog 187 #[v] w fun v' w' => ∃ fs : List cO, fs.map cO.says = es.map cO.says ∧ aB w0 w' (Row 101 3 v' fs.length (fs.flatMap cO.enc) • iR fs • Row 101 3 v es.length (es.flatMap cO.enc) • iR es • F) :=
  CB H (fun W HW => HW.aT) (fun k hk => ⟨fun W HW => (HW.right.jL hk).1, fun W HW => (HW.right.jL hk).2⟩) hB hL
theorem ru (H : aB w0 w (yS v es • F)) (hB : ∀ k, k < es.length → EB (es.getD k default).says) (hL : es.length ≤ 16384) :
    fA prog 187 #[v] w fun v' w' => ∃ fs : List cO, fs.map cO.says = es.map cO.says ∧ aB w0 w' (Row 101 3 v' fs.length (fs.flatMap cO.enc) • iR fs • yS v es • F) :=
  CB H (fun W HW => HW.xg) (fun k hk => ⟨fun W HW => HW.Vw hk, fun W HW => HW.Vx hk⟩) hB hL
end
end Go.Proofs.YtgndbccogcofjaaGreatDoor
end
section
namespace Go.Proofs.YtgndbccogcofjaaGreatDoor
open Go.RowKit
open _root_.Go.Proofs.Tryz
def aak (G : List (List dU)) (N : List dU) : List dU := (iP G N).flatten.reverse.map Cm
section
variable {w0 w : World} {F : HP} {p : Nat} {G : List (List dU)} {N : List dU} {op : Int} {gv nv v u : Value} {gs : List (Value × List cO)} {now es fs : List cO} {a : Int} {d z : Value} {dl il : List Int}
theorem CG (H : aB w0 w (dQ p G N op • F)) : fA prog 195 #[.pointer (some ⟨p, 0, none⟩)] w fun _ w' => aB w0 w' (dQ p [] [] 0 • F) := by
 refine fU func195 ntmps195 ?_
 dsimp only [aY, Nat.reduceAdd]
 refine ay (ah (aO rfl (bZ rfl func181 (iI H) ?_)))
 rintro _ _ ⟨rfl, rfl⟩
 refine aW (jS rfl) (aA (aj (aN rfl (fun h1 => ?_) (fun h => by exfalso; (try simp only [aH] at h); simp at h))))
 (try simp only [aH] at h1)
 obtain ⟨vk, sF, iW, iO, iy, oN, mM, BX, BZ, FN, kK⟩ := (H).sD
 refine ah (aO rfl (aW (dW (pl := #[(0, 4), (4, 1)]) (#[_, _, _, _, _]) underlying180 zeroValue180 (fun w => by kernel_rfl) rfl (rfl)) (bP rfl (aG (cZ 0 (l' := [_, _, _, _, _]) (us := [_, _, _, _, _]) kK sizeOf180 rfl rfl rfl (aC (by first | rfl | assumption) (aC (by first | rfl | assumption) (aC (by first | rfl | assumption) (aC (by first | rfl | assumption) (aC (by first | rfl | assumption) bU))))) rfl rfl) ?_))))
 rintro _ w3 H3
 refine aA (fM (.inr rfl) results195 ?_)
 refine aB.oD (gv := .slice none 0 0) (nv := .slice none 0 0) (gs := []) (now := []) ⟨by simp, by decide, by decide, by decide, by simp, by simp⟩ rfl rfl rfl ?_
 exact (((H3.f2.right.f2.right.f2.right.f2.right).oh none).yB none).of_eq (by ac_rfl)
theorem aB.FW (H : aB w0 w (mg gs • F)) {k : Nat} {gl : Value} {tZ : List cO} (hk : k < gs.length) (hg : gs.getD k default = (gl, tZ)) : aB w0 w (yS gl tZ • mg gs • F) := by
  have := H.Ia hk
  rwa [hg] at this
end
end Go.Proofs.YtgndbccogcofjaaGreatDoor
end
section
namespace Go.Proofs.YtgndbccogcofjaaGreatDoor
open Go.RowKit
open _root_.Go.Proofs.Tryz
theorem MR {G : List (List dU)} {k : Nat} (hk : k < G.length) : G.take (k + 1) = G.take k ++ [G.getD k []] := by
  rw [List.take_succ_eq_append_getElem hk, List.getD_eq_getElem?_getD, List.getElem?_eq_getElem hk]
  rfl
theorem FX {G : List (List dU)} {g : List dU} (h : g ∈ G) : g.length ≤ (G.map List.length).sum := by
  induction G with
  | nil => cases h
  | cons x G ih =>
    rw [List.map_cons, List.sum_cons]
    rcases List.mem_cons.1 h with rfl | h
    · omega
    · have := ih h; omega
theorem Ik {es : List cO} {l : List dU} (h : es.map cO.says = l) (hl : ∀ e ∈ l, EB e) : ∀ k, k < es.length → EB (es.getD k default).says := fun k hk =>
  hl _ (by rw [← h]; exact List.mem_map_of_mem (rX hk))
section
variable {w0 w : World} {F : HP} {p : Nat} {G : List (List dU)} {N : List dU} {op : Int}
theorem CJ (H : aB w0 w (dQ p G N op • F)) : fA prog 116 #[.pointer (some ⟨p, 0, none⟩)] w fun v w' => ∃ q, v = .pointer (some ⟨q, 0, none⟩) ∧ aB w0 w' (dQ q G N op • dQ p G N op • F) := by
 refine fU func116 ntmps116 ?_
 dsimp only [aY, Nat.reduceAdd]
 refine ay (ah (aU rfl (aA (aj (ay (ay (ah (aO rfl (bZ rfl func181 (iI H) ?_)))))))))
 rintro _ _ ⟨rfl, rfl⟩
 refine aA (aj (oK (aP (aj (ay ?_)))))
 obtain ⟨vk, sF, iW, iO, iy, oN, mM, BX, BZ, FN, kK⟩ := (H).sD
 have hLn : iO.length ≤ 16384 := by omega
 have hBn := Ik mM iy.2.2.2.2.2
 refine ah (aO rfl (bP rfl (aW (bW underlying180 rfl sizeOf180 rfl rfl (kK).get.2) (ji (fV (l := [_, _, _, _, _]) kK zeroValue180 rfl) ?_))))
 rintro _ w3 ⟨b3, rfl, H3⟩
 refine aG (cZ 0 (l' := [_, _, _, _, _]) (us := [_, _, _, _, _]) H3 sizeOf180 rfl rfl rfl (aC (by first | rfl | exact Rd.one ((H3.f3).aT)) (aC (by first | rfl | exact Rd.one ((H3.f5).aT)) (aC (by first | rfl | assumption) (aC (by first | rfl | assumption) (aC (by first | rfl | assumption) bU))))) rfl rfl) ?_
 rintro _ w4 H4
 refine aA (aj (ay (ah (aO rfl (bP rfl (bg 0 underlying180 rfl sizeOf178 rfl (bg 1 underlying178 rfl sizeOf35 rfl (dS underlying35 rfl (H4.f2).get.2 rfl (bZ rfl func187 (vC H4.f6.f6 hBn hLn) ?_)))))))))
 rintro u5 w5 ⟨fs5, XR, H5⟩
 obtain ⟨es1, rfl⟩ : ∃ q, q = fs5 := ⟨_, rfl⟩
 have hes1 := XR
 refine bg 0 underlying180 rfl sizeOf178 rfl (bg 0 underlying178 rfl sizeOf176 rfl (aG (aQ 0 (l' := [_, _, _, _, _]) H5.f5 sizeOf176 rfl rfl (by first | rfl | assumption) rfl rfl) ?_))
 rintro _ w6 H6
 refine bg 0 underlying180 rfl sizeOf178 rfl (bg 1 underlying178 rfl sizeOf35 rfl (aG (aQ 1 (l' := [_, _, _, _, _]) H6 sizeOf35 rfl rfl (by first | rfl | exact Rd.one ((H6.f2).aT)) rfl rfl) ?_))
 rintro _ w7 H7
 refine aA (aj (ay (ay (ah (aO rfl (bP rfl (bg 0 underlying180 rfl sizeOf178 rfl (bg 0 underlying178 rfl sizeOf176 rfl (dS underlying176 rfl (H7.f6).get.2 rfl (aW (iH ((H7.f7).aT) underlying176 rfl) (aO rfl (aA (aj (bC ?_))))))))))))))
 obtain ⟨RQ, RS, VF, -⟩ := ((H7.f7).aT).form
 subst VF
 refine ig [(3, _), (25, _), (26, _)] (fun (k : Nat) => [(27, .int .i64 (k : Int))]) (fun (k : Nat) W => k ≤ iW.length ∧ ∃ gu, ∃ hs : List (Value × List cO), hs.map (fun g => g.2.map cO.says) = G.take k ∧ aB w0 W (dB b3 (.cells #[gu, u5, .int .i64 op, .int .i64 (dR G N : Nat), .bool true] 180 (0, 0)) • Row 35 1 gu hs.length (hs.map (·.1)) • mg hs • Row 101 3 u5 es1.length (es1.flatMap cO.enc) • iR es1 • dB p (.cells #[(.slice RQ (iW.length) RS), sF, .int .i64 op, .int .i64 (dR G N : Nat), .bool true] 180 (0, 0)) • Row 35 1 (.slice RQ (iW.length) RS) iW.length (iW.map (·.1)) • mg iW • Row 101 3 sF iO.length (iO.flatMap cO.enc) • iR iO • F)) (fun (k : Nat) => iW.length - k) (0) (Sub.cons rfl (Sub.cons rfl (Sub.cons rfl (Sub.nil _)))) (Sub.cons rfl (Sub.nil _)) ⟨by omega, _, [], rfl, ((H7.f5.f5.f8.f8.f8.f6.f8.f8).yB none).Tz.f5⟩ ?_
 rintro k w9 ⟨hk, gu, hs, OM, HL⟩
 dsimp only [List.cons_append, List.nil_append]
 refine ay (ah (aW (fE rfl rfl) (aA (aj (ay (aN rfl (fun h1 => ?_) (fun h1 => ?_)))))))
 ·(try simp only [aH] at h1)
  refine aP (aj (ay (bC (ay (ah ?_)))))
  obtain ⟨ZT, ZU, rfl⟩ := Rd.pos ((HL.f7).aT) (by omega)
  refine aW (iZ underlying176 sizeOf35 rfl rfl (by omega)) ?_
  refine aW (pO (gI underlying35 rfl) rfl (by first | exact Rd.L9 ((HL.f7).aT) (by omega) | exact Rd.U0 ((HL.f7).aT) (by omega) | exact Rd.Uu ((HL.f7).aT) (by omega))) ?_
  have hkl : k < iW.length := by omega
  rw [show (iW.map (·.1)).getD k undef = (iW.getD k default).1 from by simp [List.getD_eq_getElem?_getD, hkl]]
  obtain ⟨gl, tZ, hg⟩ : ∃ gl tZ, iW.getD k default = (gl, tZ) := ⟨_, _, rfl⟩
  rw [hg]
  have TN := HL.f8
  have TP := TN.FW hkl hg
  have hge : tZ.map cO.says = G.getD k [] := by
   rw [← oN]
   have h9 : (iW.map (fun g => g.2.map cO.says)).getD k [] = (iW.getD k default).2.map cO.says := by simp [List.getD_eq_getElem?_getD, hkl]
   rw [h9, hg]
  have hgm : G.getD k [] ∈ G := rX (by omega)
  have hBg := Ik hge (iy.2.2.2.2.1 _ hgm)
  have VG : tZ.length ≤ 16384 := by
   have h8 := iy.2.1
   unfold dR at h8
   have h7 := congrArg List.length hge
   rw [List.length_map] at h7
   have h6 := FX hgm
   omega
  have XT := congrArg List.length OM
  rw [List.length_map, List.length_take] at XT
  refine aU rfl (aA (aj ?_))
  have RU := TP.drew
  have CO := aB.kp (RU.f11.f11.f11.f11.f11.f11.f11.f11.f11.f11.f11)
  refine yQ [2] CO rfl (gG 0 rfl CO 0 underlying180 rfl sizeOf178 rfl (gG 1 rfl CO 0 underlying178 rfl sizeOf176 rfl (je 2 rfl CO (fun W hW => jE underlying176 rfl ((Kp.h hW).f3).get.2 rfl) (iE 3 rfl CO rfl (jQ 4 rfl (wK rfl func187 (ru RU hBg VG)) ?_)))))
  rintro WR w12 ⟨OL, RP, wE⟩
  obtain ⟨es2, rfl⟩ : ∃ q, q = OL := ⟨_, rfl⟩
  have hes2 := RP
  have yC := aB.kp (wE.f13.f13.f13.f13.f13.f13.f13.f13.f13.f13.f13.f13.f13)
  refine dP yC (fun W hW => (Kp.h hW).right.right.f11.f11.f11.f11.f11.f11.f11.f11.f11.f11.f11) ?_
  refine jQ 5 rfl (nK (vs := [_]) wE underlying176 sizeOf35 zeroValue35 rfl rfl rfl (by decide) (aC (by first | rfl | exact Rd.one ((wE).aT)) bU)) ?_
  rintro l13 ND vY
  have wO := aB.kp (vY.f14.f14.f14.f14.f14.f14.f14.f14.f14.f14.f14.f14.f14.f14)
  refine dP wO (fun W hW => (Kp.h hW).right.f13.f13.f13.f13.f13.f13.f13.f13.f13.f13.f13.f13.f13) ?_
  refine jQ 6 rfl (gX vY.f7 underlying176 (show (prog.info? 35).map (fun i => (i.zero, i.size, i.bytes)) = some (some (.slice none 0 0), 1, 24) by kernel_rfl) rfl rfl rfl ((vY).aT) (aC (by first | rfl | exact Rd.one ((vY.f2).aT)) bU) (by omega) (by omega)) ?_
  rintro ZQ Me yc
  have TQ := yc.f2.right
  have wP := aB.kp (TQ.f13.f13.f13.f13.f13.f13.f13.f13.f13.f13.f13.f13.f13)
  refine fF wP (by kernel_rfl) ?_
  refine gG 7 rfl wP 0 underlying180 rfl sizeOf178 rfl (gG 8 rfl wP 0 underlying178 rfl sizeOf176 rfl ?_)
  refine fH 9 rfl (by kernel_rfl) (aQ 0 (l' := [_, _, _, _, _]) TQ.f6 sizeOf176 rfl rfl (by first | rfl | exact Rd.one ((TQ).aT)) rfl rfl) ?_
  rintro _ w16 tJ
  have Il := aB.kp (tJ.f13.f13.f13.f13.f13.f13.f13.f13.f13.f13.f13.f13.f13)
  refine fF Il (by kernel_rfl) ?_
  have X := aB.pW (es := es2) (tJ.f5.right.f12.f12.f7.f12.f12.f12.f12.f8.f12.f10.f12.f12).deep
  have HN := (aB.su X.swap).Tz.f3
  have hnew : (hs ++ [(WR, es2)]).map (fun g => g.2.map cO.says) = G.take (k + 1) := by rw [List.map_append, OM, MR (by omega), ← hge, ← hes2]; rfl
  refine pU (aS (aj (ah (aW (fP rfl rfl (by omega)) (aO rfl (aA ?_))))))
  refine fD (k + 1) ?_ ?_ ?_ ?_
  ·exact (Sub.cons rfl (Sub.nil _))
  ·exact (Sub.cons rfl (Sub.cons rfl (Sub.cons rfl (Sub.nil _))))
  ·(try dsimp only)
   first | done | exact ⟨by omega, _, _, hnew, HN⟩
  ·(try dsimp only); omega
 ·(try simp only [aH] at h1)
  refine eU (aX (aX (bV (aj (ay (ah (aU rfl (aA (aj (aJ (aI (.inl rfl) results116 rfl ?_)))))))))))
  rw [List.take_of_length_le (by omega)] at OM
  have X := aB.jg (gs := hs) (now := es1) iy OM (hes1.trans mM) rfl (HL.f10.f10.f10.f10.f10.f10.f10.f10.f10.f10)
  have Y := aB.jg iy oN mM rfl X.f6.f6.f6.f6.f6
  exact ⟨_, rfl, Y.swap⟩
end
end Go.Proofs.YtgndbccogcofjaaGreatDoor
end
section
namespace Go.Proofs.YtgndbccogcofjaaGreatDoor
open Go.RowKit
def xk (G : List (List dU)) (N : List dU) : List (List dU) := (iP G N).reverse
def FY (N : List dU) : List (List dU) := if N = [] then [] else [N]
theorem OO (N : List dU) : (FY N).length ≤ 1 := by unfold FY; split <;> simp
theorem QF (G : List (List dU)) (N : List dU) : xk G N = FY N ++ G.reverse := by
  unfold xk FY iP; split <;> simp
end Go.Proofs.YtgndbccogcofjaaGreatDoor
end
section
namespace Go.Proofs.YtgndbccogcofjaaGreatDoor
open Go.RowKit
open _root_.Go.Proofs.Tryz
abbrev oG := ByteArray × Int
def kT (x : oG) : List Value := [.string x.1, .int .i64 x.2]
theorem zi (x : oG) : (kT x).length = 2 := rfl
def VH (x : oG) : Prop := x.1.size ≤ 16384 ∧ 0 ≤ x.2
def VI (hl : List oG) (base most : Int) : Prop := hl.length ≤ 4096 ∧ 1 ≤ base ∧ base ≤ 4611686018427387904 ∧ (hl.length : Int) ≤ most ∧ most ≤ 4096 ∧ ∀ x ∈ hl, VH x
def eG (p : Nat) (hl : List oG) (base most : Int) : HP := qW fun (v : Value) => fact (VI hl base most) • dB p (.cells #[v, .int .i64 base, .int .i64 most] 132 (0, 0)) • Row 128 2 v hl.length (hl.flatMap kT)
section
variable {P : Program} {L : List (Nat × Value)} {w0 w : World} {F : HP} {ty : TypeId} {p : Nat} {hl : List oG} {base most : Int} {v : Value}
theorem CP {t e sz : Nat} {z : Value} (H : aB w0 w F) (ht : P.underlying t = some (.slice e)) (hs : ∀ w, (sizeOf e).run P w = .ok sz w) (hz : ∀ w, (zeroValue e).run P w = .ok z w) :
    pJ P L (.buildSlice t 0 #[]) ty w fun v w' => aB w0 w' (Row e sz v 0 [] • F) := by
  refine nD (v := .slice (some ⟨w.heap.size, 0, none⟩) 0 0) (w' := w.alloc (.cells #[] e)) ?_ ?_
  · intro ρ hρ d pos kS g
    simp only [execOp, Instr.buildSlice, Sem.run_bind, run_underlying ht, Result.andThen_ok, hs]
    have h0 : Array.map (fun (_ : Nat) => (default : Value)) (Array.range 0) = #[] := Array.eq_empty_of_size_eq_zero (by simp)
    simp [Instr.fill, newRow, h0]
  · exact (H.alloc _).right.jd _
theorem aB.hist (H : aB w0 w (eG p hl base most • F)) : ∃ v, VI hl base most ∧ aB w0 w (dB p (.cells #[v, .int .i64 base, .int .i64 most] 132 (0, 0)) • Row 128 2 v hl.length (hl.flatMap kT) • F) := by
  obtain ⟨v, H⟩ := H.lg
  obtain ⟨h, H⟩ := H.flat.fact
  exact ⟨v, h, H.flat⟩
theorem aB.ug (h : VI hl base most) (H : aB w0 w (dB p (.cells #[v, .int .i64 base, .int .i64 most] 132 (0, 0)) • Row 128 2 v hl.length (hl.flatMap kT) • F)) : aB w0 w (eG p hl base most • F) :=
  aB.gQ v (aB.deep (aB.jq h H.deep))
theorem KR {hl : List oG} : ∀ x ∈ hl.flatMap kT, x.oneCell' = true := by
  intro x hx
  obtain ⟨e, _, hx⟩ := List.mem_flatMap.1 hx
  simp [kT] at hx
  rcases hx with rfl | rfl <;> rfl
theorem QG : (prog.info? 128).map (fun i => (i.zero, i.size, i.bytes)) = some (some (.agg #[.string .empty, .int .i64 0]), 2, 24) := by kernel_rfl
theorem yE (H : aB w0 w F) (hr : I8 w0 F 2 v hl.length (hl.flatMap kT)) (hb : hl.length ≤ 1099511627776) :
    fA prog 118 #[v] w fun v' w' => aB w0 w' (Row 128 2 v' hl.length (hl.flatMap kT) • F) := by
  obtain ⟨hlen, a, c, rfl, h1, h2, h3⟩ := hr w H
  refine fU func118 ntmps118 ?_
  dsimp only [aY, Nat.reduceAdd]
  refine ay (ah (aU rfl (aA (aj (ay (ay (ah (aO rfl (aW (uP underlying47 rfl rfl) (aA (aj (aN rfl (fun h1 => ?_) (fun h1 => ?_)))))))))))))
  · (try simp only [aH] at h1)
    try (exfalso; first | contradiction | omega)
    all_goals
      refine ay (ah (aU rfl (aA (aj (aJ (aK (aI (.inl rfl) results118 rfl ?_)))))))
      obtain rfl : a = none := by simpa using h1
      obtain rfl : hl = [] := by
        cases hl with
        | nil => rfl
        | cons x l => obtain ⟨b, o, e, _⟩ := h3 (by simp); cases e
      exact H.jd none
  · (try simp only [aH] at h1)
    try (exfalso; first | contradiction | omega)
    all_goals
      refine aP (aj (ay (ah (ji (CP H underlying47 sizeOf128 zeroValue128) ?_))))
      rintro _ w1 H1
      refine aO rfl (ji (gX H1 underlying47 QG rfl rfl rfl (hr.under _ H1) KR (by omega) (by omega)) ?_)
      rintro _ w2 H2
      refine aU rfl (aA (aj (aJ (aI (.inl rfl) results118 rfl ?_))))
      exact H2.of_eq (by rw [Nat.zero_add, List.nil_append])
theorem rC (H : aB w0 w (eG p hl base most • F)) : fA prog 117 #[.pointer (some ⟨p, 0, none⟩)] w fun v w' => v = .bool false ∧ w = w' := by
 refine fU func117 ntmps117 ?_
 dsimp only [aY, Nat.reduceAdd]
 refine ay (ah (aU rfl (aA (aj (ay ?_)))))
 obtain ⟨TR, xq, CQ⟩ := (H).hist
 refine ah (aO rfl (aW (eu underlying33 rfl rfl) (gB rfl (fun h1 => ?_) (fun h1 => ?_))))
 ·(try simp only [aH] at h1)
  try (exfalso; first | contradiction | omega)
  all_goals
   refine bD (bD (bD (bD (bD (bD (fQ rfl rfl (aU rfl (aA (aj (aJ (aI (.inl rfl) results117 rfl ?_)))))))))))
   exact ⟨by rw [show (base == 0) = false from by rw [beq_eq_false_iff_ne]; have := xq.2.1; omega], rfl⟩
 ·(try simp only [aH] at h1)
  try (exfalso; first | contradiction | omega)
  all_goals
   refine bf (aO rfl (bf (bP rfl (bf (bg 0 underlying132 rfl sizeOf130 rfl (bf (bg 1 underlying130 rfl sizeOf2 rfl (bf (dS underlying2 rfl (CQ).get.2 rfl (bf (aW (eX rfl rfl) (fG rfl rfl (aU rfl (aA (aj (aJ (aI (.inl rfl) results117 rfl ?_)))))))))))))))))
   exact ⟨by rw [show (base == 0) = false from by rw [beq_eq_false_iff_ne]; have := xq.2.1; omega], rfl⟩
theorem FZ {n : Int} (H : aB w0 w F) (hn : 0 ≤ n ∧ n ≤ 4096) : fA prog 107 #[.int .i64 n] w fun v w' => ∃ p, v = .tuple #[.pointer (some ⟨p, 0, none⟩), .int .i64 0] ∧ aB w0 w' (eG p [] 1 n • F) := by
 refine fU func107 ntmps107 ?_
 dsimp only [aY, Nat.reduceAdd]
 refine ay (ah (aU rfl (aU rfl (aA (aj (ay (ay (ah (aO rfl (aW (fE rfl rfl) (gB rfl (fun h1 => ?_) (fun h1 => ?_))))))))))))
 ·(try simp only [aH] at h1)
  try (exfalso; first | contradiction | omega)
  all_goals
   refine bD (bD (fQ rfl rfl (aA (aj (wB (ay (ah (aU rfl (aU rfl (aA (aj (aJ (aK (kX (.inl rfl) results107 rfl rfl ?_))))))))))))))
   exact ⟨_, rfl, aB.ug (v := .slice none 0 0) ⟨by simp, by decide, by decide, by simp; omega, by omega, by simp⟩ ((H.jd none).swap)⟩
 ·(try simp only [aH] at h1)
  try (exfalso; first | contradiction | omega)
  all_goals
   refine bf (aO rfl (bf (aW (dn rfl rfl) (fG rfl rfl (aA (aj (aN rfl (fun h2 => ?_) (fun h2 => ?_))))))))
   ·(try simp only [aH] at h2)
    try (exfalso; first | contradiction | omega)
    all_goals
     refine ay (ah (aU rfl (aU rfl (aA (aj (aJ (aK (kX (.inl rfl) results107 rfl rfl ?_))))))))
     exact ⟨_, rfl, aB.ug (v := .slice none 0 0) ⟨by simp, by decide, by decide, by simp; omega, by omega, by simp⟩ ((H.jd none).swap)⟩
   ·(try simp only [aH] at h2)
    try (exfalso; first | contradiction | omega)
    all_goals
     refine aP (aj (ay (ah (aO rfl (aW (dW (pl := #[(0, 1), (1, 1), (2, 1)]) (#[_, _, _]) underlying130 zeroValue130 (fun w => by kernel_rfl) rfl (rfl)) (aW (dW (pl := #[(0, 3)]) (#[_, _, _]) underlying132 zeroValue132 (fun w => by kernel_rfl) rfl (rfl)) (ji (iG (l := [_, _, _]) H rfl rfl) ?_)))))))
     rintro _ w1 ⟨b1, rfl, H1⟩
     refine aU rfl (aU rfl (aA (aj (aJ (kX (.inl rfl) results107 rfl rfl ?_)))))
     exact ⟨_, rfl, aB.ug (v := .slice none 0 0) ⟨by simp, by decide, by decide, by simp; omega, by omega, by simp⟩ ((H1.jd none).swap)⟩
theorem mD (H : aB w0 w (eG p hl base most • F)) : fA prog 102 #[.pointer (some ⟨p, 0, none⟩)] w fun v w' => v = .int .i64 hl.length ∧ aB w0 w' (eG p hl base most • F) := by
 refine fU func102 ntmps102 ?_
 dsimp only [aY, Nat.reduceAdd]
 refine ay (ah (aU rfl (aA (aj (ay (ay (ah (aO rfl (bZ rfl func117 (rC H) ?_)))))))))
 rintro _ _ ⟨rfl, rfl⟩
 refine aA (aj (oK (aP (aj (ay ?_)))))
 obtain ⟨TR, xq, CQ⟩ := (H).hist
 refine ah (aO rfl (bP rfl (bg 0 underlying132 rfl sizeOf130 rfl (bg 0 underlying130 rfl sizeOf47 rfl (dS underlying47 rfl (CQ).get.2 rfl (aW (iH ((CQ.f2).aT) underlying47 rfl) (aU rfl (aA (aj (aJ (aI (.inl rfl) results102 rfl ?_)))))))))))
 have Ou := CQ.f2.f2
 have Ov := aB.ug xq Ou
 exact ⟨rfl, Ov⟩
theorem mF (H : aB w0 w (eG p hl base most • F)) : fA prog 45 #[.pointer (some ⟨p, 0, none⟩)] w fun v w' => ∃ q, v = .pointer (some ⟨q, 0, none⟩) ∧ aB w0 w' (eG q hl base most • eG p hl base most • F) := by
 refine fU func45 ntmps45 ?_
 dsimp only [aY, Nat.reduceAdd]
 refine ay (ah (aU rfl (aA (aj (ay (ay (ah (aO rfl (bZ rfl func117 (rC H) ?_)))))))))
 rintro _ _ ⟨rfl, rfl⟩
 refine aA (aj (oK (aP (aj (ay ?_)))))
 obtain ⟨TR, xq, CQ⟩ := (H).hist
 have hcl := xq.1
 have Ij := CQ.drew
 have iJ := aB.kp (Ij.f2.f2)
 refine yQ [4, 10, 15] iJ rfl (iE 0 rfl iJ rfl (jF 1 rfl iJ rfl (gG 2 rfl iJ 0 underlying132 rfl sizeOf130 rfl (gG 3 rfl iJ 0 underlying130 rfl sizeOf47 rfl (je 4 rfl iJ (fun W hW => jE underlying47 rfl ((Kp.h hW)).get.2 rfl) (iE 6 rfl iJ rfl (jF 7 rfl iJ rfl (gG 8 rfl iJ 0 underlying132 rfl sizeOf130 rfl (gG 9 rfl iJ 1 underlying130 rfl sizeOf2 rfl (je 10 rfl iJ (fun W hW => jE underlying2 rfl ((Kp.h hW)).get.2 rfl) (iE 11 rfl iJ rfl (jF 12 rfl iJ rfl (gG 13 rfl iJ 0 underlying132 rfl sizeOf130 rfl (gG 14 rfl iJ 2 underlying130 rfl sizeOf3 rfl (je 15 rfl iJ (fun W hW => jE underlying3 rfl ((Kp.h hW)).get.2 rfl) (jQ 5 rfl (wK rfl func118 (yE Ij (fun W HW => (HW.f2).aT) (by omega))) ?_))))))))))))))))
 rintro u3 w3 H3
 have DW := aB.kp (H3.f3.f3.f3)
 refine dP DW (fun W hW => (Kp.h hW).right.f2.f2) ?_
 obtain ⟨au3, cu3, XO, -⟩ := ((H3).aT).form
 subst XO
 refine jc 16 rfl DW (fun _ => dW (pl := #[(0, 1), (1, 1), (2, 1)]) (#[_, _, _]) underlying130 zeroValue130 (fun w => by kernel_rfl) rfl (rfl)) (jc 17 rfl DW (fun _ => dW (pl := #[(0, 3)]) (#[_, _, _]) underlying132 zeroValue132 (fun w => by kernel_rfl) rfl (rfl)) (jQ 18 rfl (iG (l := [_, _, _]) H3 rfl rfl) ?_))
 rintro _ w4 ⟨b4, rfl, H4⟩
 have wG := aB.kp (H4.f4.f4.f4.f4)
 refine fF wG (by kernel_rfl) ?_
 refine jc 19 rfl wG (fun _ => fO rfl) (pU (aj (aJ (aI (.inl rfl) results45 rfl ?_))))
 have TS := H4.f4.f4
 have TT := aB.ug xq TS
 exact ⟨_, rfl, aB.ug xq TT.f3.f3⟩
end
end Go.Proofs.YtgndbccogcofjaaGreatDoor
end
section
namespace Go.Proofs.YtgndbccogcofjaaGreatDoor
open Go.RowKit
def wH {β : Type} (f : Int → β) (a : Int) (v : β) : Int → β := fun x => if x = a then v else f x
theorem fB {β : Type} (f : Int → β) (a : Int) (v : β) : wH f a v a = v := if_pos rfl
theorem sG {β : Type} (f : Int → β) {a x : Int} (v : β) (h : x ≠ a) : wH f a v x = f x := if_neg h
theorem QH {β : Type} (f : Int → β) (a : Int) : wH f a (f a) = f := by funext x; unfold wH; split <;> simp_all
structure kN where
  L : List Int
  pt : Int
  mark : Int
  E : List (List Int)
  at_ : Nat
  place : Int
  tx : Int → Option ByteArray
  un : Int → List (List dU)
  mode : Int
  over : Bool
  last : Int
  fr : Int
  to : Int
  res : Int
  run : Bool
structure aZ where
  c : kN
  hl : List oG
  base : Int
  most : Int
  vF : Int
  given : Bool
  minus : Bool
  arg : Int
  dN : Bool
  was : kN
  cls : Int
  killed : Bool
  jX : Bool
  argues : Bool
  whole : Bool
  put : List dU
def XU (hl : List oG) (k : Int) : oG := if 0 ≤ k ∧ k < hl.length then hl.getD k.toNat default else (.empty, 0)
def F5 (hl : List oG) (k : Int) : ByteArray := (XU hl k).1
def CS (hl : List oG) (tx : Int → Option ByteArray) (k : Int) : ByteArray := (tx k).getD (F5 hl k)
def QI (hl : List oG) (tx : Int → Option ByteArray) (place : Int) (k : Nat) : Bool := decide ((k : Int) ≠ place) && !((CS hl tx k).toList == (F5 hl k).toList)
def QJ (hl : List oG) (tx : Int → Option ByteArray) (place : Int) (n : Nat) : List (Int × ByteArray) := ((List.range n).filter (QI hl tx place)).map fun (k : Nat) => ((k : Int), CS hl tx k)
def QK (hl : List oG) (tx : Int → Option ByteArray) (place : Int) : List (Int × ByteArray) := QJ hl tx place hl.length ++ (if place ≠ hl.length then [((hl.length : Int), CS hl tx hl.length)] else [])
def OQ (G : List (List dU)) (dN : Bool) (put : List dU) (typed run : Bool) : Int := (G.length : Int) + if dN && !put.isEmpty && !(typed && run) then 1 else 0
namespace aZ
variable (s : aZ)
def here : List (List dU) := s.c.un s.c.place
def jM (G : List (List dU)) : aZ := { s with c := { s.c with un := wH s.c.un s.c.place G } }
def sH : Int := if s.dN then 0 else 1
def zk : Int := if s.dN then 1 else 0
def bF : aZ := if s.dN then s else { s with dN := true, was := s.c, cls := 0, killed := false, jX := false, argues := false, whole := true, put := [] }
def iM (on : Bool) : List (List dU) := if s.put = [] then s.here else if on then (match s.here.getLast? with | some g => s.here.dropLast ++ [g ++ s.put] | none => [s.put]) else s.here ++ [s.put]
def dI (on : Bool) : aZ := if s.put = [] then s else { s.jM (s.iM on) with put := [] }
def sJ : aZ := { s with given := false, minus := false, arg := -1 }
def pY (err : Int) : Int := if s.dN then err else 1
def vG : aZ := { s.sJ with dN := false, c := { s.was with last := 0, fr := 0, to := 0 }, vF := IntKind.i64.wrap (s.vF + 1), put := [] }
def typed : Bool := s.cls == 3 && s.whole
def dZ : aZ := { (if s.argues then s else s.sJ) with dN := false }
def iT : aZ :=
  let t := s.dZ.dI (s.typed && s.c.run)
  let c := { t.c with run := s.typed && (!s.put.isEmpty || s.c.run), last := s.cls }
  { t with c := if s.cls ≠ 2 then { c with fr := 0, to := 0 } else c }
def iC (err : Int) : aZ := if s.dN then (if err = 0 then s.iT else s.vG) else s
def kU (x : dU) : aZ :=
  if x.2.1.length + x.2.2.length = 0 then s else
  if 16384 ≤ dR s.here s.put then { s.jM [] with put := [x], c := { (s.jM []).c with run := false } } else { s with put := s.put ++ [x] }
def iD (L : List Int) (pt mk : Int) : aZ := { s with c := { s.c with L := L, pt := pt, mark := mk } }
def jY (i j : Int) (l : List Int) : Int := if s.dN then iU s.c.L i j l else 1
def iV (i j : Int) (l : List Int) : aZ := if s.dN then (s.iD (lH s.c.L i j l) (lI s.c.L s.c.pt i j l) (lX s.c.L s.c.mark i j l)).kU (nG s.c.L i j l, jk s.c.L i j l, jl s.c.L i j l) else s
def JG (l : List Int) : Int := s.jY s.c.pt s.c.pt l
def xu (l : List Int) : aZ := s.iV s.c.pt s.c.pt l
def zn (l : List Int) : Int := if s.c.over then min (s.c.pt + l.length) s.c.L.length else s.c.pt
def OT (l : List Int) : Int := s.jY s.c.pt (s.zn l) l
def wR (l : List Int) : aZ := if s.dN then (let t := s.iV s.c.pt (s.zn l) l; if s.OT l = 0 ∧ s.cls = 0 then { t with cls := 3 } else t) else s
def way (back : Bool) : Int := if s.c.last = 1 ∨ s.killed = true then (if back then 2 else 1) else 0
def jB (i j : Int) : Prop := i < 0 ∨ s.c.L.length < i ∨ j < i ∨ s.c.L.length < j
instance (i j : Int) : Decidable (s.jB i j) := by unfold jB; infer_instance
def cut (i j : Int) : List Int := (s.c.L.drop i.toNat).take (j.toNat - i.toNat)
def jO (i j : Int) (back : Bool) : Int × List (List Int) × Nat := uZ s.c.E s.c.at_ (s.way back) (s.cut i j)
def jZ (i j : Int) (back : Bool) : Int := if s.dN then (if s.jB i j then 70 else (s.jO i j back).1) else 1
def yF (E : List (List Int)) (a : Nat) : aZ := { s with c := { s.c with E := E, at_ := a } }
def jP (i j : Int) (back : Bool) : aZ := if s.jZ i j back = 0 then { s.yF (s.jO i j back).2.1 (s.jO i j back).2.2 with killed := true, cls := 1 } else s
def ED (i j : Int) (back : Bool) : Int := if s.jZ i j back = 0 then (s.jP i j back).jY i j [] else s.jZ i j back
def nH (i j : Int) (back : Bool) : aZ := if s.jZ i j back = 0 then (s.jP i j back).iV i j [] else s
def top : List Int := s.c.E.getD s.c.at_ []
def uI : Int := if s.dN then (if s.c.E.length = 0 then 6 else s.JG s.top) else 1
def oP : aZ :=
  if s.uI = 0 then
    let t := s.xu s.top
    { t with jX := true, cls := 2, c := { t.c with mark := UC t.c.L t.c.mark s.c.pt, fr := s.c.pt, to := s.c.pt + s.top.length } }
  else s
def TU (n : Int) : List Int := s.c.E.getD (y7 s.c.E.length s.c.at_ n) []
def XV (n : Int) : Int := if s.dN then (if s.c.last ≠ 2 ∨ s.jX = true then 6 else if s.c.E.length = 0 then 6 else s.jY s.c.fr s.c.to (s.TU n)) else 1
def aal (n : Int) : aZ :=
  if s.XV n = 0 then
    let t := s.iV s.c.fr s.c.to (s.TU n)
    { t with jX := true, cls := 2, c := { t.c with E := s.c.E, at_ := y7 s.c.E.length s.c.at_ n, fr := s.c.fr, to := s.c.fr + (s.TU n).length } }
  else s
def kills : List (List Int) := s.c.E.drop s.c.at_ ++ s.c.E.take s.c.at_
def qc (x : Int) : Int := if s.dN then RJ s.c.L.length x else 1
def kP (x : Int) : aZ := if s.dN then s.iD s.c.L (Qs s.c.L.length s.c.pt x) s.c.mark else s
def ZV (x : Int) : Int := if s.dN then XB s.c.L x else 1
def ZW (x : Int) : aZ := if s.dN then s.iD s.c.L s.c.pt (UC s.c.L s.c.mark x) else s
def ZX : Int := if s.dN then swE s.c.mark else 1
def ZY : aZ := if s.dN then s.iD s.c.L (swP s.c.pt s.c.mark) (swM s.c.pt s.c.mark) else s
def XW (b : List Int × Int × Int) (x : dU) : List Int × Int × Int := (XI b.1 x.1 x.2.1 x.2.2, XJ b.1 b.2.1 x.1 x.2.1 x.2.2, XK b.1 b.2.2 x.1 x.2.1 x.2.2)
def apps (b : List Int × Int × Int) (l : List dU) : List Int × Int × Int := l.foldl XW b
def RV (l : List dU) : aZ := let b := apps (s.c.L, s.c.pt, s.c.mark) l; s.iD b.1 b.2.1 b.2.2
def KT : aZ := { s with whole := false, c := { s.c with run := false } }
def Z4 : aZ := if s.dN then (let t := s.dI false; if t.here = [] then t else ((t.jM t.here.dropLast).RV ((t.here.getLastD []).reverse.map Cm)).KT) else s
def OJ : Int := if s.dN then (if (s.dI false).here = [] then 6 else 0) else 1
def aam : aZ := if s.dN then (let t := s.dI false; if t.here = [] then t else ((t.jM []).RV (t.here.flatten.reverse.map Cm)).KT) else s
def TV (d : Int) : Int := if s.dN then (if d < 0 ∨ 9 < d then 1 else 0) else 1
def XY (d : Int) : aZ := if s.TV d = 0 then { s with given := true, argues := true, arg := min (max s.arg 0 * 10 + d) 1000000 } else s
def aan : aZ := if s.dN then { s with given := true, argues := true, minus := !s.minus } else s
def XZ (n : Int) : Int := if s.dN then (if 1000000 < n ∨ n < -1000000 then 1 else 0) else 1
def aao (n : Int) : aZ := if s.XZ n = 0 then { s with given := true, argues := true, minus := decide (n < 0), arg := max n (-n) } else s
def count : Int := if s.given then (let n := if s.arg < 0 then 1 else s.arg; if s.minus then -n else n) else 1
def VJ (m : Int) : Int := if s.dN then (if m < 0 ∨ 2 < m then 1 else 0) else 1
def Z5 (m : Int) : aZ := if s.VJ m = 0 then { s with c := { s.c with mode := m } } else s
def Z7 (b : Bool) : aZ := if s.dN then { s with c := { s.c with over := b } } else s
def X0 (r : Int) : Int := if s.dN then (if r < 1 ∨ 3 < r then 1 else 0) else 1
def aap (r : Int) : aZ := if s.X0 r = 0 then { s with c := { s.c with res := r } } else s
def first (k : Int) : ByteArray := F5 s.hl k
def stands (k : Int) : ByteArray := (s.c.tx k).getD (s.first k)
def X3 : Int := OQ s.here s.dN s.put s.typed s.c.run
def saved : List (Int × ByteArray) := QK s.hl s.c.tx s.c.place
def Z8 : Int := if s.dN then s.was.last else s.c.last
def frS : Int := if s.dN then s.was.fr else s.c.fr
def toS : Int := if s.dN then s.was.to else s.c.to
end aZ
def kN.fresh (l : List Int) (E : List (List Int)) (a : Nat) (place mode : Int) : kN := ⟨l, l.length, -1, E, a, place, fun _ => none, fun _ => [], mode, false, 0, 0, 0, 0, false⟩
def aZ.start (s : aZ) (hl : List oG) (base most : Int) (l : List Int) : aZ := { s with c := kN.fresh l s.c.E s.c.at_ hl.length s.c.mode, hl := hl, base := base, most := most, given := false, minus := false, arg := -1 }
def aZ.new (hl : List oG) (base most : Int) : aZ :=
  let c := kN.fresh [] [] 0 hl.length 0
  { c := c, hl := hl, base := base, most := most, vF := 0, given := false, minus := false, arg := -1, dN := false, was := c, cls := 0, killed := false, jX := false, argues := false, whole := false, put := [] }
end Go.Proofs.YtgndbccogcofjaaGreatDoor
end
