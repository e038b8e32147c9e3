import Derived.Test.YtddekefihgejoaaGreatDoorZ2
import Derived.Test.YtddekefihgejoaaGreatDoorZ8
import Derived.Test.YtddekefihgejoaaGreatDoorZ7
import Derived.Test.YtddekefihgejoaaGreatDoorZ4
import Derived.Maps.RangeRun
set_option linter.unusedSimpArgs false
set_option linter.unusedVariables false
/- Texts of mine, joined, their names in short: UList5 UList6 UList7 Grp0 Hist EdM Map. -/
section
namespace Go.Proofs.YtddekefihgejoaaGreatDoor
open Go.RowKit
open _root_.Go.Proofs.Tryz
def Aj (op : Int) : Int := if op = 0 then 1 else 0
def Vy (G : List (List fJ)) (N : List fJ) (op : Int) : List (List fJ) := if op = 1 then jq G N else G
def Vz (N : List fJ) (op : Int) : List fJ := if op = 1 then [] else N
def TJ (op : Int) : Int := if op = 0 then 0 else op - 1
theorem Oq {es : List dw} {k : Nat} (hk : k < es.length) : (es.take (k + 1)).map dw.says = (es.take k).map dw.says ++ [(es.getD k default).says] := by
  rw [List.take_succ_eq_append_getElem hk, List.map_append, List.getD_eq_getElem?_getD, List.getElem?_eq_getElem hk]
  rfl
section
variable {w0 w : World} {F : HP} {p : Nat} {G : List (List fJ)} {N : List fJ} {op : Int} {gv nv v : Value} {gs : List (Value × List dw)} {now es : List dw} {a : Int} {d z : Value} {dl il : List Int}
theorem vI (H : aB w0 w (dX p G N op • F)) : gG prog 134 #[.pointer (some ⟨p, 0, none⟩)] w fun v w' => v = .int .i64 (Aj op) ∧ aB w0 w' (dX p (Vy G N op) (Vz N op) (TJ op) • F) := by
 unfold Aj Vy Vz TJ
 refine iF func134 ntmps134 ?_
 dsimp only [bg, Nat.reduceAdd]
 refine ay (ah (aW rfl (aA (aj (ay (ay (ah (aI rfl (dH rfl func161 (iO H) ?_)))))))))
 rintro _ _ ⟨rfl, rfl⟩
 refine aA (aj (nY (aO (aj (ay (ay ?_))))))
 obtain ⟨vZ, tH, jE, jh, iT, oI, mJ, Ag, Ah, EP, kL⟩ := (H).qj
 have hop := iT.2.2.1
 have hop2 := iT.2.2.2.1
 refine ah (aI rfl (bQ rfl (bC 0 underlying233 rfl sizeOf231 rfl (bC 2 underlying231 rfl sizeOf3 rfl (eu underlying3 rfl (kL).get.2 rfl (aU (gU rfl rfl) (aA (aj (aP rfl (fun h1 => ?_) (fun h1 => ?_))))))))))
 ·(try simp only [aG] at h1)
  have h0 : op = 0 := by omega
  refine ay (ah (aW rfl (aA (aj (aK (aN (aQ (.inl rfl) results134 rfl ?_)))))))
  have KQ := kL.f5.f5.f5.f5.f5
  have KR := aB.jw iT oI mJ rfl KQ
  subst h0
  exact ⟨rfl, KR⟩
 ·(try simp only [aG] at h1)
  have h0 : ¬ op = 0 := by omega
  refine aO (aj (ay (ay (ah (aI rfl (bQ rfl (bC 0 underlying233 rfl sizeOf231 rfl (bC 2 underlying231 rfl sizeOf3 rfl (eu underlying3 rfl (kL).get.2 rfl (aU (je rfl rfl (by omega)) (bQ rfl (bC 0 underlying233 rfl sizeOf231 rfl (bC 2 underlying231 rfl sizeOf3 rfl (aJ (aS 2 (l' := [_, _, _, _, _]) kL sizeOf3 rfl rfl (by first | rfl | assumption) rfl rfl) ?_))))))))))))))
  rintro _ w6 H6
  refine aA (aj (ay (ah (aI rfl (bQ rfl (bC 0 underlying233 rfl sizeOf231 rfl (bC 2 underlying231 rfl sizeOf3 rfl (eu underlying3 rfl (H6).get.2 rfl (aU (gU rfl rfl) (aA (aj (aP rfl (fun h2 => ?_) (fun h2 => ?_)))))))))))))
  ·(try simp only [aG] at h2)
   have h1 : op = 1 := by omega
   have Qu := H6.f5.f5.f5.f5.f5
   have Oo := aB.jw (op := op - 1) ⟨iT.1, iT.2.1, by omega, by omega, iT.2.2.2.2⟩ oI mJ rfl Qu
   refine ah (aI rfl (dH rfl func166 (wK Oo) ?_))
   rintro _ w9 H9
   refine aA (aj (ay (ah (aW rfl (aA (aj (aK (aQ (.inl rfl) results134 rfl ?_))))))))
   subst h1
   exact ⟨rfl, H9⟩
  ·(try simp only [aG] at h2)
   have h1 : ¬ op = 1 := by omega
   refine aO (aj (ay (ah (aW rfl (aA (aj (aK (aQ (.inl rfl) results134 rfl ?_))))))))
   rw [if_neg h0, if_neg h1, if_neg h1, if_neg h0]
   exact ⟨rfl, aB.jw ⟨iT.1, iT.2.1, by omega, by omega, iT.2.2.2.2⟩ oI mJ rfl H6.f5.f5.f5.f5.f5⟩
theorem DW (H : aB w0 w F) (hv : EL w0 F 3 v es.length (es.flatMap dw.enc)) (he : ∀ k, k < es.length → iG w0 F .i32 (es.getD k default).d (es.getD k default).dl ∧ iG w0 F .i32 (es.getD k default).i (es.getD k default).il)
  (hB : ∀ k, k < es.length → EB (es.getD k default).says) (hL : es.length ≤ 16384) :
  gG prog 162 #[v] w fun v' w' => ∃ fs : List dw, fs.map dw.says = es.map dw.says ∧ aB w0 w' (Row 202 3 v' fs.length (fs.flatMap dw.enc) • jo fs • F) := by
 refine iF func162 ntmps162 ?_
 dsimp only [bg, Nat.reduceAdd]
 refine ay (ah (aW rfl (aA (aj (ay (ah (aW rfl (aA (aj (ay (ay (ah (aI rfl (aU (eX (hv _ (H)) underlying67 rfl) (aI rfl (aA (aj (bf ?_))))))))))))))))))
 refine eP [(6, _), (7, _)] (fun (⟨k, u⟩ : Nat × Value) => [(3, u), (8, .int .i64 (k : Int))]) (fun (⟨k, u⟩ : Nat × Value) W => k ≤ es.length ∧ ∃ fs : List dw, fs.map dw.says = (es.take k).map dw.says ∧ aB w0 W (Row 202 3 u fs.length (fs.flatMap dw.enc) • jo fs • F)) (fun (⟨k, u⟩ : Nat × Value) => es.length - k) ((0, .slice none 0 0)) (Sub.cons rfl (Sub.cons rfl (Sub.nil _))) (Sub.cons rfl (Sub.cons rfl (Sub.nil _))) ⟨by omega, [], rfl, (H.oU none).WB⟩ ?_
 rintro ⟨k, u⟩ w1 ⟨hk, fs, hfs, HL⟩
 dsimp only [List.cons_append, List.nil_append]
 refine ay (ah (aU (dB rfl rfl) (aA (aj (ay (aP rfl (fun h1 => ?_) (fun h1 => ?_)))))))
 ·(try simp only [aG] at h1)
  try (exfalso; first | contradiction | omega)
  all_goals
   refine aO (aj (ay (bf (ay (ah ?_)))))
   obtain ⟨bv, ov, cv, ev⟩ := Rd.kV (hv _ (HL.right.right)) (by omega)
   cases ev
   refine aU (bY underlying67 sizeOf202 rfl rfl (by omega)) (aU (jf (ys := [_, _, _]) (hv _ (HL.right.right)) (by omega) underlying202 rfl sizeOf202 rfl (kC dw.zf (by omega) default) rfl) ?_)
   have hkl : k < es.length := by omega
   obtain ⟨f1, f2⟩ := he k hkl
   obtain ⟨hb1, hb2⟩ := hB k hkl
   have hb1 : (es.getD k default).dl.length ≤ 35184372087808 := hb1
   have hb2 : (es.getD k default).il.length ≤ 35184372087808 := hb2
   have hfl : fs.length = k := by have h9 := congrArg List.length hfs; simp at h9; omega
   refine iw (cZ (l := [_, _, _]) HL zeroValue202 rfl) ?_
   rintro _ w2 ⟨b2, rfl, H2⟩
   refine aJ (bG 0 (l' := [_, _, _]) (us := [_, _, _]) H2 sizeOf202 rfl rfl rfl (aC (by first | rfl | assumption) (aC (by first | rfl | exact Rd.one (f1 _ (H2.right.right.right))) (aC (by first | rfl | exact Rd.one (f2 _ (H2.right.right.right))) bn))) rfl rfl) ?_
   rintro _ w3 H3
   refine aA (aj (ah (aI rfl (aU (bV underlying202 rfl sizeOf202 rfl rfl (H3).get.2) (dH rfl func168 (qo H3 (fun W HW => f1 _ (HW.right.right.right)) (fun W HW => f2 _ (HW.right.right.right)) (by omega) (by omega)) ?_)))))
   rintro _ w4 ⟨d4, s4, rfl, H4⟩
   refine iw (lZ H4 underlying67 sizeOf202 zeroValue202 rfl rfl rfl (by decide) (by decide)) ?_
   rintro l5 w5 H5
   refine iw (fP H5.f5 underlying67 (show (prog.info? 202).map (fun i => (i.zero, i.size, i.bytes)) = some (some (.agg #[.int .i64 0, .slice none 0 0, .slice none 0 0]), 3, 56) by kernel_rfl) rfl rfl rfl ((H5).aT) (aC (by first | rfl | assumption) (aC (by first | rfl | exact Rd.one ((H5.f2).aT)) (aC (by first | rfl | exact Rd.one ((H5.f3).aT)) bn))) (by omega) (by omega)) ?_
   rintro l6 w6 H6
   have TK := H6.f2.right
   refine aW rfl (aA (aH (aj (ah (aU (dG rfl rfl (by omega)) (aI rfl (aA ?_)))))))
   refine cO ((k + 1, l6)) ?_ ?_ ?_ ?_
   ·exact (Sub.cons rfl (Sub.cons rfl (Sub.nil _)))
   ·exact (Sub.cons rfl (Sub.cons rfl (Sub.nil _)))
   ·(try dsimp only)
    first | done | exact ⟨by omega, _, by rw [List.map_append, hfs, Oq (by omega)]; rfl, (aB.uD (TK.f4.right.f4.f2.f4.f4).jy.swap.jy.swap.f3).WB⟩
   ·(try dsimp only); omega
 ·(try simp only [aG] at h1)
  try (exfalso; first | contradiction | omega)
  all_goals
   refine dK (aV (aV (bD (aj (ay (ah (aI rfl (aW rfl (aA (aj (aK (aQ (.inl rfl) results162 rfl ?_))))))))))))
   rw [List.take_of_length_le (by omega)] at hfs
   exact ⟨_, hfs, HL.f2.f2⟩
theorem aB.kJ {es : List dw} (H : aB w0 w (jo es • F)) {k : Nat} (hk : k < es.length) : jc w .i32 (es.getD k default).d (es.getD k default).dl ∧ jc w .i32 (es.getD k default).i (es.getD k default).il := let ⟨I, h, hI⟩ := H.rW; ⟨(h k hk).1.rd hI, (h k hk).2.rd hI⟩
theorem wL (H : aB w0 w (Row 202 3 v es.length (es.flatMap dw.enc) • jo es • F)) (hB : ∀ k, k < es.length → EB (es.getD k default).says) (hL : es.length ≤ 16384) :
    gG prog 162 #[v] w fun v' w' => ∃ fs : List dw, fs.map dw.says = es.map dw.says ∧ aB w0 w' (Row 202 3 v' fs.length (fs.flatMap dw.enc) • jo fs • Row 202 3 v es.length (es.flatMap dw.enc) • jo es • F) :=
  DW H (fun W HW => HW.aT) (fun k hk => ⟨fun W HW => (HW.right.kJ hk).1, fun W HW => (HW.right.kJ hk).2⟩) hB hL
theorem tJ (H : aB w0 w (zQ v es • F)) (hB : ∀ k, k < es.length → EB (es.getD k default).says) (hL : es.length ≤ 16384) :
    gG prog 162 #[v] w fun v' w' => ∃ fs : List dw, fs.map dw.says = es.map dw.says ∧ aB w0 w' (Row 202 3 v' fs.length (fs.flatMap dw.enc) • jo fs • zQ v es • F) :=
  DW H (fun W HW => HW.yw) (fun k hk => ⟨fun W HW => HW.XB hk, fun W HW => HW.XC hk⟩) hB hL
end
end Go.Proofs.YtddekefihgejoaaGreatDoor
end
section
namespace Go.Proofs.YtddekefihgejoaaGreatDoor
open Go.RowKit
open _root_.Go.Proofs.Tryz
def abX (G : List (List fJ)) (N : List fJ) : List fJ := (jq G N).flatten.reverse.map DV
section
variable {w0 w : World} {F : HP} {p : Nat} {G : List (List fJ)} {N : List fJ} {op : Int} {gv nv v u : Value} {gs : List (Value × List dw)} {now es fs : List dw} {a : Int} {d z : Value} {dl il : List Int}
theorem DX (H : aB w0 w (dX p G N op • F)) : gG prog 138 #[.pointer (some ⟨p, 0, none⟩)] w fun _ w' => aB w0 w' (dX p [] [] 0 • F) := by
 refine iF func138 ntmps138 ?_
 dsimp only [bg, Nat.reduceAdd]
 refine ay (ah (aI rfl (dH rfl func161 (iO H) ?_)))
 rintro _ _ ⟨rfl, rfl⟩
 refine aU (gQ rfl) (aA (aj (aP rfl (fun h1 => ?_) (fun h => by exfalso; (try simp only [aG] at h); simp at h))))
 (try simp only [aG] at h1)
 obtain ⟨vZ, tH, jE, jh, iT, oI, mJ, Ag, Ah, EP, kL⟩ := (H).qj
 refine ah (aI rfl (aU (fO (pl := #[(0, 4), (4, 1)]) (#[_, _, _, _, _]) underlying233 zeroValue233 (fun w => by kernel_rfl) rfl (rfl)) (bQ rfl (aJ (bG 0 (l' := [_, _, _, _, _]) (us := [_, _, _, _, _]) kL sizeOf233 rfl rfl rfl (aC (by first | rfl | assumption) (aC (by first | rfl | assumption) (aC (by first | rfl | assumption) (aC (by first | rfl | assumption) (aC (by first | rfl | assumption) bn))))) rfl rfl) ?_))))
 rintro _ w3 H3
 refine aA (gB (.inr rfl) results138 ?_)
 refine aB.pI (gv := .slice none 0 0) (nv := .slice none 0 0) (gs := []) (now := []) ⟨by simp, by decide, by decide, by decide, by simp, by simp⟩ rfl rfl rfl ?_
 exact (((H3.f2.right.f2.right.f2.right.f2.right).oU none).zk none).of_eq (by ac_rfl)
theorem aB.GN (H : aB w0 w (nR gs • F)) {k : Nat} {gl : Value} {vH : List dw} (hk : k < gs.length) (hg : gs.getD k default = (gl, vH)) : aB w0 w (zQ gl vH • nR gs • F) := by
  have := H.I9 hk
  rwa [hg] at this
end
end Go.Proofs.YtddekefihgejoaaGreatDoor
end
section
namespace Go.Proofs.YtddekefihgejoaaGreatDoor
open Go.RowKit
open _root_.Go.Proofs.Tryz
theorem Ot {G : List (List fJ)} {k : Nat} (hk : k < G.length) : G.take (k + 1) = G.take k ++ [G.getD k []] := by
  rw [List.take_succ_eq_append_getElem hk, List.getD_eq_getElem?_getD, List.getElem?_eq_getElem hk]
  rfl
theorem GR {G : List (List fJ)} {g : List fJ} (h : g ∈ G) : g.length ≤ (G.map List.length).sum := by
  induction G with
  | nil => cases h
  | cons x G ih =>
    rw [List.map_cons, List.sum_cons]
    rcases List.mem_cons.1 h with rfl | h
    · omega
    · have := ih h; omega
theorem Jj {es : List dw} {l : List fJ} (h : es.map dw.says = l) (hl : ∀ e ∈ l, EB e) : ∀ k, k < es.length → EB (es.getD k default).says := fun k hk =>
  hl _ (by rw [← h]; exact List.mem_map_of_mem (uw hk))
section
variable {w0 w : World} {F : HP} {p : Nat} {G : List (List fJ)} {N : List fJ} {op : Int}
theorem DY (H : aB w0 w (dX p G N op • F)) : gG prog 126 #[.pointer (some ⟨p, 0, none⟩)] w fun v w' => ∃ q, v = .pointer (some ⟨q, 0, none⟩) ∧ aB w0 w' (dX q G N op • dX p G N op • F) := by
 refine iF func126 ntmps126 ?_
 dsimp only [bg, Nat.reduceAdd]
 refine ay (ah (aW rfl (aA (aj (ay (ay (ah (aI rfl (dH rfl func161 (iO H) ?_)))))))))
 rintro _ _ ⟨rfl, rfl⟩
 refine aA (aj (nY (aO (aj (ay ?_)))))
 obtain ⟨vZ, tH, jE, jh, iT, oI, mJ, Ag, Ah, EP, kL⟩ := (H).qj
 have hLn : jh.length ≤ 16384 := by omega
 have hBn := Jj mJ iT.2.2.2.2.2
 refine ah (aI rfl (bQ rfl (aU (bV underlying233 rfl sizeOf233 rfl rfl (kL).get.2) (iw (cZ (l := [_, _, _, _, _]) kL zeroValue233 rfl) ?_))))
 rintro _ w3 ⟨b3, rfl, H3⟩
 refine aJ (bG 0 (l' := [_, _, _, _, _]) (us := [_, _, _, _, _]) H3 sizeOf233 rfl rfl rfl (aC (by first | rfl | exact Rd.one ((H3.f3).aT)) (aC (by first | rfl | exact Rd.one ((H3.f5).aT)) (aC (by first | rfl | assumption) (aC (by first | rfl | assumption) (aC (by first | rfl | assumption) bn))))) rfl rfl) ?_
 rintro _ w4 H4
 refine aA (aj (ay (ah (aI rfl (bQ rfl (bC 0 underlying233 rfl sizeOf231 rfl (bC 1 underlying231 rfl sizeOf67 rfl (eu underlying67 rfl (H4.f2).get.2 rfl (dH rfl func162 (wL H4.f6.f6 hBn hLn) ?_)))))))))
 rintro u5 w5 ⟨fs5, Zy, H5⟩
 obtain ⟨es1, rfl⟩ : ∃ q, q = fs5 := ⟨_, rfl⟩
 have hes1 := Zy
 refine bC 0 underlying233 rfl sizeOf231 rfl (bC 0 underlying231 rfl sizeOf180 rfl (aJ (aS 0 (l' := [_, _, _, _, _]) H5.f5 sizeOf180 rfl rfl (by first | rfl | assumption) rfl rfl) ?_))
 rintro _ w6 H6
 refine bC 0 underlying233 rfl sizeOf231 rfl (bC 1 underlying231 rfl sizeOf67 rfl (aJ (aS 1 (l' := [_, _, _, _, _]) H6 sizeOf67 rfl rfl (by first | rfl | exact Rd.one ((H6.f2).aT)) rfl rfl) ?_))
 rintro _ w7 H7
 refine aA (aj (ay (ay (ah (aI rfl (bQ rfl (bC 0 underlying233 rfl sizeOf231 rfl (bC 0 underlying231 rfl sizeOf180 rfl (eu underlying180 rfl (H7.f6).get.2 rfl (aU (eX ((H7.f7).aT) underlying180 rfl) (aI rfl (aA (aj (bf ?_))))))))))))))
 obtain ⟨UK, UL, XL, -⟩ := ((H7.f7).aT).form
 subst XL
 refine eP [(3, _), (25, _), (26, _)] (fun (k : Nat) => [(27, .int .i64 (k : Int))]) (fun (k : Nat) W => k ≤ jE.length ∧ ∃ gu, ∃ hs : List (Value × List dw), hs.map (fun g => g.2.map dw.says) = G.take k ∧ aB w0 W (dh b3 (.cells #[gu, u5, .int .i64 op, .int .i64 (eY G N : Nat), .bool true] 233 (0, 0)) • Row 67 1 gu hs.length (hs.map (·.1)) • nR hs • Row 202 3 u5 es1.length (es1.flatMap dw.enc) • jo es1 • dh p (.cells #[(.slice UK (jE.length) UL), tH, .int .i64 op, .int .i64 (eY G N : Nat), .bool true] 233 (0, 0)) • Row 67 1 (.slice UK (jE.length) UL) jE.length (jE.map (·.1)) • nR jE • Row 202 3 tH jh.length (jh.flatMap dw.enc) • jo jh • F)) (fun (k : Nat) => jE.length - k) (0) (Sub.cons rfl (Sub.cons rfl (Sub.cons rfl (Sub.nil _)))) (Sub.cons rfl (Sub.nil _)) ⟨by omega, _, [], rfl, ((H7.f5.f5.f8.f8.f8.f6.f8.f8).zk none).Vs.f5⟩ ?_
 rintro k w9 ⟨hk, gu, hs, Ou, HL⟩
 dsimp only [List.cons_append, List.nil_append]
 refine ay (ah (aU (dB rfl rfl) (aA (aj (ay (aP rfl (fun h1 => ?_) (fun h1 => ?_)))))))
 ·(try simp only [aG] at h1)
  refine aO (aj (ay (bf (ay (ah ?_)))))
  obtain ⟨abf, abg, rfl⟩ := Rd.pos ((HL.f7).aT) (by omega)
  refine aU (bY underlying180 sizeOf67 rfl rfl (by omega)) ?_
  refine aU (dZ (bU underlying67 rfl) rfl (by first | exact Rd.nZ ((HL.f7).aT) (by omega) | exact Rd.AV ((HL.f7).aT) (by omega) | exact Rd.zX ((HL.f7).aT) (by omega))) ?_
  have hkl : k < jE.length := by omega
  rw [show (jE.map (·.1)).getD k undef = (jE.getD k default).1 from by simp [List.getD_eq_getElem?_getD, hkl]]
  obtain ⟨gl, vH, hg⟩ : ∃ gl vH, jE.getD k default = (gl, vH) := ⟨_, _, rfl⟩
  rw [hg]
  have Qw := HL.f8
  have Qx := Qw.GN hkl hg
  have hge : vH.map dw.says = G.getD k [] := by
   rw [← oI]
   have h9 : (jE.map (fun g => g.2.map dw.says)).getD k [] = (jE.getD k default).2.map dw.says := by simp [List.getD_eq_getElem?_getD, hkl]
   rw [h9, hg]
  have hgm : G.getD k [] ∈ G := uw (by omega)
  have hBg := Jj hge (iT.2.2.2.2.1 _ hgm)
  have XM : vH.length ≤ 16384 := by
   have h8 := iT.2.1
   unfold eY at h8
   have h7 := congrArg List.length hge
   rw [List.length_map] at h7
   have h6 := GR hgm
   omega
  have Zz := congrArg List.length Ou
  rw [List.length_map, List.length_take] at Zz
  refine aW rfl (aA (aj ?_))
  have UM := Qx.drew
  have DZ := aB.kp (UM.f11.f11.f11.f11.f11.f11.f11.f11.f11.f11.f11)
  refine wo [2] DZ rfl (dV 0 rfl DZ 0 underlying233 rfl sizeOf231 rfl (dV 1 rfl DZ 0 underlying231 rfl sizeOf180 rfl (iy 2 rfl DZ (fun W hW => iQ underlying180 rfl ((Kp.h hW).f3).get.2 rfl) (gV 3 rfl DZ rfl (jr 4 rfl (rX rfl func162 (tJ UM hBg XM)) ?_)))))
  rintro Ws w12 ⟨Qv, UJ, vV⟩
  obtain ⟨es2, rfl⟩ : ∃ q, q = Qv := ⟨_, rfl⟩
  have hes2 := UJ
  have zn := aB.kp (vV.f13.f13.f13.f13.f13.f13.f13.f13.f13.f13.f13.f13.f13)
  refine bW zn (fun W hW => (Kp.h hW).right.right.f11.f11.f11.f11.f11.f11.f11.f11.f11.f11.f11) ?_
  refine jr 5 rfl (jv (vs := [_]) vV underlying180 sizeOf67 zeroValue67 rfl rfl rfl (by decide) (aC (by first | rfl | exact Rd.one ((vV).aT)) bn)) ?_
  rintro l13 O7 xQ
  have DT := aB.kp (xQ.f14.f14.f14.f14.f14.f14.f14.f14.f14.f14.f14.f14.f14.f14)
  refine bW DT (fun W hW => (Kp.h hW).right.f13.f13.f13.f13.f13.f13.f13.f13.f13.f13.f13.f13.f13) ?_
  refine jr 6 rfl (fP xQ.f7 underlying180 (show (prog.info? 67).map (fun i => (i.zero, i.size, i.bytes)) = some (some (.slice none 0 0), 1, 24) by kernel_rfl) rfl rfl rfl ((xQ).aT) (aC (by first | rfl | exact Rd.one ((xQ.f2).aT)) bn) (by omega) (by omega)) ?_
  rintro Zt O8 zN
  have VA := zN.f2.right
  have vW := aB.kp (VA.f13.f13.f13.f13.f13.f13.f13.f13.f13.f13.f13.f13.f13)
  refine dR vW (by kernel_rfl) ?_
  refine dV 7 rfl vW 0 underlying233 rfl sizeOf231 rfl (dV 8 rfl vW 0 underlying231 rfl sizeOf180 rfl ?_)
  refine dN 9 rfl (by kernel_rfl) (aS 0 (l' := [_, _, _, _, _]) VA.f6 sizeOf180 rfl rfl (by first | rfl | exact Rd.one ((VA).aT)) rfl rfl) ?_
  rintro _ w16 rV
  have zx := aB.kp (rV.f13.f13.f13.f13.f13.f13.f13.f13.f13.f13.f13.f13.f13)
  refine dR zx (by kernel_rfl) ?_
  have X := aB.rH (es := es2) (rV.f5.right.f12.f12.f7.f12.f12.f12.f12.f8.f12.f10.f12.f12).deep
  have HN := (aB.uF X.swap).Vs.f3
  have hnew : (hs ++ [(Ws, es2)]).map (fun g => g.2.map dw.says) = G.take (k + 1) := by rw [List.map_append, Ou, Ot (by omega), ← hge, ← hes2]; rfl
  refine nJ (aH (aj (ah (aU (dG rfl rfl (by omega)) (aI rfl (aA ?_))))))
  refine cO (k + 1) ?_ ?_ ?_ ?_
  ·exact (Sub.cons rfl (Sub.nil _))
  ·exact (Sub.cons rfl (Sub.cons rfl (Sub.cons rfl (Sub.nil _))))
  ·(try dsimp only)
   first | done | exact ⟨by omega, _, _, hnew, HN⟩
  ·(try dsimp only); omega
 ·(try simp only [aG] at h1)
  refine dK (aV (aV (bD (aj (ay (ah (aW rfl (aA (aj (aK (aQ (.inl rfl) results126 rfl ?_)))))))))))
  rw [List.take_of_length_le (by omega)] at Ou
  have X := aB.jw (gs := hs) (now := es1) iT Ou (hes1.trans mJ) rfl (HL.f10.f10.f10.f10.f10.f10.f10.f10.f10.f10)
  have Y := aB.jw iT oI mJ rfl X.f6.f6.f6.f6.f6
  exact ⟨_, rfl, Y.swap⟩
end
end Go.Proofs.YtddekefihgejoaaGreatDoor
end
section
namespace Go.Proofs.YtddekefihgejoaaGreatDoor
open Go.RowKit
def yA (G : List (List fJ)) (N : List fJ) : List (List fJ) := (jq G N).reverse
def GU (N : List fJ) : List (List fJ) := if N = [] then [] else [N]
theorem Qy (N : List fJ) : (GU N).length ≤ 1 := by unfold GU; split <;> simp
theorem TL (G : List (List fJ)) (N : List fJ) : yA G N = GU N ++ G.reverse := by
  unfold yA GU jq; split <;> simp
end Go.Proofs.YtddekefihgejoaaGreatDoor
end
section
namespace Go.Proofs.YtddekefihgejoaaGreatDoor
open Go.RowKit
open _root_.Go.Proofs.Tryz
abbrev lC := ByteArray × Int
def jM (x : lC) : List Value := [.string x.1, .int .i64 x.2]
theorem uH (x : lC) : (jM x).length = 2 := rfl
def Qz (x : lC) : Prop := x.1.size ≤ 16384 ∧ 0 ≤ x.2
def VB (hl : List lC) (base most : Int) : Prop := hl.length ≤ 4096 ∧ 1 ≤ base ∧ base ≤ 4611686018427387904 ∧ (hl.length : Int) ≤ most ∧ most ≤ 4096 ∧ ∀ x ∈ hl, Qz x
def dn (p : Nat) (hl : List lC) (base most : Int) : HP := qN fun (v : Value) => fact (VB hl base most) • dh p (.cells #[v, .int .i64 base, .int .i64 most] 176 (0, 0)) • Row 84 2 v hl.length (hl.flatMap jM)
section
variable {P : Program} {L : List (Nat × Value)} {w0 w : World} {F : HP} {ty : TypeId} {p : Nat} {hl : List lC} {base most : Int} {v : Value}
theorem D5 {t e sz : Nat} {z : Value} (H : aB w0 w F) (ht : P.underlying t = some (.slice e)) (hs : ∀ w, (sizeOf e).run P w = .ok sz w) (hz : ∀ w, (zeroValue e).run P w = .ok z w) :
    rU P L (.buildSlice t 0 #[]) ty w fun v w' => aB w0 w' (Row e sz v 0 [] • F) := by
  refine nG (v := .slice (some ⟨w.heap.size, 0, none⟩) 0 0) (w' := w.alloc (.cells #[] e)) ?_ ?_
  · intro ρ hρ d pos lH g
    simp only [execOp, Instr.buildSlice, Sem.run_bind, run_underlying ht, Result.andThen_ok, hs]
    have h0 : Array.map (fun (_ : Nat) => (default : Value)) (Array.range 0) = #[] := Array.eq_empty_of_size_eq_zero (by simp)
    simp [Instr.fill, newRow, h0]
  · exact (H.alloc _).right.iE _
theorem aB.hist (H : aB w0 w (dn p hl base most • F)) : ∃ v, VB hl base most ∧ aB w0 w (dh p (.cells #[v, .int .i64 base, .int .i64 most] 176 (0, 0)) • Row 84 2 v hl.length (hl.flatMap jM) • F) := by
  obtain ⟨v, H⟩ := H.lD
  obtain ⟨h, H⟩ := H.flat.fact
  exact ⟨v, h, H.flat⟩
theorem aB.qx (h : VB hl base most) (H : aB w0 w (dh p (.cells #[v, .int .i64 base, .int .i64 most] 176 (0, 0)) • Row 84 2 v hl.length (hl.flatMap jM) • F)) : aB w0 w (dn p hl base most • F) :=
  aB.gK v (aB.deep (aB.jP h H.deep))
theorem MR {hl : List lC} : ∀ x ∈ hl.flatMap jM, x.oneCell' = true := by
  intro x hx
  obtain ⟨e, _, hx⟩ := List.mem_flatMap.1 hx
  simp [jM] at hx
  rcases hx with rfl | rfl <;> rfl
theorem TM : (prog.info? 84).map (fun i => (i.zero, i.size, i.bytes)) = some (some (.agg #[.string .empty, .int .i64 0]), 2, 24) := by kernel_rfl
theorem vJ (H : aB w0 w F) (hr : EL w0 F 2 v hl.length (hl.flatMap jM)) (hb : hl.length ≤ 1099511627776) :
    gG prog 104 #[v] w fun v' w' => aB w0 w' (Row 84 2 v' hl.length (hl.flatMap jM) • F) := by
  obtain ⟨hlen, a, c, rfl, h1, h2, h3⟩ := hr w H
  refine iF func104 ntmps104 ?_
  dsimp only [bg, Nat.reduceAdd]
  refine ay (ah (aW rfl (aA (aj (ay (ay (ah (aI rfl (aU (o9 underlying24 rfl rfl) (aA (aj (aP rfl (fun h1 => ?_) (fun h1 => ?_)))))))))))))
  · (try simp only [aG] at h1)
    try (exfalso; first | contradiction | omega)
    all_goals
      refine ay (ah (aW rfl (aA (aj (aK (aN (aQ (.inl rfl) results104 rfl ?_)))))))
      obtain rfl : a = none := by simpa using h1
      obtain rfl : hl = [] := by
        cases hl with
        | nil => rfl
        | cons x l => obtain ⟨b, o, e, _⟩ := h3 (by simp); cases e
      exact H.iE none
  · (try simp only [aG] at h1)
    try (exfalso; first | contradiction | omega)
    all_goals
      refine aO (aj (ay (ah (iw (D5 H underlying24 sizeOf84 zeroValue84) ?_))))
      rintro _ w1 H1
      refine aI rfl (iw (fP H1 underlying24 TM rfl rfl rfl (hr.under _ H1) MR (by omega) (by omega)) ?_)
      rintro _ w2 H2
      refine aW rfl (aA (aj (aK (aQ (.inl rfl) results104 rfl ?_))))
      exact H2.of_eq (by rw [Nat.zero_add, List.nil_append])
theorem oV (H : aB w0 w (dn p hl base most • F)) : gG prog 103 #[.pointer (some ⟨p, 0, none⟩)] w fun v w' => v = .bool false ∧ w = w' := by
 refine iF func103 ntmps103 ?_
 dsimp only [bg, Nat.reduceAdd]
 refine ay (ah (aW rfl (aA (aj (ay ?_)))))
 obtain ⟨QA, uI, vK⟩ := (H).hist
 refine ah (aI rfl (aU (iI underlying65 rfl rfl) (iM rfl (fun h1 => ?_) (fun h1 => ?_))))
 ·(try simp only [aG] at h1)
  try (exfalso; first | contradiction | omega)
  all_goals
   refine aZ (aZ (aZ (aZ (aZ (aZ (fK rfl rfl (aW rfl (aA (aj (aK (aQ (.inl rfl) results103 rfl ?_)))))))))))
   exact ⟨by rw [show (base == 0) = false from by rw [beq_eq_false_iff_ne]; have := uI.2.1; omega], rfl⟩
 ·(try simp only [aG] at h1)
  try (exfalso; first | contradiction | omega)
  all_goals
   refine aY (aI rfl (aY (bQ rfl (aY (bC 0 underlying176 rfl sizeOf174 rfl (aY (bC 1 underlying174 rfl sizeOf2 rfl (aY (eu underlying2 rfl (vK).get.2 rfl (aY (aU (gU rfl rfl) (fC rfl rfl (aW rfl (aA (aj (aK (aQ (.inl rfl) results103 rfl ?_)))))))))))))))))
   exact ⟨by rw [show (base == 0) = false from by rw [beq_eq_false_iff_ne]; have := uI.2.1; omega], rfl⟩
theorem GV {n : Int} (H : aB w0 w F) (hn : 0 ≤ n ∧ n ≤ 4096) : gG prog 75 #[.int .i64 n] w fun v w' => ∃ p, v = .tuple #[.pointer (some ⟨p, 0, none⟩), .int .i64 0] ∧ aB w0 w' (dn p [] 1 n • F) := by
 refine iF func75 ntmps75 ?_
 dsimp only [bg, Nat.reduceAdd]
 refine ay (ah (aW rfl (aW rfl (aA (aj (ay (ay (ah (aI rfl (aU (dB rfl rfl) (iM rfl (fun h1 => ?_) (fun h1 => ?_))))))))))))
 ·(try simp only [aG] at h1)
  try (exfalso; first | contradiction | omega)
  all_goals
   refine aZ (aZ (fK rfl rfl (aA (aj (zM (ay (ah (aW rfl (aW rfl (aA (aj (aK (aN (gW (.inl rfl) results75 rfl rfl ?_))))))))))))))
   exact ⟨_, rfl, aB.qx (v := .slice none 0 0) ⟨by simp, by decide, by decide, by simp; omega, by omega, by simp⟩ ((H.iE none).swap)⟩
 ·(try simp only [aG] at h1)
  try (exfalso; first | contradiction | omega)
  all_goals
   refine aY (aI rfl (aY (aU (fB rfl rfl) (fC rfl rfl (aA (aj (aP rfl (fun h2 => ?_) (fun h2 => ?_))))))))
   ·(try simp only [aG] at h2)
    try (exfalso; first | contradiction | omega)
    all_goals
     refine ay (ah (aW rfl (aW rfl (aA (aj (aK (aN (gW (.inl rfl) results75 rfl rfl ?_))))))))
     exact ⟨_, rfl, aB.qx (v := .slice none 0 0) ⟨by simp, by decide, by decide, by simp; omega, by omega, by simp⟩ ((H.iE none).swap)⟩
   ·(try simp only [aG] at h2)
    try (exfalso; first | contradiction | omega)
    all_goals
     refine aO (aj (ay (ah (aI rfl (aU (fO (pl := #[(0, 1), (1, 1), (2, 1)]) (#[_, _, _]) underlying174 zeroValue174 (fun w => by kernel_rfl) rfl (rfl)) (aU (fO (pl := #[(0, 3)]) (#[_, _, _]) underlying176 zeroValue176 (fun w => by kernel_rfl) rfl (rfl)) (iw (jd (l := [_, _, _]) H rfl rfl) ?_)))))))
     rintro _ w1 ⟨b1, rfl, H1⟩
     refine aW rfl (aW rfl (aA (aj (aK (gW (.inl rfl) results75 rfl rfl ?_)))))
     exact ⟨_, rfl, aB.qx (v := .slice none 0 0) ⟨by simp, by decide, by decide, by simp; omega, by omega, by simp⟩ ((H1.iE none).swap)⟩
theorem jC (H : aB w0 w (dn p hl base most • F)) : gG prog 84 #[.pointer (some ⟨p, 0, none⟩)] w fun v w' => v = .int .i64 hl.length ∧ aB w0 w' (dn p hl base most • F) := by
 refine iF func84 ntmps84 ?_
 dsimp only [bg, Nat.reduceAdd]
 refine ay (ah (aW rfl (aA (aj (ay (ay (ah (aI rfl (dH rfl func103 (oV H) ?_)))))))))
 rintro _ _ ⟨rfl, rfl⟩
 refine aA (aj (nY (aO (aj (ay ?_)))))
 obtain ⟨QA, uI, vK⟩ := (H).hist
 refine ah (aI rfl (bQ rfl (bC 0 underlying176 rfl sizeOf174 rfl (bC 0 underlying174 rfl sizeOf24 rfl (eu underlying24 rfl (vK).get.2 rfl (aU (eX ((vK.f2).aT) underlying24 rfl) (aW rfl (aA (aj (aK (aQ (.inl rfl) results84 rfl ?_)))))))))))
 have KQ := vK.f2.f2
 have KR := aB.qx uI KQ
 exact ⟨rfl, KR⟩
theorem nT (H : aB w0 w (dn p hl base most • F)) : gG prog 77 #[.pointer (some ⟨p, 0, none⟩)] w fun v w' => ∃ q, v = .pointer (some ⟨q, 0, none⟩) ∧ aB w0 w' (dn q hl base most • dn p hl base most • F) := by
 refine iF func77 ntmps77 ?_
 dsimp only [bg, Nat.reduceAdd]
 refine ay (ah (aW rfl (aA (aj (ay (ay (ah (aI rfl (dH rfl func103 (oV H) ?_)))))))))
 rintro _ _ ⟨rfl, rfl⟩
 refine aA (aj (nY (aO (aj (ay ?_)))))
 obtain ⟨QA, uI, vK⟩ := (H).hist
 have hcl := uI.1
 have Ai := vK.drew
 have fE := aB.kp (Ai.f2.f2)
 refine wo [4, 10, 15] fE rfl (gV 0 rfl fE rfl (iZ 1 rfl fE rfl (dV 2 rfl fE 0 underlying176 rfl sizeOf174 rfl (dV 3 rfl fE 0 underlying174 rfl sizeOf24 rfl (iy 4 rfl fE (fun W hW => iQ underlying24 rfl ((Kp.h hW)).get.2 rfl) (gV 6 rfl fE rfl (iZ 7 rfl fE rfl (dV 8 rfl fE 0 underlying176 rfl sizeOf174 rfl (dV 9 rfl fE 1 underlying174 rfl sizeOf2 rfl (iy 10 rfl fE (fun W hW => iQ underlying2 rfl ((Kp.h hW)).get.2 rfl) (gV 11 rfl fE rfl (iZ 12 rfl fE rfl (dV 13 rfl fE 0 underlying176 rfl sizeOf174 rfl (dV 14 rfl fE 2 underlying174 rfl sizeOf3 rfl (iy 15 rfl fE (fun W hW => iQ underlying3 rfl ((Kp.h hW)).get.2 rfl) (jr 5 rfl (rX rfl func104 (vJ Ai (fun W HW => (HW.f2).aT) (by omega))) ?_))))))))))))))))
 rintro u3 w3 H3
 have BQ := aB.kp (H3.f3.f3.f3)
 refine bW BQ (fun W hW => (Kp.h hW).right.f2.f2) ?_
 obtain ⟨au3, cu3, XA, -⟩ := ((H3).aT).form
 subst XA
 refine iR 16 rfl BQ (fun _ => fO (pl := #[(0, 1), (1, 1), (2, 1)]) (#[_, _, _]) underlying174 zeroValue174 (fun w => by kernel_rfl) rfl (rfl)) (iR 17 rfl BQ (fun _ => fO (pl := #[(0, 3)]) (#[_, _, _]) underlying176 zeroValue176 (fun w => by kernel_rfl) rfl (rfl)) (jr 18 rfl (jd (l := [_, _, _]) H3 rfl rfl) ?_))
 rintro _ w4 ⟨b4, rfl, H4⟩
 have uz := aB.kp (H4.f4.f4.f4.f4)
 refine dR uz (by kernel_rfl) ?_
 refine iR 19 rfl uz (fun _ => fA rfl) (nJ (aj (aK (aQ (.inl rfl) results77 rfl ?_))))
 have VD := H4.f4.f4
 have VE := aB.qx uI VD
 exact ⟨_, rfl, aB.qx uI VE.f3.f3⟩
end
end Go.Proofs.YtddekefihgejoaaGreatDoor
end
section
namespace Go.Proofs.YtddekefihgejoaaGreatDoor
open Go.RowKit
def tK {β : Type} (f : Int → β) (a : Int) (v : β) : Int → β := fun x => if x = a then v else f x
theorem iK {β : Type} (f : Int → β) (a : Int) (v : β) : tK f a v a = v := if_pos rfl
theorem rM {β : Type} (f : Int → β) {a x : Int} (v : β) (h : x ≠ a) : tK f a v x = f x := if_neg h
theorem TN {β : Type} (f : Int → β) (a : Int) : tK f a (f a) = f := by funext x; unfold tK; split <;> simp_all
structure lK where
  L : List Int
  pt : Int
  mark : Int
  E : List (List Int)
  at_ : Nat
  place : Int
  tx : Int → Option ByteArray
  un : Int → List (List fJ)
  mode : Int
  over : Bool
  last : Int
  fr : Int
  to : Int
  res : Int
  run : Bool
structure bH where
  c : lK
  hl : List lC
  base : Int
  most : Int
  sH : Int
  given : Bool
  minus : Bool
  arg : Int
  inn : Bool
  was : lK
  cls : Int
  killed : Bool
  lW : Bool
  argues : Bool
  whole : Bool
  put : List fJ
def KZ (hl : List lC) (k : Int) : lC := if 0 ≤ k ∧ k < hl.length then hl.getD k.toNat default else (.empty, 0)
def sJ (hl : List lC) (k : Int) : ByteArray := (KZ hl k).1
def fF (hl : List lC) (tx : Int → Option ByteArray) (k : Int) : ByteArray := (tx k).getD (sJ hl k)
def oW (hl : List lC) (tx : Int → Option ByteArray) (place : Int) (k : Nat) : Bool := decide ((k : Int) ≠ place) && !((fF hl tx k).toList == (sJ hl k).toList)
def jG (hl : List lC) (tx : Int → Option ByteArray) (place : Int) (n : Nat) : List (Int × ByteArray) := ((List.range n).filter (oW hl tx place)).map fun (k : Nat) => ((k : Int), fF hl tx k)
def kY (hl : List lC) (tx : Int → Option ByteArray) (place : Int) : List (Int × ByteArray) := jG hl tx place hl.length ++ (if place ≠ hl.length then [((hl.length : Int), fF hl tx hl.length)] else [])
def lM (G : List (List fJ)) (inn : Bool) (put : List fJ) (typed run : Bool) : Int := (G.length : Int) + if inn && !put.isEmpty && !(typed && run) then 1 else 0
namespace bH
variable (s : bH)
def here : List (List fJ) := s.c.un s.c.place
def nU (G : List (List fJ)) : bH := { s with c := { s.c with un := tK s.c.un s.c.place G } }
def uJ : Int := if s.inn then 0 else 1
def rO : Int := if s.inn then 1 else 0
def gX : bH := if s.inn then s else { s with inn := true, was := s.c, cls := 0, killed := false, lW := false, argues := false, whole := true, put := [] }
def jS (on : Bool) : List (List fJ) := if s.put = [] then s.here else if on then (match s.here.getLast? with | some g => s.here.dropLast ++ [g ++ s.put] | none => [s.put]) else s.here ++ [s.put]
def dA (on : Bool) : bH := if s.put = [] then s else { s.nU (s.jS on) with put := [] }
def zy : bH := { s with given := false, minus := false, arg := -1 }
def Aj (err : Int) : Int := if s.inn then err else 1
def yB : bH := { s.zy with inn := false, c := { s.was with last := 0, fr := 0, to := 0 }, sH := IntKind.i64.wrap (s.sH + 1), put := [] }
def typed : Bool := s.cls == 3 && s.whole
def gJ : bH := { (if s.argues then s else s.zy) with inn := false }
def kZ : bH :=
  let t := s.gJ.dA (s.typed && s.c.run)
  let c := { t.c with run := s.typed && (!s.put.isEmpty || s.c.run), last := s.cls }
  { t with c := if s.cls ≠ 2 then { c with fr := 0, to := 0 } else c }
def nV (err : Int) : bH := if s.inn then (if err = 0 then s.kZ else s.yB) else s
def xW (x : fJ) : bH :=
  if x.2.1.length + x.2.2.length = 0 then s else
  if 16384 ≤ eY s.here s.put then { s.nU [] with put := [x], c := { (s.nU []).c with run := false } } else { s with put := s.put ++ [x] }
def jO (L : List Int) (pt mk : Int) : bH := { s with c := { s.c with L := L, pt := pt, mark := mk } }
def oJ (i j : Int) (l : List Int) : Int := if s.inn then kH s.c.L i j l else 1
def sK (i j : Int) (l : List Int) : bH := if s.inn then (s.jO (pY s.c.L i j l) (qc s.c.L s.c.pt i j l) (qg s.c.L s.c.mark i j l)).xW (pG s.c.L i j l, jW s.c.L i j l, jX s.c.L i j l) else s
def QB (l : List Int) : Int := s.oJ s.c.pt s.c.pt l
def Ov (l : List Int) : bH := s.sK s.c.pt s.c.pt l
def Ak (l : List Int) : Int := if s.c.over then min (s.c.pt + l.length) s.c.L.length else s.c.pt
def QC (l : List Int) : Int := s.oJ s.c.pt (s.Ak l) l
def xX (l : List Int) : bH := if s.inn then (let t := s.sK s.c.pt (s.Ak l) l; if s.QC l = 0 ∧ s.cls = 0 then { t with cls := 3 } else t) else s
def way (back : Bool) : Int := if s.c.last = 1 ∨ s.killed = true then (if back then 2 else 1) else 0
def GX (i j : Int) : Prop := i < 0 ∨ s.c.L.length < i ∨ j < i ∨ s.c.L.length < j
instance (i j : Int) : Decidable (s.GX i j) := by unfold GX; infer_instance
def cut (i j : Int) : List Int := (s.c.L.drop i.toNat).take (j.toNat - i.toNat)
def QD (i j : Int) (back : Bool) : Int × List (List Int) × Nat := Xw s.c.E s.c.at_ (s.way back) (s.cut i j)
def MS (i j : Int) (back : Bool) : Int := if s.inn then (if s.GX i j then 70 else (s.QD i j back).1) else 1
def TP (E : List (List Int)) (a : Nat) : bH := { s with c := { s.c with E := E, at_ := a } }
def UN (i j : Int) (back : Bool) : bH := if s.MS i j back = 0 then { s.TP (s.QD i j back).2.1 (s.QD i j back).2.2 with killed := true, cls := 1 } else s
def abh (i j : Int) (back : Bool) : Int := if s.MS i j back = 0 then (s.UN i j back).oJ i j [] else s.MS i j back
def abj (i j : Int) (back : Bool) : bH := if s.MS i j back = 0 then (s.UN i j back).sK i j [] else s
def top : List Int := s.c.E.getD s.c.at_ []
def XO : Int := if s.inn then (if s.c.E.length = 0 then 6 else s.QB s.top) else 1
def abk : bH :=
  if s.XO = 0 then
    let t := s.Ov s.top
    { t with lW := true, cls := 2, c := { t.c with mark := smM t.c.L t.c.mark s.c.pt, fr := s.c.pt, to := s.c.pt + s.top.length } }
  else s
def VF (n : Int) : List Int := s.c.E.getD (Ac s.c.E.length s.c.at_ n) []
def ZA (n : Int) : Int := if s.inn then (if s.c.last ≠ 2 ∨ s.lW = true then 6 else if s.c.E.length = 0 then 6 else s.oJ s.c.fr s.c.to (s.VF n)) else 1
def abY (n : Int) : bH :=
  if s.ZA n = 0 then
    let t := s.sK s.c.fr s.c.to (s.VF n)
    { t with lW := true, cls := 2, c := { t.c with E := s.c.E, at_ := Ac s.c.E.length s.c.at_ n, fr := s.c.fr, to := s.c.fr + (s.VF n).length } }
  else s
def kills : List (List Int) := s.c.E.drop s.c.at_ ++ s.c.E.take s.c.at_
def FC (x : Int) : Int := if s.inn then Xj s.c.L.length x else 1
def wM (x : Int) : bH := if s.inn then s.jO s.c.L (UG s.c.L.length s.c.pt x) s.c.mark else s
def abl (x : Int) : Int := if s.inn then smE s.c.L x else 1
def abm (x : Int) : bH := if s.inn then s.jO s.c.L s.c.pt (smM s.c.L s.c.mark x) else s
def abn : Int := if s.inn then swE s.c.mark else 1
def abo : bH := if s.inn then s.jO s.c.L (swP s.c.pt s.c.mark) (swM s.c.pt s.c.mark) else s
def ZB (b : List Int × Int × Int) (x : fJ) : List Int × Int × Int := (Zn b.1 x.1 x.2.1 x.2.2, Zo b.1 b.2.1 x.1 x.2.1 x.2.2, Zp b.1 b.2.2 x.1 x.2.1 x.2.2)
def apps (b : List Int × Int × Int) (l : List fJ) : List Int × Int × Int := l.foldl ZB b
def UO (l : List fJ) : bH := let b := apps (s.c.L, s.c.pt, s.c.mark) l; s.jO b.1 b.2.1 b.2.2
def MV : bH := { s with whole := false, c := { s.c with run := false } }
def abp : bH := if s.inn then (let t := s.dA false; if t.here = [] then t else ((t.nU t.here.dropLast).UO ((t.here.getLastD []).reverse.map DV)).MV) else s
def Qs : Int := if s.inn then (if (s.dA false).here = [] then 6 else 0) else 1
def abZ : bH := if s.inn then (let t := s.dA false; if t.here = [] then t else ((t.nU []).UO (t.here.flatten.reverse.map DV)).MV) else s
def VG (d : Int) : Int := if s.inn then (if d < 0 ∨ 9 < d then 1 else 0) else 1
def ZC (d : Int) : bH := if s.VG d = 0 then { s with given := true, argues := true, arg := min (max s.arg 0 * 10 + d) 1000000 } else s
def ab0 : bH := if s.inn then { s with given := true, argues := true, minus := !s.minus } else s
def ZE (n : Int) : Int := if s.inn then (if 1000000 < n ∨ n < -1000000 then 1 else 0) else 1
def ab1 (n : Int) : bH := if s.ZE n = 0 then { s with given := true, argues := true, minus := decide (n < 0), arg := max n (-n) } else s
def count : Int := if s.given then (let n := if s.arg < 0 then 1 else s.arg; if s.minus then -n else n) else 1
def XP (m : Int) : Int := if s.inn then (if m < 0 ∨ 2 < m then 1 else 0) else 1
def abq (m : Int) : bH := if s.XP m = 0 then { s with c := { s.c with mode := m } } else s
def abr (b : Bool) : bH := if s.inn then { s with c := { s.c with over := b } } else s
def ZF (r : Int) : Int := if s.inn then (if r < 1 ∨ 3 < r then 1 else 0) else 1
def ab2 (r : Int) : bH := if s.ZF r = 0 then { s with c := { s.c with res := r } } else s
def first (k : Int) : ByteArray := sJ s.hl k
def stands (k : Int) : ByteArray := (s.c.tx k).getD (s.first k)
def QE : Int := lM s.here s.inn s.put s.typed s.c.run
def saved : List (Int × ByteArray) := kY s.hl s.c.tx s.c.place
def QF : Int := if s.inn then s.was.last else s.c.last
def ZG : Int := if s.inn then s.was.fr else s.c.fr
def ZH : Int := if s.inn then s.was.to else s.c.to
end bH
def lK.fresh (l : List Int) (E : List (List Int)) (a : Nat) (place mode : Int) : lK := ⟨l, l.length, -1, E, a, place, fun _ => none, fun _ => [], mode, false, 0, 0, 0, 0, false⟩
def bH.start (s : bH) (hl : List lC) (base most : Int) (l : List Int) : bH := { s with c := lK.fresh l s.c.E s.c.at_ hl.length s.c.mode, hl := hl, base := base, most := most, given := false, minus := false, arg := -1 }
def bH.new (hl : List lC) (base most : Int) : bH :=
  let c := lK.fresh [] [] 0 hl.length 0
  { c := c, hl := hl, base := base, most := most, sH := 0, given := false, minus := false, arg := -1, inn := false, was := c, cls := 0, killed := false, lW := false, argues := false, whole := false, put := [] }
end Go.Proofs.YtddekefihgejoaaGreatDoor
end
section
namespace Go.Proofs.YtddekefihgejoaaGreatDoor
open Go.RowKit Go.MapKept
structure Key (α : Type) where
  mkKey ::
  d : TypeDesc
  mk : α → Value
  key : ∀ a, IsKey d (mk a)
  inj : ∀ a b, mk a = mk b → a = b
  onto : ∀ v, IsKey d v → ∃ a, mk a = v
def xH (k : IntKind) : Key Int := ⟨.int k, .int k, fun _ => rfl, fun _ _ h => by cases h; rfl, fun v h => by
  cases v <;> simp [IsKey] at h
  subst h
  exact ⟨_, rfl⟩⟩
abbrev lg : Key Int := xH .i64
abbrev ab3 : Key Int := xH .i32
def ab4 : Key ByteArray := ⟨.string, .string, fun _ => trivial, fun _ _ h => by cases h; rfl, fun v h => by
  cases v <;> simp [IsKey] at h
  exact ⟨_, rfl⟩⟩
section
variable {α : Type} {K : Key α} {f : α → Option Value} {es : Array MapEntry} {clock : Nat}
def xY (K : Key α) (f : α → Option Value) (es : Array MapEntry) (clock : Nat) : Prop :=
  Stamped es clock ∧ (∀ x ∈ es.toList, IsKey K.d x.key) ∧ ∀ a v, f a = some v ↔ ∃ x ∈ es.toList, x.key = K.mk a ∧ x.val = v
def dU (K : Key α) (b : Nat) (f : α → Option Value) : HP := qN fun (x : Array MapEntry × Nat) => fact (xY K f x.1 x.2) • dh b (.map x.1 x.2)
def upd [DecidableEq α] {β : Type} (f : α → Option β) (a : α) (v : β) : α → Option β := fun x => if x = a then some v else f x
theorem xY.same (h : xY K f es clock) {x y : MapEntry} (hx : x ∈ es.toList) (hy : y ∈ es.toList) (e : x.key = y.key) : x = y := by
  have hn := h.1.2.2
  rw [List.Nodup, List.pairwise_map] at hn
  exact uK hn hx hy e
where
  uK : ∀ {l : List MapEntry}, l.Pairwise (fun x y => x.key ≠ y.key) → ∀ {x y : MapEntry}, x ∈ l → y ∈ l → x.key = y.key → x = y
    | [], _, _, _, hx, _, _ => by cases hx
    | z :: l, hp, x, y, hx, hy, e => by
      rw [List.pairwise_cons] at hp
      rcases List.mem_cons.1 hx with hx1 | hx1
      · rcases List.mem_cons.1 hy with hy1 | hy1
        · rw [hx1, hy1]
        · exact absurd (by rw [← hx1]; exact e) (hp.1 _ hy1)
      · rcases List.mem_cons.1 hy with hy1 | hy1
        · exact absurd (by rw [← hy1]; exact e.symm) (hp.1 _ hx1)
        · exact uK hp.2 hx1 hy1 e
theorem MW : ∀ {l : List MapEntry}, (l.map (·.born)).Nodup → ∀ {x y : MapEntry}, x ∈ l → y ∈ l → x.born = y.born → x = y
  | [], _, _, _, hx, _, _ => by cases hx
  | z :: l, hp, x, y, hx, hy, e => by
    rw [List.map_cons, List.nodup_cons] at hp
    rcases List.mem_cons.1 hx with hx1 | hx1
    · rcases List.mem_cons.1 hy with hy1 | hy1
      · rw [hx1, hy1]
      · exact absurd (List.mem_map.2 ⟨y, hy1, by rw [← hx1]; exact e.symm⟩) hp.1
    · rcases List.mem_cons.1 hy with hy1 | hy1
      · exact absurd (List.mem_map.2 ⟨x, hx1, by rw [← hy1]; exact e⟩) hp.1
      · exact MW hp.2 hx1 hy1 e
theorem xY.find (h : xY K f es clock) (a : α) : (Instr.findNow K.d (K.mk a) es.toList 0 = some none ∧ f a = none ∧ ∀ x ∈ es.toList, x.key ≠ K.mk a) ∨
    ∃ j e, Instr.findNow K.d (K.mk a) es.toList 0 = some (some (j, e.val)) ∧ es.toList[j]? = some e ∧ e.key = K.mk a ∧ f a = some e.val := by
  rcases findNow_spec (K.key a) es.toList 0 h.2.1 with ⟨h1, h2⟩ | ⟨j, e, h1, h2, h3⟩
  · refine .inl ⟨h1, ?_, h2⟩
    cases hf : f a with
    | none => rfl
    | some v =>
      obtain ⟨x, hx, hk, _⟩ := (h.2.2 a v).1 hf
      exact absurd hk (h2 x hx)
  · refine .inr ⟨j, e, by simpa using h1, h2, h3, (h.2.2 a e.val).2 ⟨e, List.mem_of_getElem? h2, h3, rfl⟩⟩
theorem Jk (K : Key α) : xY K (fun _ => none) #[] 0 := ⟨stamped_empty 0, by simp, by simp⟩
end
section
variable {α : Type} {K : Key α} {f : α → Option Value} {es : Array MapEntry} {clock : Nat} {P : Program} {L : List (Nat × Value)} {w w0 : World} {ty : TypeId} {x y z : Operand} {F : HP} {b it n : Nat} {a : α} {S : List α}
theorem aB.map (H : aB w0 w (dU K b f • F)) : ∃ es clock, xY K f es clock ∧ aB w0 w (dh b (.map es clock) • F) := by
  obtain ⟨⟨es, clock⟩, H⟩ := H.lD
  obtain ⟨h, H⟩ := H.flat.fact
  exact ⟨es, clock, h, H⟩
theorem aB.GY (h : xY K f es clock) (H : aB w0 w (dh b (.map es clock) • F)) : aB w0 w (dU K b f • F) := aB.gK (es, clock) (aB.deep (aB.jP h H))
theorem Jl {t kt et : TypeId} {zv : Value} (ok : Bool) (h : xY K f es clock) (hb : w.heap[b]? = some (.map es clock)) (ht : P.underlying t = some (.map kt et)) (hk : P.underlying kt = some K.d) (hz : (zeroValue et).run P w = .ok zv w) :
    (Instr.lookup t (.map (some b)) (K.mk a) ok).run P w = .ok (if ok then .tuple #[(f a).getD zv, .bool (f a).isSome] else (f a).getD zv) w := by
  rcases h.find a with ⟨h1, h2, _⟩ | ⟨j, e, h1, h2, h3, h4⟩
  · simp [Instr.lookup, run_underlying ht, MapKept.run_getObj_map hb, MapKept.run_checkKey hk (K.key a), MapKept.run_findKey hk h1, hz, Result.andThen, h2]
  · simp [Instr.lookup, run_underlying ht, MapKept.run_getObj_map hb, MapKept.run_checkKey hk (K.key a), MapKept.run_findKey hk h1, Result.andThen, h4]
theorem Jm {t kt et : TypeId} {zv : Value} (H : aB w0 w (dU K b f • F)) (ht : P.underlying t = some (.map kt et)) (hk : P.underlying kt = some K.d) (hz : ∀ w, (zeroValue et).run P w = .ok zv w)
    (hx : ev L x = some (.map (some b))) (hy : ev L y = some (K.mk a)) : Val P L (.lookup t x y false) ty w ((f a).getD zv) w := fun ρ hρ _ _ _ _ => by
  obtain ⟨es, clock, h, H⟩ := H.map
  simp only [execOp, hρ _ _ hx, hρ _ _ hy, Sem.run_bind]
  rw [Jl false h H.get.2 ht hk (hz w)]
  rfl
theorem Jo {t kt et : TypeId} {zv : Value} (H : aB w0 w (dU K b f • F)) (ht : P.underlying t = some (.map kt et)) (hk : P.underlying kt = some K.d) (hz : ∀ w, (zeroValue et).run P w = .ok zv w)
    (hx : ev L x = some (.map (some b))) (hy : ev L y = some (K.mk a)) : Val P L (.lookup t x y true) ty w (.tuple #[(f a).getD zv, .bool (f a).isSome]) w := fun ρ hρ _ _ _ _ => by
  obtain ⟨es, clock, h, H⟩ := H.map
  simp only [execOp, hρ _ _ hx, hρ _ _ hy, Sem.run_bind]
  rw [Jl true h H.get.2 ht hk (hz w)]
  rfl
theorem iW {t : TypeId} (K : Key α) (H : aB w0 w F) : rU P L (.makeMap t none) ty w fun v w' => ∃ b, v = .map (some b) ∧ aB w0 w' (dU K b (fun _ => none) • F) := by
  refine nG (v := .map (some w.heap.size)) (w' := w.alloc (.map #[] 0)) ?_ ⟨_, rfl, aB.GY (Jk K) (H.alloc _)⟩
  intro ρ hρ d pos lH g
  simp only [execOp, Sem.run_bind, Option.map_none]
  rfl
theorem Jp {o : Obj} {b : Nat} (h : w.heap[b]? = some o) (o' : Obj) : ({ w with heap := w.heap.setIfInBounds b o' } : World).heap[b]? = some o' ∧ ∀ k, k ≠ b → ({ w with heap := w.heap.setIfInBounds b o' } : World).heap[k]? = w.heap[k]? := by
  have hlt := lt_of_block h
  exact ⟨by simp [hlt], fun k hk => by simp [Ne.symm hk]⟩
theorem aB.setB {o : Obj} (H : aB w0 w (dh b o • F)) (o' : Obj) : aB w0 (ChangeMaps.setBlock w b o') (dh b o' • F) :=
  aB.turn (w := w) (w' := ChangeMaps.setBlock w b o') H rfl rfl rfl (by simp [ChangeMaps.setBlock]) (Jp H.get.2 o').1 fun k hk _ => (Jp H.get.2 o').2 k hk
theorem sN [DecidableEq α] {t kt et : TypeId} {v : Value} (H : aB w0 w (dU K b f • F)) (ht : P.underlying t = some (.map kt et)) (hk : P.underlying kt = some K.d)
    (hx : ev L x = some (.map (some b))) (hy : ev L y = some (K.mk a)) (hz : ev L z = some v) : rU P L (.mapUpdate t x y z) ty w fun _ w' => aB w0 w' (dU K b (upd f a v) • F) := by
  obtain ⟨es, clock, h, H⟩ := H.map
  have hb := H.get.2
  rcases h.find a with ⟨h1, h2, h3⟩ | ⟨j, e, h1, h2, h3, h4⟩
  · have hrun : (Instr.mapUpdate t (.map (some b)) (K.mk a) v).run P w = .ok () (ChangeMaps.setBlock w b (.map (es.push { key := K.mk a, val := v, born := clock }) (clock + 1))) := by
      simp [ChangeMaps.setBlock, Instr.mapUpdate, run_underlying ht, MapKept.run_getObj_map hb, MapKept.run_checkKey hk (K.key a), MapKept.run_findKey hk h1, MapKept.run_setObj_map _ hb, Result.andThen]
    refine CY (w' := ChangeMaps.setBlock w b (.map (es.push { key := K.mk a, val := v, born := clock }) (clock + 1))) (fun ρ hρ d pos lH g => ?_) (aB.GY (es := es.push { key := K.mk a, val := v, born := clock }) (clock := clock + 1) ⟨stamped_push h.1 h3, ?_, ?_⟩ (H.setB _))
    · simp only [execOp, hρ _ _ hx, hρ _ _ hy, hρ _ _ hz, Sem.run_bind]
      rw [hrun]; rfl
    · intro q hq
      simp only [Array.toList_push, List.mem_append, List.mem_singleton] at hq
      rcases hq with hq | rfl
      · exact h.2.1 q hq
      · exact K.key a
    · intro c u
      simp only [Array.toList_push, List.mem_append, List.mem_singleton, upd]
      by_cases hc : c = a
      · subst hc
        rw [if_pos rfl]
        constructor
        · intro hu; cases hu; exact ⟨_, .inr rfl, rfl, rfl⟩
        · rintro ⟨q, hq | rfl, hqk, QG⟩
          · exact absurd hqk (h3 q hq)
          · rw [← QG]
      · rw [if_neg hc, h.2.2 c u]
        constructor
        · rintro ⟨q, hq, hqk, QG⟩; exact ⟨q, .inl hq, hqk, QG⟩
        · rintro ⟨q, hq | rfl, hqk, QG⟩
          · exact ⟨q, hq, hqk, QG⟩
          · exact absurd (K.inj _ _ hqk).symm hc
  · have hj : es[j]? = some e := by simpa using h2
    have hrun : (Instr.mapUpdate t (.map (some b)) (K.mk a) v).run P w = .ok () (ChangeMaps.setBlock w b (.map (es.modify j fun e => { e with key := K.mk a, val := v }) clock)) := by
      simp [ChangeMaps.setBlock, Instr.mapUpdate, run_underlying ht, MapKept.run_getObj_map hb, MapKept.run_checkKey hk (K.key a), MapKept.run_findKey hk h1, hj, h3, MapKept.run_keyThatStays (K.key a), MapKept.run_setObj_map _ hb, Result.andThen]
    have hkey : ∀ e', es[j]? = some e' → ({ e' with key := K.mk a, val := v } : MapEntry).key = e'.key := fun e' he' => by rw [hj] at he'; cases he'; exact h3.symm
    have hst : Stamped (es.modify j fun e => { e with key := K.mk a, val := v }) clock := stamped_modify h.1 _ _ (fun _ _ => rfl) (fun e' _ he' => hkey e' he')
    have hmem : ∀ q, q ∈ (es.modify j fun e => { e with key := K.mk a, val := v }).toList ↔ (q = { e with key := K.mk a, val := v } ∨ q ∈ es.toList ∧ q.key ≠ K.mk a) := by
      intro q
      have hee : e ∈ es.toList := List.mem_of_getElem? h2
      constructor
      · intro hq
        obtain ⟨i, hi⟩ := List.getElem?_of_mem hq
        rw [Array.getElem?_toList, Array.getElem?_modify] at hi
        by_cases hij : j = i
        · subst hij
          rw [if_pos rfl, hj] at hi
          exact .inl (by simpa using hi.symm)
        · rw [if_neg hij] at hi
          have hqm : q ∈ es.toList := Array.mem_toList_iff.2 (Array.mem_of_getElem? hi)
          refine .inr ⟨hqm, fun hqk => ?_⟩
          have he : q = e := h.same hqm hee (hqk.trans h3.symm)
          subst he
          have hn := h.1.2.1
          have h5 : (es.toList.map (·.born))[i]? = some q.born := by rw [List.getElem?_map, Array.getElem?_toList, hi]; rfl
          have h6 : (es.toList.map (·.born))[j]? = some q.born := by rw [List.getElem?_map, h2]; rfl
          have hlt : i < (es.toList.map (·.born)).length := (List.getElem?_eq_some_iff.1 h5).1
          have hlt2 : j < (es.toList.map (·.born)).length := (List.getElem?_eq_some_iff.1 h6).1
          exact hij ((List.getElem?_inj hlt2 hn).1 (h6.trans h5.symm))
      · rintro (rfl | ⟨hq, hqk⟩)
        · apply List.mem_of_getElem? (i := j)
          rw [Array.getElem?_toList, Array.getElem?_modify, if_pos rfl, hj]; rfl
        · obtain ⟨i, hi⟩ := List.getElem?_of_mem hq
          have hij : j ≠ i := by
            rintro rfl
            rw [h2] at hi; cases hi
            exact hqk h3
          apply List.mem_of_getElem? (i := i)
          rw [Array.getElem?_toList, Array.getElem?_modify, if_neg hij]
          rwa [Array.getElem?_toList] at hi
    refine CY (w' := ChangeMaps.setBlock w b (.map (es.modify j fun e => { e with key := K.mk a, val := v }) clock)) (fun ρ hρ d pos lH g => ?_) (aB.GY (es := es.modify j fun e => { e with key := K.mk a, val := v }) (clock := clock) ⟨hst, isKey_modify h.2.1 _ _ hkey, ?_⟩ (H.setB _))
    · simp only [execOp, hρ _ _ hx, hρ _ _ hy, hρ _ _ hz, Sem.run_bind]
      rw [hrun]; rfl
    · intro c u
      simp only [hmem, upd]
      by_cases hc : c = a
      · subst hc
        rw [if_pos rfl]
        constructor
        · intro hu; cases hu; exact ⟨_, .inl rfl, rfl, rfl⟩
        · rintro ⟨q, rfl | ⟨hq, hqn⟩, hqk, QG⟩
          · rw [← QG]
          · exact absurd hqk hqn
      · rw [if_neg hc, h.2.2 c u]
        constructor
        · rintro ⟨q, hq, hqk, QG⟩
          exact ⟨q, .inr ⟨hq, fun hqa => hc (K.inj _ _ (hqk.symm.trans hqa))⟩, hqk, QG⟩
        · rintro ⟨q, rfl | ⟨hq, hqn⟩, hqk, QG⟩
          · exact absurd (K.inj _ _ hqk).symm hc
          · exact ⟨q, hq, hqk, QG⟩
def VH (K : Key α) (f : α → Option Value) (es : Array MapEntry) (clock : Nat) (seen : Array Nat) (S : List α) (n : Nat) : Prop :=
  xY K f es clock ∧ (∃ xs : List MapEntry, (∀ x ∈ xs, x ∈ es.toList) ∧ seen.toList = xs.map (·.born) ∧ xs.map (·.key) = S.map K.mk) ∧ (leftOf es seen).size = n
def zA (K : Key α) (b it : Nat) (f : α → Option Value) (S : List α) (n : Nat) : HP := qN fun (x : Array MapEntry × Nat × Array Nat) => fact (VH K f x.1 x.2.1 x.2.2 S n) • dh it (.mapIter (some b) x.2.1 x.2.2 x.2.1) • dh b (.map x.1 x.2.1)
theorem aB.QH (H : aB w0 w (zA K b it f S n • F)) : ∃ es clock seen, VH K f es clock seen S n ∧ aB w0 w (dh it (.mapIter (some b) clock seen clock) • dh b (.map es clock) • F) := by
  obtain ⟨⟨es, clock, seen⟩, H⟩ := H.lD
  obtain ⟨h, H⟩ := H.flat.fact
  exact ⟨es, clock, seen, h, H.flat⟩
theorem aB.D6 {seen : Array Nat} (h : VH K f es clock seen S n) (H : aB w0 w (dh it (.mapIter (some b) clock seen clock) • dh b (.map es clock) • F)) : aB w0 w (zA K b it f S n • F) :=
  aB.gK (es, clock, seen) (aB.deep (aB.jP h (H.of_eq (by ac_rfl))))
theorem aB.FD (H : aB w0 w (zA K b it f S n • F)) : aB w0 w (dU K b f • F) := by
  obtain ⟨es, clock, seen, h, H⟩ := H.QH
  exact aB.GY h.1 H.right
theorem Bg {t kt et : TypeId} (H : aB w0 w (dU K b f • F)) (ht : P.underlying t = some (.map kt et)) (hx : ev L x = some (.map (some b))) :
    rU P L (.range t x) ty w fun v w' => ∃ it n, v = .pointer (some ⟨it, 0, none⟩) ∧ aB w0 w' (zA K b it f [] n • F) := by
  obtain ⟨es, clock, h, H⟩ := H.map
  refine nG (v := .pointer (some ⟨w.heap.size, 0, none⟩)) (w' := w.alloc (.mapIter (some b) clock #[] clock)) ?_ ⟨_, _, rfl, aB.D6 ⟨h, ⟨[], by simp, rfl, rfl⟩, rfl⟩ (H.alloc _)⟩
  intro ρ hρ d pos lH g
  simp only [execOp, hρ _ _ hx, Sem.run_bind]
  rw [run_range_map w t kt et b es clock ht H.get.2]
  rfl
def XQ (K : Key α) : Option (α × Value) → Value
  | some (a, u) => .tuple #[.bool true, K.mk a, u]
  | none => .tuple #[.bool false]
def ZI (f : α → Option Value) (S : List α) (n : Nat) (S' : List α) (n' : Nat) : Option (α × Value) → Prop
  | some (a, u) => f a = some u ∧ a ∉ S ∧ n' < n ∧ S' = S ++ [a]
  | none => S' = S ∧ n' = n ∧ ∀ a u, f a = some u → a ∈ S
theorem TQ {es : Array MapEntry} {seen : Array Nat} {e : MapEntry} (he : e ∈ (leftOf es seen).toList) : (leftOf es (seen.push e.born)).size < (leftOf es seen).size := by
  unfold leftOf at *
  rw [Array.toList_filter, List.mem_filter] at he
  have e1 : ∀ q : MapEntry → Bool, (es.filter q).size = (es.toList.filter q).length := fun q => by rw [← Array.toList_filter, Array.length_toList]
  rw [e1, e1]
  refine filter_lt _ _ (fun x hx => ?_) e he.2 ?_ es.toList he.1
  · simp only [Bool.not_eq_true', Array.contains_push, Bool.or_eq_false_iff] at hx ⊢
    exact hx.1
  · simp
theorem D7 (H : aB w0 w (zA K b it f S n • F)) (hx : ev L x = some (.pointer (some ⟨it, 0, none⟩))) :
    rU P L (.next x false) ty w fun v w' => ∃ o S' n', v = XQ K o ∧ ZI f S n S' n' o ∧ aB w0 w' (zA K b it f S' n' • F) := by
  obtain ⟨es, clock, seen, ⟨hm, ⟨xs, hxs, hse, hS⟩, hn⟩, H⟩ := H.QH
  have hr := H.get.2
  have hb := H.swap.get.2
  rcases run_next_at (P := P) w ty it b clock clock seen es clock hr hb hm.1.1 (Nat.le_refl _) with ⟨h0, hrun⟩ | ⟨e, he, w1, hw1, hrun⟩
  · refine nG (v := XQ K none) (w' := w) (fun ρ hρ d pos lH g => ?_) ⟨none, S, n, rfl, ⟨rfl, rfl, fun a u ha => ?_⟩, aB.D6 ⟨hm, ⟨xs, hxs, hse, hS⟩, hn⟩ H⟩
    · simp only [execOp, hρ _ _ hx, Sem.run_bind]
      rw [hrun]; rfl
    · obtain ⟨y, hy, hyk, _⟩ := (hm.2.2 a u).1 ha
      have hys : seen.contains y.born = true := by
        cases hc : seen.contains y.born with
        | true => rfl
        | false =>
          have hyl : y ∈ (leftOf es seen).toList := by unfold leftOf; rw [Array.toList_filter, List.mem_filter]; exact ⟨hy, by rw [hc]; rfl⟩
          have := List.length_pos_of_mem hyl
          rw [Array.length_toList] at this
          omega
      have XR : y.born ∈ seen.toList := by simpa using hys
      rw [hse] at XR
      obtain ⟨q, hq, hqb⟩ := List.mem_map.1 XR
      have hqy : q = y := MW hm.1.2.1 (hxs q hq) hy hqb
      subst hqy
      have : K.mk a ∈ S.map K.mk := by rw [← hS]; exact List.mem_map.2 ⟨q, hq, hyk⟩
      obtain ⟨c, hc, hce⟩ := List.mem_map.1 this
      rw [← K.inj _ _ hce]; exact hc
  · have hel : e ∈ es.toList ∧ seen.contains e.born = false := by
      have := he
      unfold leftOf at this
      rw [Array.toList_filter, List.mem_filter] at this
      exact ⟨this.1, by simpa using this.2⟩
    obtain ⟨a, ha⟩ := K.onto e.key (hm.2.1 e hel.1)
    have hfa : f a = some e.val := (hm.2.2 a e.val).2 ⟨e, hel.1, ha.symm, rfl⟩
    have hns : a ∉ S := fun hs => by
      have : K.mk a ∈ S.map K.mk := List.mem_map.2 ⟨a, hs, rfl⟩
      rw [← hS] at this
      obtain ⟨q, hq, hqk⟩ := List.mem_map.1 this
      have hqe : q = e := hm.same (hxs q hq) hel.1 (hqk.trans ha)
      subst hqe
      have h9 : q.born ∈ seen.toList := by rw [hse]; exact List.mem_map.2 ⟨q, hq, rfl⟩
      have h8 : seen.contains q.born = true := by simpa using h9
      rw [hel.2] at h8; cases h8
    have hval : Val P L (.next x false) ty w (XQ K (some (a, e.val))) (ChangeMaps.setBlock w1 it (.mapIter (some b) clock (seen.push e.born) clock)) := fun ρ hρ d pos lH g => by
      simp only [execOp, hρ _ _ hx, Sem.run_bind]
      rw [hrun]
      simp only [XQ, ha]
      rfl
    have hheap : w1.heap = w.heap := by rcases hw1 with rfl | rfl <;> rfl
    have hr1 : w1.heap[it]? = some (.mapIter (some b) clock seen clock) := by rw [hheap]; exact hr
    refine nG hval ⟨some (a, e.val), S ++ [a], (leftOf es (seen.push e.born)).size, rfl, ⟨hfa, hns, by rw [← hn]; exact TQ he, rfl⟩, aB.D6 (seen := seen.push e.born) ⟨hm, ⟨xs ++ [e], ?_, ?_, ?_⟩, rfl⟩ (aB.setB (w := w1) (o := .mapIter (some b) clock seen clock) ?_ _)⟩
    · intro q hq
      rcases List.mem_append.1 hq with hq | hq
      · exact hxs q hq
      · rw [List.mem_singleton.1 hq]; exact hel.1
    · rw [Array.toList_push, hse, List.map_append]; rfl
    · rw [List.map_append, List.map_append, hS]; simp [ha]
    · rcases hw1 with rfl | rfl
      · exact H
      · exact H.drew
theorem UQ {o : Option (α × Value)} (hx : ev L x = some (XQ K o)) : Val P L (.extract x 0) ty w (.bool o.isSome) w := by
  cases o with
  | none => exact qK hx rfl
  | some p => obtain ⟨a, u⟩ := p; exact qK hx rfl
theorem MX {u : Value} (H : aB w0 w (zA K b it f (S ++ [a]) n • F)) (hf : f a = some u) (hx : ev L x = some (.pointer (some ⟨it, 0, none⟩))) : Val P L (.entry x) ty w (.tuple #[K.mk a, u]) w := by
  obtain ⟨es, clock, seen, ⟨hm, ⟨xs, hxs, hse, hS⟩, hn⟩, H⟩ := H.QH
  intro ρ hρ d pos lH g
  have hne : xs ≠ [] := by
    rintro rfl
    have := congrArg List.length hS
    simp at this
  obtain ⟨ys, e, rfl⟩ : ∃ ys e, xs = ys ++ [e] := ⟨xs.dropLast, xs.getLast hne, (List.dropLast_concat_getLast hne).symm⟩
  have he : e ∈ es.toList := hxs e (by simp)
  have hk : e.key = K.mk a := by
    rw [List.map_append, List.map_append] at hS
    have := List.append_inj_right' hS rfl
    simpa using this
  have hv : e.val = u := by
    have h9 := (hm.2.2 a e.val).2 ⟨e, he, hk, rfl⟩
    rw [hf] at h9; cases h9; rfl
  have hsp : seen = (ys.map (·.born)).toArray.push e.born := by
    apply Array.ext'
    rw [hse]; simp
  have hr := H.get.2
  rw [hsp] at hr
  simp only [execOp, hρ _ _ hx, Sem.run_bind]
  rw [run_entry_at w it b clock _ es clock e hr H.swap.get.2 he hm.1.2.1, hk, hv]
  rfl
end
end Go.Proofs.YtddekefihgejoaaGreatDoor
end
