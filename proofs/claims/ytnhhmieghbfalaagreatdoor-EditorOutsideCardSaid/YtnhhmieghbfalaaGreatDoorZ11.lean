import Derived.Test.YtnhhmieghbfalaaGreatDoorZ4
import Derived.Test.YtnhhmieghbfalaaGreatDoorZ10
import Derived.Test.YtnhhmieghbfalaaGreatDoorZ9
import Derived.Test.YtnhhmieghbfalaaGreatDoorZ7
import Derived.Test.YtnhhmieghbfalaaGreatDoorZ8
set_option linter.unusedSimpArgs false
set_option linter.unusedVariables false
/- Texts of mine, joined, their names in short: UList6 UList7 Grp0 EdM RLs Ref7 Ref7b BufAny. -/
section
namespace Go.Proofs.YtnhhmieghbfalaaGreatDoor
open Go.RowKit
open _root_.Go.Proofs.Tryz
def ahH (G : List (List jH)) (N : List jH) : List jH := (rF G N).flatten.reverse.map xP
theorem Wy (G : List (List jH)) : (G.map List.length).sum = G.flatten.length := by
  induction G with
  | nil => rfl
  | cons g G ih => simp only [List.map_cons, List.sum_cons, List.flatten_cons, List.length_append, ih]
theorem Iu {G : List (List jH)} {k : Nat} (hk : k < G.length) : (G.take (k + 1)).flatten = (G.take k).flatten ++ G.getD k [] := by
  rw [List.take_succ_eq_append_getElem hk, List.flatten_append, List.getD_eq_getElem?_getD, List.getElem?_eq_getElem hk]
  simp
theorem Si (G : List (List jH)) (k : Nat) : (G.take k).flatten.length ≤ G.flatten.length := by
  conv => rhs; rw [← List.take_append_drop k G, List.flatten_append, List.length_append]
  omega
section
variable {w0 w : World} {F : HP} {p : Nat} {G : List (List jH)} {N : List jH} {op : Int} {gv nv v u : Value} {gs : List (Value × List gJ)} {now es fs : List gJ} {a : Int} {d z : Value} {dl il : List Int}
theorem JF (H : V w0 w (lH p G N op • F)) : iK prog 139 #[.pointer (some ⟨p, 0, none⟩)] w fun _ w' => V w0 w' (lH p [] [] 0 • F) := by
 refine jl func139 ntmps139 ?_
 refine bT O (fH O func146 (pI H) ?_)
 rintro _ _ ⟨rfl, rfl⟩
 refine aT (jG O) (iR (wcE O (fun h1 => ?_)))
 (try simp only [aG] at h1)
 obtain ⟨Il, Ef, qB, qQ, qC, A8, zY, Nh, Nj, RJ, xO⟩ := (H).Du
 refine aF (cO O (aT (kS (pl := #[(0, 4), (4, 1)]) (#[_, _, _, _, _]) dn zeroValue177 (fun w => by kernel_rfl) O (O)) (dM O (aH (dR 0 (l' := [_, _, _, _, _]) (us := [_, _, _, _, _]) xO sizeOf177 O O O (aP (aP (aP (aP (aP bW))))) O O) ?_))))
 rintro _ w3 H3
 refine dJ (nJ (.inr O) results139 ?_)
 refine V.Dv (gv := .slice none 0 0) (nv := .slice none 0 0) (gs := []) (now := []) ⟨by simp, by decide, by decide, by decide, by simp, by simp⟩ O O O ?_
 exact (((H3.f2.right.f2.right.f2.right.f2.right).zA none).MQ none).of_eq (by ac_rfl)
theorem V.Yn (H : V w0 w (Jm v es • F)) : ∀ x ∈ es.flatMap gJ.enc, x.oneCell' = true :=
  V.MR (es := es) (w0 := w0) (w := w) (F := F) (H.I5 (qH (fun I h => h.2) F))
theorem V.Iw (H : V w0 w (vW gs • F)) {k : Nat} {gl : Value} {vO : List gJ} (hk : k < gs.length) (hg : gs.getD k default = (gl, vO)) : V w0 w (Jm gl vO • vW gs • F) := by
  have := H.X0 hk
  rwa [hg] at this
theorem V.aeb (H : V w0 w (Jm u fs • oK es • F)) : V w0 w (oK (es ++ fs) • F) := H.I5 (xJ (fun I h g => g.app h.2) F)
theorem Qg (H : V w0 w (lH p G N op • F)) : iK prog 160 #[.pointer (some ⟨p, 0, none⟩)] w fun v w' => ∃ fs : List gJ, fs.map gJ.says = ahH G N ∧
  V w0 w' (Row 143 3 v fs.length (fs.flatMap gJ.enc) • oK fs • lH p [] [] 0 • F) := by
 unfold ahH
 refine jl func160 ntmps160 ?_
 refine kG O (aI (bT O (fH O func146 (pI H) ?_)))
 rintro _ _ ⟨rfl, rfl⟩
 refine iR (yh (gX (bT O (fH O func170 (ES H) ?_))))
 rintro _ w2 H2
 refine iR (kG O (aI (aI ?_)))
 generalize hC : rF G N = C at *
 obtain ⟨Il, Ef, qB, qQ, qC, A8, zY, Nh, Nj, RJ, xO⟩ := (H2).Du
 have htot := qC.2.1
 have hfl : C.flatten.length ≤ 16384 := by unfold iH at htot; rw [Wy] at htot; simp only [List.length_nil, Nat.add_zero] at htot; exact htot
 refine aF (kY O O (bg 0 dn O fD O (bg 0 dI O jr O (dQ bP O (xO).get.2 O (aT (fV ((xO.f2).aJ) bP O) (cO O (iR (bK ?_))))))))
 obtain ⟨Yo, Yp, aec, -⟩ := ((xO.f2).aJ).form
 subst aec
 refine jh [(0, _), (14, _), (15, _)] (fun (⟨k, u⟩ : Nat × Value) => [(3, u), (16, .int .i64 (k : Int))]) (fun (⟨k, u⟩ : Nat × Value) W => k ≤ qB.length ∧ ∃ fs : List gJ, fs.map gJ.says = (C.take k).flatten ∧ V w0 W (Row 143 3 u fs.length (fs.flatMap gJ.enc) • oK fs • gU p (.cells #[(.slice Yo (qB.length) Yp), Ef, .int .i64 0, .int .i64 (iH C [] : Nat), .bool true] 177 (0, 0)) • Row 56 1 (.slice Yo (qB.length) Yp) qB.length (qB.map (·.1)) • vW qB • Row 143 3 Ef qQ.length (qQ.flatMap gJ.enc) • oK qQ • F)) (fun (⟨k, u⟩ : Nat × Value) => qB.length - k) ((0, .slice none 0 0)) DK vV ⟨by omega, [], O, ((xO.f5.f5.f5.f5.f5).zA none).edL⟩ ?_
 rintro ⟨k, u⟩ w5 ⟨hk, fs, hfs, HL⟩
 dsimp only [List.cons_append, List.nil_append]
 refine kQ (aT (fJ O O) (uV (dw O (fun h1 => ?_) (fun h1 => ?_))))
 ·(try simp only [aG] at h1)
  refine gX (aI (bK (kQ ?_)))
  obtain ⟨ajk, ajl, rfl⟩ := Rd.pos ((HL.f4).aJ) (by omega)
  refine aT (dP bP bU O O (by omega)) ?_
  refine aT (fB (dG aV O) O (by first | exact Rd.yc ((HL.f4).aJ) (by omega) | exact Rd.I8 ((HL.f4).aJ) (by omega) | exact Rd.Ib ((HL.f4).aJ) (by omega))) ?_
  have hkl : k < qB.length := by omega
  rw [show (qB.map (·.1)).getD k undef = (qB.getD k default).1 from by simp [List.getD_eq_getElem?_getD, hkl]]
  obtain ⟨gl, vO, hg⟩ : ∃ gl vO, qB.getD k default = (gl, vO) := ⟨_, _, rfl⟩
  rw [hg]
  have LP := HL.f5
  have Ih := LP.Iw hkl hg
  have ajm := (Ih).Yn
  have hge : C.getD k [] = vO.map gJ.says := by
   rw [← A8]
   have h9 : (qB.map (fun g => g.2.map gJ.says)).getD k [] = (qB.getD k default).2.map gJ.says := by simp [List.getD_eq_getElem?_getD, hkl]
   rw [h9, hg]
  have hft := congrArg List.length (Iu (G := C) (k := k) (by omega))
  have hfe := Si C (k + 1)
  have hfk := congrArg List.length hfs
  rw [List.length_append, hge, List.length_map] at hft
  rw [List.length_map] at hfk
  refine iU O (aF (ku O O (jT (gK Ih.f3 aV Ap O O O ((Ih).yU) (by assumption) (by omega) (by omega)) ?_)))
  rintro l8 w8 H8
  refine lg O (dJ (aS (aZ (aF (aT (gY O O (by omega)) (cO O (dJ ?_)))))))
  refine fG ((k + 1, l8)) ?_ ?_ ?_ ?_
  ·exact vV
  ·exact DK
  ·(try dsimp only)
   first | done | exact ⟨by omega, fs ++ vO, by rw [List.map_append, hfs, Iu (by omega), hge], by rw [List.length_append, List.flatMap_append]; exact (H8.f8.f8.f5.f8.f8.f6.f8.f8).aeb.swap⟩
  ·(try dsimp only); omega
 ·(try simp only [aG] at h1)
  refine iZ (bC (bC (dK (aZ (aI ?_)))))
  have Iy := HL.f7.f7.f7.f7.f7
  have GK := V.uj qC A8 zY rfl Iy
  refine aF (cO O (fH O func139 (JF GK) ?_))
  rintro _ w12 uP
  refine uV ?_
  rw [List.take_of_length_le (by omega)] at hfs
  have hfk := congrArg List.length hfs
  rw [List.length_map] at hfk
  have hLs : fs.length ≤ 16384 := by omega
  have akv : ∀ k, k < fs.length → EB (fs.getD k default).says := fun k hk => by
   have hm : (fs.getD k default).says ∈ fs.map gJ.says := List.mem_map_of_mem (vM hk)
   rw [hfs] at hm
   obtain ⟨g, hg, hx⟩ := List.mem_flatten.1 hm
   exact qC.2.2.2.2.1 g hg _ hx
  have Sj := uP.f3.f3
  have Qh := V.yE (es := fs) Sj.deep
  refine aF (cO O (fH O func171 (FN Qh akv hLs) ?_))
  rintro u15 Ry ⟨akw, aed, CJ⟩
  rw [hfs] at aed
  have hres := aed
  refine iJ O (dO results160 O ?_)
  exact ⟨_, hres, CJ.f3.right.f3.f3.f3⟩
end
theorem acA {G : List (List jH)} {k : Nat} (hk : k < G.length) : G.take (k + 1) = G.take k ++ [G.getD k []] := by
  rw [List.take_succ_eq_append_getElem hk, List.getD_eq_getElem?_getD, List.getElem?_eq_getElem hk]
  rfl
theorem Nl {G : List (List jH)} {g : List jH} (h : g ∈ G) : g.length ≤ (G.map List.length).sum := by
  induction G with
  | nil => cases h
  | cons x G ih =>
    rw [List.map_cons, List.sum_cons]
    rcases List.mem_cons.1 h with rfl | h
    · omega
    · have := ih h; omega
theorem Yq {es : List gJ} {l : List jH} (h : es.map gJ.says = l) (hl : ∀ e ∈ l, EB e) : ∀ k, k < es.length → EB (es.getD k default).says := fun k hk =>
  hl _ (by rw [← h]; exact List.mem_map_of_mem (vM hk))
section
variable {w0 w : World} {F : HP} {p : Nat} {G : List (List jH)} {N : List jH} {op : Int}
theorem Sl (H : V w0 w (lH p G N op • F)) : iK prog 80 #[.pointer (some ⟨p, 0, none⟩)] w fun v w' => ∃ q, v = .pointer (some ⟨q, 0, none⟩) ∧ V w0 w' (lH q G N op • lH p G N op • F) := by
 refine jl func80 ntmps80 ?_
 refine kG O (aI (bT O (fH O func146 (pI H) ?_)))
 rintro _ _ ⟨rfl, rfl⟩
 refine iR (yh (gX (aI ?_)))
 obtain ⟨Il, Ef, qB, qQ, qC, A8, zY, Nh, Nj, RJ, xO⟩ := (H).Du
 have hLn : qQ.length ≤ 16384 := by omega
 have hBn := Yq zY qC.2.2.2.2.2
 refine aF (kY O O (aT (dU dn O sizeOf177 O O (xO).get.2) (jT (iI (l := [_, _, _, _, _]) xO zeroValue177 O) ?_)))
 rintro _ w3 ⟨b3, rfl, H3⟩
 refine aH (dR 0 (l' := [_, _, _, _, _]) (us := [_, _, _, _, _]) H3 sizeOf177 O O O (bD (by first | rfl | exact Rd.one ((H3.f3).aJ)) (bD (by first | rfl | exact Rd.one ((H3.f5).aJ)) (aP (aP (aP bW))))) O O) ?_
 rintro _ w4 H4
 refine qG O (dM O (bg 0 dn O fD O (bg 1 dI O bU O (dQ aV O (H4.f2).get.2 O (fH O func147 (JE H4.f6.f6 hBn hLn) ?_)))))
 rintro u5 w5 ⟨fs5, ahI, H5⟩
 obtain ⟨es1, rfl⟩ : ∃ q, q = fs5 := ⟨_, rfl⟩
 have hes1 := ahI
 refine bg 0 dn O fD O (bg 0 dI O jr O (aH (st5 0 H5.f5 jr) ?_))
 rintro _ w6 H6
 refine bg 0 dn O fD O (bg 1 dI O bU O (aH (iw 1 (l' := [_, _, _, _, _]) H6 bU O O (by first | rfl | exact Rd.one ((H6.f2).aJ)) O O) ?_))
 rintro _ w7 H7
 refine uV (bT O (dM O (bg 0 dn O fD O (bg 0 dI O jr O (dQ bP O (H7.f6).get.2 O (aT (fV ((H7.f7).aJ) bP O) (cO O (iR (bK ?_)))))))))
 obtain ⟨Yo, Yp, aec, -⟩ := ((H7.f7).aJ).form
 subst aec
 refine jh [(3, _), (25, _), (26, _)] (fun (k : Nat) => [(27, .int .i64 (k : Int))]) (fun (k : Nat) W => k ≤ qB.length ∧ ∃ gu, ∃ hs : List (Value × List gJ), hs.map (fun g => g.2.map gJ.says) = G.take k ∧ V w0 W (gU b3 (.cells #[gu, u5, .int .i64 op, .int .i64 (iH G N : Nat), .bool true] 177 (0, 0)) • Row 56 1 gu hs.length (hs.map (·.1)) • vW hs • Row 143 3 u5 es1.length (es1.flatMap gJ.enc) • oK es1 • gU p (.cells #[(.slice Yo (qB.length) Yp), Ef, .int .i64 op, .int .i64 (iH G N : Nat), .bool true] 177 (0, 0)) • Row 56 1 (.slice Yo (qB.length) Yp) qB.length (qB.map (·.1)) • vW qB • Row 143 3 Ef qQ.length (qQ.flatMap gJ.enc) • oK qQ • F)) (fun (k : Nat) => qB.length - k) (0) DK rJ ⟨by omega, _, [], O, ((H7.f5.f5.f8.f8.f8.f6.f8.f8).MQ none).af1.f5⟩ ?_
 rintro k w9 ⟨hk, gu, hs, ZM, HL⟩
 dsimp only [List.cons_append, List.nil_append]
 refine kQ (aT (fJ O O) (uV (dw O (fun h1 => ?_) (fun h1 => ?_))))
 ·(try simp only [aG] at h1)
  refine gX (aI (bK (kQ ?_)))
  obtain ⟨ajk, ajl, rfl⟩ := Rd.pos ((HL.f7).aJ) (by omega)
  refine aT (dP bP bU O O (by omega)) ?_
  refine aT (fB (dG aV O) O (by first | exact Rd.yc ((HL.f7).aJ) (by omega) | exact Rd.I8 ((HL.f7).aJ) (by omega) | exact Rd.Ib ((HL.f7).aJ) (by omega))) ?_
  have hkl : k < qB.length := by omega
  rw [show (qB.map (·.1)).getD k undef = (qB.getD k default).1 from by simp [List.getD_eq_getElem?_getD, hkl]]
  obtain ⟨gl, vO, hg⟩ : ∃ gl vO, qB.getD k default = (gl, vO) := ⟨_, _, rfl⟩
  rw [hg]
  have Iy := HL.f8
  have GK := Iy.Iw hkl hg
  have hge : vO.map gJ.says = G.getD k [] := by
   rw [← A8]
   have h9 : (qB.map (fun g => g.2.map gJ.says)).getD k [] = (qB.getD k default).2.map gJ.says := by simp [List.getD_eq_getElem?_getD, hkl]
   rw [h9, hg]
  have hgm : G.getD k [] ∈ G := vM (by omega)
  have hBg := Yq hge (qC.2.2.2.2.1 _ hgm)
  have hLg : vO.length ≤ 16384 := by
   have h8 := qC.2.1
   unfold iH at h8
   have h7 := congrArg List.length hge
   rw [List.length_map] at h7
   have h6 := Nl hgm
   omega
  have hhl := congrArg List.length ZM
  rw [List.length_map, List.length_take] at hhl
  refine iU O ?_
  have agY := GK.drew
  have Sm := V.kp (agY.f11.f11.f11.f11.f11.f11.f11.f11.f11.f11.f11)
  refine tH [2] Sm O (eP 0 O Sm 0 dn O fD O (eP 1 O Sm 0 dI O jr O (iD 2 O Sm (fun W hW => jk bP O ((Kp.h hW).f3).get.2 O) (fM 3 O Sm O (lC 4 O (qW O func147 (Gh agY hBg hLg)) ?_)))))
  rintro u12 w12 ⟨aea, agX, uP⟩
  obtain ⟨es2, rfl⟩ : ∃ q, q = aea := ⟨_, rfl⟩
  have hes2 := agX
  have D6 := V.kp (uP.f13.f13.f13.f13.f13.f13.f13.f13.f13.f13.f13.f13.f13)
  refine dZ D6 (fun W hW => (Kp.h hW).right.right.f11.f11.f11.f11.f11.f11.f11.f11.f11.f11.f11) ?_
  refine lC 5 O (mX (vs := [_]) uP bP bU sV O O O (by decide) (bD (by first | rfl | exact Rd.one ((uP).aJ)) bW)) ?_
  rintro l13 P7 AZ
  have BQ := V.kp (AZ.f14.f14.f14.f14.f14.f14.f14.f14.f14.f14.f14.f14.f14.f14)
  refine dZ BQ (fun W hW => (Kp.h hW).right.f13.f13.f13.f13.f13.f13.f13.f13.f13.f13.f13.f13.f13) ?_
  refine lC 6 O (gK AZ.f7 bP Pg O O O ((AZ).aJ) (bD (by first | rfl | exact Rd.one ((AZ.f2).aJ)) bW) (by omega) (by omega)) ?_
  rintro l14 O9 BJ
  have ahJ := BJ.f2.right
  have Jf := V.kp (ahJ.f13.f13.f13.f13.f13.f13.f13.f13.f13.f13.f13.f13.f13)
  refine dX Jf (by kernel_rfl) ?_
  refine eP 7 O Jf 0 dn O fD O (eP 8 O Jf 0 dI O jr O ?_)
  refine gW 9 O (by kernel_rfl) (iw 0 (l' := [_, _, _, _, _]) ahJ.f6 jr O O (by first | rfl | exact Rd.one ((ahJ).aJ)) O O) ?_
  rintro _ w16 yG
  have GL := V.kp (yG.f13.f13.f13.f13.f13.f13.f13.f13.f13.f13.f13.f13.f13)
  refine dX GL (by kernel_rfl) ?_
  have X := V.yE (es := es2) (yG.f5.right.f12.f12.f7.f12.f12.f12.f12.f8.f12.f10.f12.f12).deep
  have HN := (V.Az X.swap).af1.f3
  have hnew : (hs ++ [(u12, es2)]).map (fun g => g.2.map gJ.says) = G.take (k + 1) := by rw [List.map_append, ZM, acA (by omega), ← hge, ← hes2]; rfl
  refine oH (aS (aZ (aF (aT (gY O O (by omega)) (cO O (dJ ?_))))))
  refine fG (k + 1) ?_ ?_ ?_ ?_
  ·exact rJ
  ·exact DK
  ·(try dsimp only)
   first | done | exact ⟨by omega, _, _, hnew, HN⟩
  ·(try dsimp only); omega
 ·(try simp only [aG] at h1)
  refine iZ (bC (bC (dK (aZ (jE O (dO results80 O ?_))))))
  rw [List.take_of_length_le (by omega)] at ZM
  have X := V.uj (gs := hs) (now := es1) qC ZM (hes1.trans zY) rfl (HL.f10.f10.f10.f10.f10.f10.f10.f10.f10.f10)
  have Y := V.uj qC A8 zY rfl X.f6.f6.f6.f6.f6
  exact ⟨_, O, Y.swap⟩
end
end Go.Proofs.YtnhhmieghbfalaaGreatDoor
end
section
namespace Go.Proofs.YtnhhmieghbfalaaGreatDoor
open Go.RowKit
def LV (G : List (List jH)) (N : List jH) : List (List jH) := (rF G N).reverse
def WA (N : List jH) : List (List jH) := if N = [] then [] else [N]
theorem aee (N : List jH) : (WA N).length ≤ 1 := by unfold WA; split <;> simp
theorem af9 (G : List (List jH)) (N : List jH) : LV G N = WA N ++ G.reverse := by
  unfold LV WA rF; split <;> simp
def um {β : Type} (f : Int → β) (a : Int) (v : β) : Int → β := fun x => if x = a then v else f x
theorem jv {β : Type} (f : Int → β) (a : Int) (v : β) : um f a v a = v := if_pos rfl
theorem zi {β : Type} (f : Int → β) {a x : Int} (v : β) (h : x ≠ a) : um f a v x = f x := if_neg h
theorem abI {β : Type} (f : Int → β) (a : Int) : um f a (f a) = f := by funext x; unfold um; split <;> simp_all
theorem aaw {β : Type} (f : Int → β) (a : Int) (u v : β) : um (um f a u) a v = um f a v := by funext x; unfold um; split <;> simp_all
structure rV where
  L : List Int
  pt : Int
  mark : Int
  E : List (List Int)
  at_ : Nat
  place : Int
  tx : Int → Option ByteArray
  un : Int → List (List jH)
  mode : Int
  over : Bool
  last : Int
  fr : Int
  to : Int
  res : Int
  run : Bool
structure aX where
  c : rV
  hl : List rM
  base : Int
  most : Int
  nR : Int
  given : Bool
  minus : Bool
  arg : Int
  inn : Bool
  was : rV
  cls : Int
  lS : Bool
  jc : Bool
  argues : Bool
  whole : Bool
  put : List jH
def WB (hl : List rM) (k : Int) : rM := if 0 ≤ k ∧ k < hl.length then hl.getD k.toNat default else (.empty, 0)
def BA (hl : List rM) (k : Int) : ByteArray := (WB hl k).1
def fP (hl : List rM) (tx : Int → Option ByteArray) (k : Int) : ByteArray := (tx k).getD (BA hl k)
def Kv (hl : List rM) (tx : Int → Option ByteArray) (place : Int) (k : Nat) : Bool := decide ((k : Int) ≠ place) && !((fP hl tx k).toList == (BA hl k).toList)
def wz (hl : List rM) (tx : Int → Option ByteArray) (place : Int) (n : Nat) : List (Int × ByteArray) := ((List.range n).filter (Kv hl tx place)).map fun (k : Nat) => ((k : Int), fP hl tx k)
def zD (hl : List rM) (tx : Int → Option ByteArray) (place : Int) : List (Int × ByteArray) := wz hl tx place hl.length ++ (if place ≠ hl.length then [((hl.length : Int), fP hl tx hl.length)] else [])
def zk (G : List (List jH)) (inn : Bool) (put : List jH) (typed run : Bool) : Int := (G.length : Int) + if inn && !put.isEmpty && !(typed && run) then 1 else 0
namespace aX
variable (s : aX)
def here : List (List jH) := s.c.un s.c.place
def lY (G : List (List jH)) : aX := { s with c := { s.c with un := um s.c.un s.c.place G } }
def wB : Int := if s.inn then 0 else 1
def DU : Int := if s.inn then 1 else 0
def dA : aX := if s.inn then s else { s with inn := true, was := s.c, cls := 0, lS := false, jc := false, argues := false, whole := true, put := [] }
def jJ (on : Bool) : List (List jH) := if s.put = [] then s.here else if on then (match s.here.getLast? with | some g => s.here.dropLast ++ [g ++ s.put] | none => [s.put]) else s.here ++ [s.put]
def dH (on : Bool) : aX := if s.put = [] then s else { s.lY (s.jJ on) with put := [] }
def zM : aX := { s with given := false, minus := false, arg := -1 }
def Gg (err : Int) : Int := if s.inn then err else 1
def DV : aX := { s.zM with inn := false, c := { s.was with last := 0, fr := 0, to := 0 }, nR := IntKind.i64.wrap (s.nR + 1), put := [] }
def typed : Bool := s.cls == 3 && s.whole
def lT : aX := { (if s.argues then s else s.zM) with inn := false }
def nY : aX :=
  let t := s.lT.dH (s.typed && s.c.run)
  let c := { t.c with run := s.typed && (!s.put.isEmpty || s.c.run), last := s.cls }
  { t with c := if s.cls ≠ 2 then { c with fr := 0, to := 0 } else c }
def nZ (err : Int) : aX := if s.inn then (if err = 0 then s.nY else s.DV) else s
def nI (x : jH) : aX :=
  if x.2.1.length + x.2.2.length = 0 then s else
  if 16384 ≤ iH s.here s.put then { s.lY [] with put := [x], c := { (s.lY []).c with run := false } } else { s with put := s.put ++ [x] }
def jw (L : List Int) (pt mk : Int) : aX := { s with c := { s.c with L := L, pt := pt, mark := mk } }
def lU (i j : Int) (l : List Int) : Int := if s.inn then lG s.c.L i j l else 1
def gy (i j : Int) (l : List Int) : aX := if s.inn then (s.jw (nP s.c.L i j l) (wo s.c.L s.c.pt i j l) (wu s.c.L s.c.mark i j l)).nI (yw s.c.L i j l, nU s.c.L i j l, nV s.c.L i j l) else s
def KG (l : List Int) : Int := s.lU s.c.pt s.c.pt l
def BD (l : List Int) : aX := s.gy s.c.pt s.c.pt l
def nH (l : List Int) : Int := if s.c.over then min (s.c.pt + l.length) s.c.L.length else s.c.pt
def ET (l : List Int) : Int := s.lU s.c.pt (s.nH l) l
def qM (l : List Int) : aX := if s.inn then (let t := s.gy s.c.pt (s.nH l) l; if s.ET l = 0 ∧ s.cls = 0 then { t with cls := 3 } else t) else s
def way (back : Bool) : Int := if s.c.last = 1 ∨ s.lS = true then (if back then 2 else 1) else 0
def qN (i j : Int) : Prop := i < 0 ∨ s.c.L.length < i ∨ j < i ∨ s.c.L.length < j
instance (i j : Int) : Decidable (s.qN i j) := by unfold qN; infer_instance
def cut (i j : Int) : List Int := (s.c.L.drop i.toNat).take (j.toNat - i.toNat)
def xQ (i j : Int) (back : Bool) : Int × List (List Int) × Nat := oN s.c.E s.c.at_ (s.way back) (s.cut i j)
def oZ (i j : Int) (back : Bool) : Int := if s.inn then (if s.qN i j then 70 else (s.xQ i j back).1) else 1
def pU (E : List (List Int)) (a : Nat) : aX := { s with c := { s.c with E := E, at_ := a } }
def uS (i j : Int) (back : Bool) : aX := if s.oZ i j back = 0 then { s.pU (s.xQ i j back).2.1 (s.xQ i j back).2.2 with lS := true, cls := 1 } else s
def Vb (i j : Int) (back : Bool) : Int := if s.oZ i j back = 0 then (s.uS i j back).lU i j [] else s.oZ i j back
def zZ (i j : Int) (back : Bool) : aX := if s.oZ i j back = 0 then (s.uS i j back).gy i j [] else s
def top : List Int := s.c.E.getD s.c.at_ []
def yN : Int := if s.inn then (if s.c.E.length = 0 then 6 else s.KG s.top) else 1
def ql : aX :=
  if s.yN = 0 then
    let t := s.BD s.top
    { t with jc := true, cls := 2, c := { t.c with mark := ZL t.c.L t.c.mark s.c.pt, fr := s.c.pt, to := s.c.pt + s.top.length } }
  else s
def BF (n : Int) : List Int := s.c.E.getD (zC s.c.E.length s.c.at_ n) []
def EU (n : Int) : Int := if s.inn then (if s.c.last ≠ 2 ∨ s.jc = true then 6 else if s.c.E.length = 0 then 6 else s.lU s.c.fr s.c.to (s.BF n)) else 1
def zF (n : Int) : aX :=
  if s.EU n = 0 then
    let t := s.gy s.c.fr s.c.to (s.BF n)
    { t with jc := true, cls := 2, c := { t.c with E := s.c.E, at_ := zC s.c.E.length s.c.at_ n, fr := s.c.fr, to := s.c.fr + (s.BF n).length } }
  else s
def kills : List (List Int) := s.c.E.drop s.c.at_ ++ s.c.E.take s.c.at_
def Ph (x : Int) : Int := if s.inn then mvE s.c.L.length x else 1
def Aa (x : Int) : aX := if s.inn then s.jw s.c.L (mvP s.c.L.length s.c.pt x) s.c.mark else s
def Pj (x : Int) : Int := if s.inn then smE s.c.L x else 1
def BU (x : Int) : aX := if s.inn then s.jw s.c.L s.c.pt (ZL s.c.L s.c.mark x) else s
def Pm : Int := if s.inn then swE s.c.mark else 1
def BX : aX := if s.inn then s.jw s.c.L (swP s.c.pt s.c.mark) (swM s.c.pt s.c.mark) else s
def ahK (b : List Int × Int × Int) (x : jH) : List Int × Int × Int := (Ed b.1 x.1 x.2.1 x.2.2, Qa b.1 b.2.1 x.1 x.2.1 x.2.2, Qb b.1 b.2.2 x.1 x.2.1 x.2.2)
def apps (b : List Int × Int × Int) (l : List jH) : List Int × Int × Int := l.foldl ahK b
def Dx (l : List jH) : aX := let b := apps (s.c.L, s.c.pt, s.c.mark) l; s.jw b.1 b.2.1 b.2.2
def wC : aX := { s with whole := false, c := { s.c with run := false } }
def o7 : aX := if s.inn then (let t := s.dH false; if t.here = [] then t else ((t.lY t.here.dropLast).Dx ((t.here.getLastD []).reverse.map xP)).wC) else s
def oW : Int := if s.inn then (if (s.dH false).here = [] then 6 else 0) else 1
def GN : aX := if s.inn then (let t := s.dH false; if t.here = [] then t else ((t.lY []).Dx (t.here.flatten.reverse.map xP)).wC) else s
def xR (d : Int) : Int := if s.inn then (if d < 0 ∨ 9 < d then 1 else 0) else 1
def zS (d : Int) : aX := if s.xR d = 0 then { s with given := true, argues := true, arg := min (max s.arg 0 * 10 + d) 1000000 } else s
def Np : aX := if s.inn then { s with given := true, argues := true, minus := !s.minus } else s
def GR (n : Int) : Int := if s.inn then (if 1000000 < n ∨ n < -1000000 then 1 else 0) else 1
def KH (n : Int) : aX := if s.GR n = 0 then { s with given := true, argues := true, minus := decide (n < 0), arg := max n (-n) } else s
def count : Int := if s.given then (let n := if s.arg < 0 then 1 else s.arg; if s.minus then -n else n) else 1
def Ac (m : Int) : Int := if s.inn then (if m < 0 ∨ 2 < m then 1 else 0) else 1
def BZ (m : Int) : aX := if s.Ac m = 0 then { s with c := { s.c with mode := m } } else s
def FP (b : Bool) : aX := if s.inn then { s with c := { s.c with over := b } } else s
def GU (r : Int) : Int := if s.inn then (if r < 1 ∨ 3 < r then 1 else 0) else 1
def KI (r : Int) : aX := if s.GU r = 0 then { s with c := { s.c with res := r } } else s
def first (k : Int) : ByteArray := BA s.hl k
def stands (k : Int) : ByteArray := (s.c.tx k).getD (s.first k)
def JG : Int := zk s.here s.inn s.put s.typed s.c.run
def saved : List (Int × ByteArray) := zD s.hl s.c.tx s.c.place
def yx : Int := if s.inn then s.was.last else s.c.last
def Ox : Int := if s.inn then s.was.fr else s.c.fr
def Qi : Int := if s.inn then s.was.to else s.c.to
end aX
def rV.fresh (l : List Int) (E : List (List Int)) (a : Nat) (place mode : Int) : rV := ⟨l, l.length, -1, E, a, place, fun _ => none, fun _ => [], mode, false, 0, 0, 0, 0, false⟩
def aX.start (s : aX) (hl : List rM) (base most : Int) (l : List Int) : aX := { s with c := rV.fresh l s.c.E s.c.at_ hl.length s.c.mode, hl := hl, base := base, most := most, given := false, minus := false, arg := -1 }
def aX.new (hl : List rM) (base most : Int) : aX :=
  let c := rV.fresh [] [] 0 hl.length 0
  { c := c, hl := hl, base := base, most := most, nR := 0, given := false, minus := false, arg := -1, inn := false, was := c, cls := 0, lS := false, jc := false, argues := false, whole := false, put := [] }
def yK (sz : Nat) (v : Value) (n : Nat) (xs : List Value) : HP := know (fun I => KF I sz v n xs) fun _ _ hl h => h.mono hl
abbrev LE := Int × Value × List (Value × List gJ)
def BG (gs : List (Value × List gJ)) : List (List jH) := gs.map fun g => g.2.map gJ.says
def Fv (A : List LE) (k : Int) : List (List jH) := ((A.find? fun x => x.1 == k).map fun x => BG x.2.2).getD []
def DW (A : List LE) (k : Int) (u : Value) (gs : List (Value × List gJ)) : List LE := A.filter (fun x => x.1 != k) ++ [(k, u, gs)]
def GlI (I : Hp) (v : Value) (gs : List (Value × List gJ)) : Prop := KF I 1 v gs.length (gs.map (·.1)) ∧ LK I gs
theorem GlI.mono {I I' : Hp} {v : Value} {gs : List (Value × List gJ)} (hl : Hp.le I I') (h : GlI I v gs) : GlI I' v gs := ⟨h.1.mono hl, h.2.mono hl⟩
def glK (v : Value) (gs : List (Value × List gJ)) : HP := yK 1 v gs.length (gs.map (·.1)) • vW gs
def aga (I : Hp) (A : List LE) : Prop := ∀ k, k < A.length → GlI I (A.getD k default).2.1 (A.getD k default).2.2
def xU (A : List LE) : HP := know (fun I => aga I A) fun _ _ hl h k hk => (h k hk).mono hl
def lsK (pv gv : Value) (A : List LE) : HP := uQ .i64 pv (A.map (·.1)) • yK 1 gv A.length (A.map (·.2.1)) • xU A
theorem QA (A : List LE) (k : Int) (u : Value) (gs : List (Value × List gJ)) : Fv (DW A k u gs) = um (Fv A) k (BG gs) := by
  funext j
  unfold Fv DW um
  rw [List.find?_append]
  by_cases hj : j = k
  · subst hj
    rw [if_pos rfl, List.find?_eq_none.2 (by intro x hx; simp at hx; simpa using hx.2)]
    simp
  · rw [if_neg hj, List.find?_filter]
    have h1 : (fun a : LE => decide (a.1 != k ∧ (a.1 == j) = true)) = fun a : LE => a.1 == j := by
      funext a
      by_cases ha : a.1 = j
      · simp [ha, hj]
      · simp [ha]
    have h2 : (fun a : LE => (a.1 != k) && (a.1 == j)) = fun a : LE => a.1 == j := by
      funext a
      by_cases ha : a.1 = j
      · simp [ha, hj]
      · simp [ha]
    have h3 : ([(k, u, gs)] : List LE).find? (fun x => x.1 == j) = none := by
      rw [List.find?_eq_none]; intro x hx; rw [List.mem_singleton.1 hx]; simpa using Ne.symm hj
    first
      | rw [h3, Option.or_none, h2]
      | rw [h3, Option.or_none, h1]
      | (simp only [h3, Option.or_none, h2, h1])
theorem ahL {A : List LE} {k : Int} {i : Nat} (hi : i < A.length) (hn : ∀ j, j < i → (A.getD j default).1 ≠ k) (he : (A.getD i default).1 = k) : Fv A k = BG (A.getD i default).2.2 := by
  induction A generalizing i with
  | nil => simp at hi
  | cons x r ih =>
    unfold Fv
    rw [List.find?_cons]
    cases i with
    | zero =>
      have : x.1 = k := he
      rw [show (x.1 == k) = true from by simpa using this]; rfl
    | succ m =>
      have h0 : x.1 ≠ k := hn 0 (by omega)
      rw [show (x.1 == k) = false from by simpa using h0]
      exact ih (i := m) (by simpa using hi) (fun j hj => hn (j + 1) (by omega)) he
theorem aef {A : List LE} {k : Int} (hn : ∀ j, j < A.length → (A.getD j default).1 ≠ k) : Fv A k = [] := by
  unfold Fv
  rw [List.find?_eq_none.2]
  · rfl
  · intro x hx
    obtain ⟨j, hj, rfl⟩ := List.getElem_of_mem hx
    have := hn j hj
    rw [List.getD_eq_getElem?_getD, List.getElem?_eq_getElem hj] at this
    simpa using this
theorem Vd : ∀ (n : Nat) (l : List Int), l.Nodup → (∀ x ∈ l, 0 ≤ x ∧ x < n) → l.length ≤ n
  | 0, l, _, h => by
    cases l with
    | nil => simp
    | cons x r => have := h x (List.mem_cons_self ..); omega
  | n + 1, l, hn, h => by
    have h1 : (l.erase (n : Int)).length ≤ n := Vd n (l.erase n) (hn.erase _) (fun x hx => by
      have hm := (List.Nodup.mem_erase_iff hn).1 hx
      have := h x hm.2
      have := hm.1
      omega)
    have h2 : l.length ≤ (l.erase (n : Int)).length + 1 := by rw [List.length_erase]; split <;> omega
    omega
theorem Yr (A : List LE) (k : Int) (u : Value) (gs : List (Value × List gJ)) : (DW A k u gs).map (·.1) = (A.map (·.1)).filter (· != k) ++ [k] := by
  unfold DW
  rw [List.map_append, List.filter_map]; rfl
theorem agb {A : List LE} {n : Int} {k : Int} {u : Value} {gs : List (Value × List gJ)} (h : (A.map (·.1)).Nodup ∧ ∀ x ∈ A.map (·.1), 0 ≤ x ∧ x ≤ n) (hk : 0 ≤ k ∧ k ≤ n) :
    ((DW A k u gs).map (·.1)).Nodup ∧ ∀ x ∈ (DW A k u gs).map (·.1), 0 ≤ x ∧ x ≤ n := by
  rw [Yr]
  refine ⟨List.nodup_append.2 ⟨h.1.filter _, by simp, fun a ha b hb => ?_⟩, fun x hx => ?_⟩
  · rw [List.mem_singleton.1 hb]
    have := (List.mem_filter.1 ha).2
    simpa using this
  · rcases List.mem_append.1 hx with hx | hx
    · exact h.2 x (List.mem_filter.1 hx).1
    · rw [List.mem_singleton.1 hx]; exact hk
theorem Iz {A : List LE} {n : Int} (h : (A.map (·.1)).Nodup ∧ ∀ x ∈ A.map (·.1), 0 ≤ x ∧ x ≤ n) (hn : 0 ≤ n ∧ n ≤ 4096) : A.length ≤ 4097 := by
  have := Vd (n.toNat + 1) _ h.1 (fun x hx => by have := h.2 x hx; omega)
  rw [List.length_map] at this
  omega
section
variable {w0 w : World} {F : HP} {v u pv gv : Value} {n sz k : Nat} {xs : List Value} {es : List gJ} {gs : List (Value × List gJ)} {A : List LE} {x : LE}
theorem V.oC (H : V w0 w (yK sz v n xs • F)) : Rd w sz v n xs := let ⟨I, h, hI⟩ := H.zx; h.rd hI
theorem V.aeg (H : V w0 w (yK sz v n xs • F)) : V w0 w (yK sz v n xs • yK sz v n xs • F) := H.zU
theorem V.aax (H : V w0 w F) (a : Option Addr) : V w0 w (yK sz (.slice a 0 0) 0 [] • F) := H.Eb fun I => ⟨by simp, a, 0, rfl, by omega, by decide, fun h => by omega⟩
theorem V.Oy {t : TypeId} (H : V w0 w (Row t sz v n xs • F)) : V w0 w (yK sz v n xs • F) := by
  have hl := H.Ea
  rcases H.Bg with ⟨a, rfl, h1, h2, H1⟩ | ⟨g, o, c, cur, rfl, h2, h3, h4, h5, H1⟩
  · subst h1; exact H1.Eb fun I => ⟨hl, a, 0, rfl, by omega, by decide, fun h => by omega⟩
  · exact H1.freeze.I5 (qH (fun I hI => ⟨hl, _, c, rfl, h2, h3, fun _ => ⟨g, o, cur, _, (0, 0), rfl, hI, h5⟩⟩) F)
theorem V.ahM (H : V w0 w (yK sz v n xs • F)) {l h : Nat} (h1 : l ≤ h) (h2 : h ≤ n) : V w0 w (yK sz (xI sz l h v) (h - l) ((xs.drop (l * sz)).take ((h - l) * sz)) • F) := H.I5 (qH (fun I hI => hI.cut h1 h2) F)
theorem V.Yt (H : V w0 w (glK v gs • F)) : V w0 w (yK 1 v gs.length (gs.map (·.1)) • vW gs • F) := H.flat
theorem V.abJ (H : V w0 w F) (a : Option Addr) : V w0 w (glK (.slice a 0 0) [] • F) := V.deep (H.Rj.aax (sz := 1) a)
theorem V.JH (H : V w0 w (LM v gs • F)) : V w0 w (glK v gs • F) := V.deep (H.af1.Oy)
theorem V.abK {p : Int} (H : V w0 w (xU A • F)) (hk : k < A.length) (hx : A.getD k default = (p, v, gs)) : V w0 w (yK 1 v gs.length (gs.map (·.1)) • vW gs • xU A • F) := by
  have H2 : V w0 w (yK 1 (A.getD k default).2.1 (A.getD k default).2.2.length ((A.getD k default).2.2.map (·.1)) • xU A • xU A • F) := H.zU.zU.I5 (qH (fun I h => (h k hk).1) _)
  have H3 : V w0 w (vW (A.getD k default).2.2 • yK 1 (A.getD k default).2.1 (A.getD k default).2.2.length ((A.getD k default).2.2.map (·.1)) • xU A • F) := H2.f2.I5 (qH (fun I h => (h k hk).2) _)
  rw [hx] at H3
  exact H3.f2
theorem aga.set {I : Hp} {p : Int} (h : aga I A) (g : GlI I u gs) : aga I (DW A p u gs) := by
  have hm : ∀ x ∈ A, GlI I x.2.1 x.2.2 := fun x hx => by
    obtain ⟨j, hj, rfl⟩ := List.getElem_of_mem hx
    have := h j hj
    rwa [List.getD_eq_getElem?_getD, List.getElem?_eq_getElem hj] at this
  have hm2 : ∀ x ∈ DW A p u gs, GlI I x.2.1 x.2.2 := fun x hx => by
    rcases List.mem_append.1 hx with hx | hx
    · exact hm x (List.mem_filter.1 hx).1
    · rw [List.mem_singleton.1 hx]; exact g
  intro j hj
  rw [List.getD_eq_getElem?_getD, List.getElem?_eq_getElem hj]
  exact hm2 _ (List.getElem_mem hj)
theorem V.aeh {p : Int} (H : V w0 w (xU A • yK 1 u gs.length (gs.map (·.1)) • vW gs • F)) : V w0 w (xU (DW A p u gs) • F) := by
  have H1 : V w0 w (know (fun I => GlI I u gs) (fun _ _ hl h => h.mono hl) • xU A • F) := (H.f3.f3 : V w0 w (yK 1 u gs.length (gs.map (·.1)) • vW gs • xU A • F)).I5 (xJ (fun I h g => ⟨h, g⟩) _)
  exact H1.f2.I5 (xJ (fun I h g => h.set g) _)
theorem V.Yu (H : V w0 w F) : V w0 w (xU [] • F) := H.Eb fun I k hk => by simp at hk
theorem V.Yv {k : IntKind} (H : V w0 w F) (a : Option Addr) : V w0 w (uQ k (.slice a 0 0) [] • F) := H.Eb fun I => ⟨a, 0, rfl, by simp, by decide, fun h => by simp at h⟩
end
end Go.Proofs.YtnhhmieghbfalaaGreatDoor
end
section
namespace Go.Proofs.YtnhhmieghbfalaaGreatDoor
open Go.RowKit
open _root_.Go.Proofs.Tryz
def qJ (v : Value) (pt mk : Int) : Array Value := #[v, .int .i64 pt, .int .i64 mk]
theorem og {v : Value} {pt mk : Int} : (qJ v pt mk).size = 3 := rfl
theorem zG {v u : Value} {pt mk : Int} : (qJ v pt mk).setIfInBounds 0 u = qJ u pt mk := rfl
theorem Dh {v : Value} {pt mk x : Int} : (qJ v pt mk).setIfInBounds 1 (.int .i64 x) = qJ v x mk := rfl
theorem sW {v : Value} {pt mk x : Int} : (qJ v pt mk).setIfInBounds 2 (.int .i64 x) = qJ v pt x := rfl
def kC (p : Nat) (L : List Int) (pt mk : Int) : HP := BK fun (v : Value) => fact (L.length ≤ 1024 ∧ (0 ≤ pt ∧ pt ≤ L.length) ∧ (-1 ≤ mk ∧ mk ≤ L.length)) • gU p (.cells (qJ v pt mk) 161 (0, 0)) • kF 21 .i32 v L
section
variable {w0 w : World} {F : HP} {p : Nat} {L : List Int} {pt mk : Int} {v : Value} {l : List Int} {i j : Int}
theorem V.ref (H : V w0 w (kC p L pt mk • F)) : ∃ (a : Option Addr) (c : Nat), L.length ≤ 1024 ∧ (0 ≤ pt ∧ pt ≤ L.length) ∧ (-1 ≤ mk ∧ mk ≤ L.length) ∧ L.length ≤ c ∧ (c : Int) ≤ 9223372036854775807 ∧
    V w0 w (gU p (.cells (qJ (.slice a L.length c) pt mk) 161 (0, 0)) • kF 21 .i32 (.slice a L.length c) L • F) := by
  obtain ⟨v, H⟩ := H.sS
  obtain ⟨⟨h1, h2, h3⟩, H⟩ := H.flat.fact
  have H := H.flat
  obtain ⟨a, c, hv, hc1, hc2, _⟩ := (H.swap.aJ).form
  subst hv
  exact ⟨a, c, h1, h2, h3, hc1, hc2, H⟩
theorem V.mO (h1 : L.length ≤ 1024) (h2 : 0 ≤ pt ∧ pt ≤ L.length) (h3 : -1 ≤ mk ∧ mk ≤ L.length) (H : V w0 w (gU p (.cells (qJ v pt mk) 161 (0, 0)) • kF 21 .i32 v L • F)) : V w0 w (kC p L pt mk • F) :=
  V.lK v (V.deep (V.qY ⟨h1, h2, h3⟩ (V.deep H)))
theorem WE (H : V w0 w F) (hr : jZ w0 F .i32 v l) (hl : 1024 < l.length) : iK prog 65 #[v] w fun v' w' => v' = .tuple #[.pointer none, .int .i64 3] ∧ w = w' := by
  obtain ⟨a, c, rfl, _, _, _⟩ := (hr w H).open
  refine jl func65 ntmps65 ?_
  refine kQ (lg O (vI O (bT O (aT (kE aB O) (aT (fZ O O) (iR (wcA O (fun h1 => ?_))))))))
  (try simp only [aG] at h1)
  refine kQ (lg O (iJ O (aC (Fp results65 O O ?_))))
  exact ⟨O, O⟩
theorem Yw (H : V w0 w F) (hr : jZ w0 F .i32 v l) (hl : l.length ≤ 1024) : iK prog 65 #[v] w fun v' w' => ∃ p, v' = .tuple #[.pointer (some ⟨p, 0, none⟩), .int .i64 0] ∧ V w0 w' (kC p l l.length (-1) • F) := by
  obtain ⟨a, c, rfl, hc1, hc2, _⟩ := (hr w H).open
  refine jl func65 ntmps65 ?_
  refine kQ (lg O (vI O (bT O (aT (kE aB O) (aT (fZ O O) (iR (VR O (fun h1 => ?_))))))))
  (try simp only [aG] at h1)
  refine gX (kG O (bT O (cO O (jT (eF (l := []) (H.iV none) (hr _ H) aB zf O O (by simp only [List.length_nil]; omega) (by simp only [List.length_nil]; omega)) ?_))))
  rintro u w1 H1
  rw [List.nil_append] at H1
  obtain ⟨au, cu, hu, _⟩ := (H1.aJ).form
  subst hu
  refine iU O (bT O (cO O (aT (kE aB O) (aT (kS (pl := #[(0, 1), (1, 1), (2, 1)]) (qJ (.slice au l.length cu) l.length (-1)) bG zeroValue161 (fun w => by kernel_rfl) O (by kernel_rfl)) (jT (UQ H1 O) ?_)))))
  rintro _ w2 ⟨b2, rfl, H2⟩
  refine lg O (iJ O (Fp results65 O O ?_))
  exact ⟨_, O, V.mO hl (by omega) (by omega) H2⟩
theorem tV {x : Int} {t : TypeId} {fr : Nat × Nat} {a : Option Addr} {n c : Nat} (hb : w.heap[p]? = some (.cells (qJ (.slice a n c) pt mk) t fr)) :
    iK prog 149 #[.pointer (some ⟨p, 0, none⟩), .int .i64 x] w fun v w' => v = .bool (decide (0 ≤ x ∧ x ≤ n)) ∧ w = w' := by
  refine nO func149 ntmps149 ?_
  refine kG O (bT O (aT (vT O O) (nS O (fun h1 => ?_) (fun h1 => ?_))))
  · (try simp only [aG] at h1)
    refine bJ (cO O (bJ (cO O (bJ (dM O (bJ (bg 0 bG O bI O (bJ (dQ aB O hb O (bJ (aT (kE aB O) (bJ (aT (xA O O) (mQ O O (iJ O (dO results149 O ?_))))))))))))))))
    refine ⟨?_, O⟩; congr 1; first | (symm; rw [decide_eq_true_eq]; omega) | (symm; rw [decide_eq_false_iff_not]; omega) | (rw [decide_eq_decide]; omega)
  · (try simp only [aG] at h1)
    refine dB (dB (dB (dB (dB (dB (dB (kP O O (iJ O (dO results149 O ?_)))))))))
    refine ⟨?_, O⟩; congr 1; first | (symm; rw [decide_eq_true_eq]; omega) | (symm; rw [decide_eq_false_iff_not]; omega) | (rw [decide_eq_decide]; omega)
theorem tX {x a b n : Int} (hx : -1 ≤ x ∧ x ≤ 1024) (ha : 0 ≤ a ∧ a ≤ 1024) (hb : 0 ≤ b ∧ b ≤ 1024) (hn : 0 ≤ n ∧ n ≤ 140737488355328) : iK prog 178 #[.int .i64 x, .int .i64 a, .int .i64 b, .int .i64 n] w fun v w' => v = .int .i64 (if b < x then x + n - (b - a) else x) ∧ w = w' := by
  refine MJ func178 ntmps178 ?_
  refine kG O (aI (bT O (cO O (aT (fZ O O) (jo O (fun h1 => ?_) (fun h1 => ?_))))))
  · (try simp only [aG] at h1)
    refine bT O (cO O (aT (gY O O (by omega)) (ku O O (aT (nN O O (by omega)) (aT (nN O O (by omega)) (iJ O (aC (dO results178 O ?_))))))))
    exact ⟨by rw [if_pos (by omega)], O⟩
  · (try simp only [aG] at h1)
    refine gX (bT O (iJ O (dO results178 O ?_)))
    exact ⟨by rw [if_neg (by omega)], O⟩
end
section
variable {w0 w : World} {F : HP} {p : Nat} {L : List Int} {pt mk x : Int} {v : Value} {l : List Int}
theorem WG (H : V w0 w (kC p L pt mk • F)) : iK prog 85 #[.pointer (some ⟨p, 0, none⟩), .int .i64 x] w fun v w' => v = .int .i64 (mvE L.length x) ∧ V w0 w' (kC p L (mvP L.length pt x) mk • F) := by
  obtain ⟨a, c, g1, g2, g3, hc1, hc2, HB⟩ := H.ref
  refine nO func85 ntmps85 ?_
  refine kG O (aI (bT O (cO O (fH O func149 (tV HB.get.2) ?_))))
  rintro _ _ ⟨rfl, rfl⟩
  refine aT (jG O) (jo O (fun h1 => ?_) (fun h1 => ?_))
  · (try simp only [aG] at h1)
    refine jE O (aC (dO results85 O ?_))
    exact ⟨by rw [mvE, if_neg (by omega)], by rw [mvP, if_neg (by omega)]; exact H⟩
  · (try simp only [aG] at h1)
    refine gX (bT O (kY O O (bg 1 bG O ah O (aH (iQ HB ah O O O (by rw [og]; decide)) ?_))))
    rintro _ w2 H2
    rw [Dh] at H2
    refine iR (jE O (dO results85 O ?_))
    exact ⟨by rw [mvE, if_pos (by omega)], by rw [mvP, if_pos (by omega)]; exact V.mO g1 (by omega) g3 H2⟩
theorem Yx {a : Option Addr} {c : Nat} (HB : V w0 w (gU p (.cells (qJ (.slice a L.length c) pt mk) 161 (0, 0)) • kF 21 .i32 (.slice a L.length c) L • F)) (g1 : L.length ≤ 1024) :
  iK prog 124 #[.pointer (some ⟨p, 0, none⟩)] w fun v' w' => ∃ u, v' = .agg (oU u pt mk) ∧ V w0 w' (kF 21 .i32 u L • gU p (.cells (qJ (.slice a L.length c) pt mk) 161 (0, 0)) • kF 21 .i32 (.slice a L.length c) L • F) := by
 refine jl func124 ntmps124 ?_
 refine kQ (jT (Bc HB vZ) ?_)
 rintro _ w1 ⟨b1, rfl, H1⟩
 refine iR (kG O (aI ?_))
 refine vU (n := 16) [0, 1, 2, 3, 4, 5, 6, 7, 8, 9, 10, 11, 12, 13, 14, 15] (fun W => W.heap[p]? = some (.cells (qJ (.slice a L.length c) pt mk) 161 (0, 0))) (by kernel_rfl) (by kernel_rfl) O ?_
 have hS0 : (fun W => W.heap[p]? = some (.cells (qJ (.slice a L.length c) pt mk) 161 (0, 0))) (w1.drew) := H1.swap.get.2
 have H2d := H1.drew
 refine fM 0 O hS0 O (fM 1 O hS0 O (jF 2 O hS0 O (eP 3 O hS0 0 bG O bI O (iD 4 O hS0 (fun W hW => jk aB O hW O) (fM 6 O hS0 O (jF 7 O hS0 O (eP 8 O hS0 1 bG O ah O (iD 9 O hS0 (fun W hW => jk ay O hW O) (fM 10 O hS0 O (jF 11 O hS0 O (eP 12 O hS0 2 bG O ah O (iD 13 O hS0 (fun W hW => jk ay O hW O) (lC 5 O (eF (l := []) (H2d.iV none) H2d.PU.aJ aB zf O O (by simp only [List.length_nil]; omega) (by simp only [List.length_nil]; omega)) ?_)))))))))))))
 rintro u w2 H2
 rw [List.nil_append] at H2
 obtain ⟨au, cu, hu, _⟩ := (H2.aJ).form
 subst hu
 have hS2 : (fun W => W.heap[p]? = some (.cells (qJ (.slice a L.length c) pt mk) 161 (0, 0))) w2 := H2.PU.get.2
 refine KP hS2 ?_
 refine iE 14 O hS2 (fun _ => kS (pl := #[(0, 1), (1, 1), (2, 1)]) (oU (.slice au L.length cu) pt mk) iM vZ (fun w => by kernel_rfl) O (by kernel_rfl)) ?_
 refine gW 15 O (by kernel_rfl) (fC (cs := oU (.slice au L.length cu) pt mk) H2.swap oV O O O O (U6 O)) ?_
 rintro _ w3 H3
 refine OY (by kernel_rfl) ?_
 refine oH (aZ (kN ?_))
 refine abr (.inl O) results124 O iM O (by rw [U7]; rfl) H3.get.2 ?_
 exact ⟨_, O, H3.right⟩
theorem KX {u u' : Value} (H : V w0 w F) (g1 : jZ w0 F .i32 u l) (g2 : jZ w0 F .i32 u' l) : iK prog 53 #[.agg (oU u pt mk), .agg (oU u' pt mk)] w fun v w' => v = .bool true ∧ V w0 w' F := by
 refine nO func53 ntmps53 ?_
 refine kQ (jT (UQ H O) ?_)
 rintro _ w1 ⟨b1, rfl, H1⟩
 refine jT (UQ H1 O) ?_
 rintro _ w2 ⟨b2, rfl, H2⟩
 refine vI O ?_
 have HB : V w0 w2 (gU b2 (.cells (oU u' pt mk) 71 (0, 0)) • gU b1 (.cells (oU u pt mk) 71 (0, 0)) • F) := H2
 refine aF (bg 0 iM O bI O (dQ aB O HB.swap.get.2 O (bg 0 iM O bI O (dQ aB O HB.get.2 O (fH O func121 (Yc _ _ _ l (g1 _ HB.right.right) (g2 _ HB.right.right)) ?_)))))
 rintro _ w3 ⟨rfl, hD1⟩
 have HE1 := HB.yg hD1
 refine cO O (bJ (bg 1 iM O ah O (bJ (dQ ay O HE1.swap.get.2 O (bJ (bg 1 iM O ah O (bJ (dQ ay O HE1.get.2 O (bJ ?_)))))))))
 refine aT (Es (fA O O) (by first | (rw [decide_eq_true_eq]; omega) | (rw [decide_eq_false_iff_not]; omega) | (rw [beq_iff_eq]; omega) | (rw [beq_eq_false_iff_ne]; omega) | (rw [bne_iff_ne]; omega) | (rw [bne_eq_false_iff_eq]; omega) | (simp; done) | (simp; omega))) ?_
 refine mQ O O (cO O (bJ (bg 2 iM O ah O (bJ (dQ ay O HE1.swap.get.2 O (bJ (bg 2 iM O ah O (bJ (dQ ay O HE1.get.2 O (bJ ?_))))))))))
 refine aT (Es (fA O O) (by first | (rw [decide_eq_true_eq]; omega) | (rw [decide_eq_false_iff_not]; omega) | (rw [beq_iff_eq]; omega) | (rw [beq_eq_false_iff_ne]; omega) | (rw [bne_iff_ne]; omega) | (rw [bne_eq_false_iff_eq]; omega) | (simp; done) | (simp; omega))) ?_
 refine mQ O O (iJ O (dO results53 O ?_))
 exact ⟨O, HE1.right.right⟩
end
end Go.Proofs.YtnhhmieghbfalaaGreatDoor
end
section

end
