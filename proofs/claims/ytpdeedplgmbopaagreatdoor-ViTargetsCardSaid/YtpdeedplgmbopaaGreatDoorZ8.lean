import Derived.Test.YtpdeedplgmbopaaGreatDoorZ4
import Derived.Test.YtpdeedplgmbopaaGreatDoorZ7
import Derived.Test.YtpdeedplgmbopaaGreatDoorZ6
import Derived.Test.YtpdeedplgmbopaaGreatDoorZ3
import Derived.Maps.RangeRun
set_option linter.unusedSimpArgs false
set_option linter.unusedVariables false
/- Texts of mine, joined, their names in short: UList7 Grp0 Hist EdM Map. -/
section
namespace Go.Proofs.YtpdeedplgmbopaaGreatDoor
open Go.RowKit
open _root_.Go.Proofs.Tryz
theorem Uc {G : List (List jq)} {k : Nat} (hk : k < G.length) : G.take (k + 1) = G.take k ++ [G.getD k []] := by
  rw [List.take_succ_eq_append_getElem hk, List.getD_eq_getElem?_getD, List.getElem?_eq_getElem hk]
  rfl
theorem Gt {G : List (List jq)} {g : List jq} (h : g ∈ G) : g.length ≤ (G.map List.length).sum := by
  induction G with
  | nil => cases h
  | cons x G ih =>
    rw [List.map_cons, List.sum_cons]
    rcases List.mem_cons.1 h with rfl | h
    · omega
    · have := ih h; omega
theorem Oa {es : List eG} {l : List jq} (h : es.map eG.says = l) (hl : ∀ e ∈ l, EB e) : ∀ k, k < es.length → EB (es.getD k default).says := fun k hk =>
  hl _ (by rw [← h]; exact List.mem_map_of_mem (wR hk))
section
variable {w0 w : World} {F : HP} {p : Nat} {G : List (List jq)} {N : List jq} {op : Int}
theorem Ie (H : V w0 w (jl p G N op • F)) : ig prog 130 #[.pointer (some ⟨p, 0, none⟩)] w fun v w' => ∃ q, v = .pointer (some ⟨q, 0, none⟩) ∧ V w0 w' (jl q G N op • jl p G N op • F) := by
 refine iK func130 ntmps130 ?_
 refine jy O (aK (bM O (dX O func158 (nM H) ?_)))
 rintro _ _ ⟨rfl, rfl⟩
 refine iy (oD (fG (aK ?_)))
 obtain ⟨BX, zF, oJ, nH, lN, wK, uz, Ht, Hu, NY, rP⟩ := (H).y8
 have hLn : nH.length ≤ 16384 := by omega
 have hBn := Oa uz lN.2.2.2.2.2
 refine aA (nZ O O (Z (fP bJ O sizeOf235 O O (rP).get.2) (jL (gK (l := [_, _, _, _, _]) rP zeroValue235 O) ?_)))
 rintro _ w3 ⟨b3, rfl, H3⟩
 refine aO (dw 0 (l' := [_, _, _, _, _]) (us := [_, _, _, _, _]) H3 sizeOf235 O O O (bf (by first | rfl | exact Rd.one ((H3.f3).aY)) (bf (by first | rfl | exact Rd.one ((H3.f5).aY)) (aH (aH (aH bP))))) O O) ?_
 rintro _ w4 H4
 refine sH O (dQ O (bK 0 bJ O dG O (bK 1 bU O bV O (gJ aZ O (H4.f2).get.2 O (dX O func173 (AV H4.f6.f6 hBn hLn) ?_)))))
 rintro u5 w5 ⟨fs5, adG, H5⟩
 obtain ⟨es1, rfl⟩ : ∃ q, q = fs5 := ⟨_, rfl⟩
 have hes1 := adG
 refine bK 0 bJ O dG O (bK 0 bU O fJ O (aO (YA 0 H5.f5 fJ) ?_))
 rintro _ w6 H6
 refine bK 0 bJ O dG O (bK 1 bU O bV O (aO (fQ 1 (l' := [_, _, _, _, _]) H6 bV O O (by first | rfl | exact Rd.one ((H6.f2).aY)) O O) ?_))
 rintro _ w7 H7
 refine qW (bM O (dQ O (bK 0 bJ O dG O (bK 0 bU O fJ O (gJ bH O (H7.f6).get.2 O (Z (jU ((H7.f7).aY) bH O) (bG O (iy (aV ?_)))))))))
 obtain ⟨ZP, ZQ, acp, -⟩ := ((H7.f7).aY).form
 subst acp
 refine dJ [(3, _), (25, _), (26, _)] (fun (k : Nat) => [(27, .int .i64 (k : Int))]) (fun (k : Nat) W => k ≤ oJ.length ∧ ∃ gu, ∃ hs : List (Value × List eG), hs.map (fun g => g.2.map eG.says) = G.take k ∧ V w0 W (dS b3 (.cells #[gu, u5, .int .i64 op, .int .i64 (jd G N : Nat), .bool true] 235 (0, 0)) • Row 80 1 gu hs.length (hs.map (·.1)) • oH hs • Row 189 3 u5 es1.length (es1.flatMap eG.enc) • kW es1 • dS p (.cells #[(.slice ZP (oJ.length) ZQ), zF, .int .i64 op, .int .i64 (jd G N : Nat), .bool true] 235 (0, 0)) • Row 80 1 (.slice ZP (oJ.length) ZQ) oJ.length (oJ.map (·.1)) • oH oJ • Row 189 3 zF nH.length (nH.flatMap eG.enc) • kW nH • F)) (fun (k : Nat) => oJ.length - k) (0) qC ji ⟨by omega, _, [], O, ((H7.f5.f5.f8.f8.f8.f6.f8.f8).Hr none).YK.f5⟩ ?_
 rintro k w9 ⟨hk, gu, hs, V4, HL⟩
 dsimp only [List.cons_append, List.nil_append]
 refine gW (Z (fF O O) (qW (bI O (fun h1 => ?_) (fun h1 => ?_))))
 ·(try simp only [aC] at h1)
  refine fG (aK (aV (gW ?_)))
  obtain ⟨ae2, ae3, rfl⟩ := Rd.pos ((HL.f7).aY) (by omega)
  refine Z (dh bH bV O O (by omega)) ?_
  refine Z (dH (bT aZ O) O (by first | exact Rd.jo ((HL.f7).aY) (by omega) | exact Rd.qB ((HL.f7).aY) (by omega) | exact Rd.qx ((HL.f7).aY) (by omega))) ?_
  have hkl : k < oJ.length := by omega
  rw [show (oJ.map (·.1)).getD k undef = (oJ.getD k default).1 from by simp [List.getD_eq_getElem?_getD, hkl]]
  obtain ⟨gl, xO, hg⟩ : ∃ gl xO, oJ.getD k default = (gl, xO) := ⟨_, _, rfl⟩
  rw [hg]
  have V5 := HL.f8
  have V6 := V5.Gs hkl hg
  have hge : xO.map eG.says = G.getD k [] := by
   rw [← wK]
   have h9 : (oJ.map (fun g => g.2.map eG.says)).getD k [] = (oJ.getD k default).2.map eG.says := by simp [List.getD_eq_getElem?_getD, hkl]
   rw [h9, hg]
  have hgm : G.getD k [] ∈ G := wR (by omega)
  have hBg := Oa hge (lN.2.2.2.2.1 _ hgm)
  have hLg : xO.length ≤ 16384 := by
   have h8 := lN.2.1
   unfold jd at h8
   have h7 := congrArg List.length hge
   rw [List.length_map] at h7
   have h6 := Gt hgm
   omega
  have hhl := congrArg List.length V4
  rw [List.length_map, List.length_take] at hhl
  refine fV O ?_
  have ZR := V6.drew
  have Ig := V.kp (ZR.f11.f11.f11.f11.f11.f11.f11.f11.f11.f11.f11)
  refine yY [2] Ig O (iJ 0 O Ig 0 bJ O dG O (iJ 1 O Ig 0 bU O fJ O (kK 2 O Ig (fun W hW => kQ bH O ((Kp.h hW).f3).get.2 O) (jW 3 O Ig O (oV 4 O (zx O func173 (yE ZR hBg hLg)) ?_)))))
  rintro u12 w12 ⟨VZ, ZO, vX⟩
  obtain ⟨es2, rfl⟩ : ∃ q, q = VZ := ⟨_, rfl⟩
  have hes2 := ZO
  have Hz := V.kp (vX.f13.f13.f13.f13.f13.f13.f13.f13.f13.f13.f13.f13.f13)
  refine eU Hz (fun W hW => (Kp.h hW).right.right.f11.f11.f11.f11.f11.f11.f11.f11.f11.f11.f11) ?_
  refine oV 5 O (kH (vs := [_]) vX bH bV lS O O O (by decide) (bf (by first | rfl | exact Rd.one ((vX).aY)) bP)) ?_
  rintro l13 PO xM
  have wE := V.kp (xM.f14.f14.f14.f14.f14.f14.f14.f14.f14.f14.f14.f14.f14.f14)
  refine eU wE (fun W hW => (Kp.h hW).right.f13.f13.f13.f13.f13.f13.f13.f13.f13.f13.f13.f13.f13) ?_
  refine oV 6 O (gZ xM.f7 bH FD O O O ((xM).aY) (bf (by first | rfl | exact Rd.one ((xM.f2).aY)) bP) (by omega) (by omega)) ?_
  rintro l14 TN BJ
  have aaL := BJ.f2.right
  have wF := V.kp (aaL.f13.f13.f13.f13.f13.f13.f13.f13.f13.f13.f13.f13.f13)
  refine iD wF (by kernel_rfl) ?_
  refine iJ 7 O wF 0 bJ O dG O (iJ 8 O wF 0 bU O fJ O ?_)
  refine gX 9 O (by kernel_rfl) (fQ 0 (l' := [_, _, _, _, _]) aaL.f6 fJ O O (by first | rfl | exact Rd.one ((aaL).aY)) O O) ?_
  rintro _ w16 zB
  have D7 := V.kp (zB.f13.f13.f13.f13.f13.f13.f13.f13.f13.f13.f13.f13.f13)
  refine iD D7 (by kernel_rfl) ?_
  have X := V.qF (es := es2) (zB.f5.right.f12.f12.f7.f12.f12.f12.f12.f8.f12.f10.f12.f12).deep
  have HN := (V.rY X.swap).YK.f3
  have hnew : (hs ++ [(u12, es2)]).map (fun g => g.2.map eG.says) = G.take (k + 1) := by rw [List.map_append, V4, Uc (by omega), ← hge, ← hes2]; rfl
  refine sK (aG (aW (aA (Z (dP O O (by omega)) (bG O (bD ?_))))))
  refine bZ (k + 1) ?_ ?_ ?_ ?_
  ·exact ji
  ·exact qC
  ·(try dsimp only)
   first | done | exact ⟨by omega, _, _, hnew, HN⟩
  ·(try dsimp only); omega
 ·(try simp only [aC] at h1)
  refine bQ (aB (aB (aU (aW (jB O (dF results130 O ?_))))))
  rw [List.take_of_length_le (by omega)] at V4
  have X := V.oI (gs := hs) (now := es1) lN V4 (hes1.trans uz) rfl (HL.f10.f10.f10.f10.f10.f10.f10.f10.f10.f10)
  have Y := V.oI lN wK uz rfl X.f6.f6.f6.f6.f6
  exact ⟨_, O, Y.swap⟩
end
end Go.Proofs.YtpdeedplgmbopaaGreatDoor
end
section
namespace Go.Proofs.YtpdeedplgmbopaaGreatDoor
open Go.RowKit
def C9 (G : List (List jq)) (N : List jq) : List (List jq) := (mZ G N).reverse
def LU (N : List jq) : List (List jq) := if N = [] then [] else [N]
theorem V7 (N : List jq) : (LU N).length ≤ 1 := by unfold LU; split <;> simp
theorem YO (G : List (List jq)) (N : List jq) : C9 G N = LU N ++ G.reverse := by
  unfold C9 LU mZ; split <;> simp
end Go.Proofs.YtpdeedplgmbopaaGreatDoor
end
section
namespace Go.Proofs.YtpdeedplgmbopaaGreatDoor
open Go.RowKit
open _root_.Go.Proofs.Tryz
abbrev qQ := ByteArray × Int
def Ad (x : qQ) : List Value := [.string x.1, .int .i64 x.2]
theorem Kz (x : qQ) : (Ad x).length = 2 := rfl
def adH (x : qQ) : Prop := x.1.size ≤ 16384 ∧ 0 ≤ x.2
def HOk (hl : List qQ) (base most : Int) : Prop := hl.length ≤ 4096 ∧ 1 ≤ base ∧ base ≤ 4611686018427387904 ∧ (hl.length : Int) ≤ most ∧ most ≤ 4096 ∧ ∀ x ∈ hl, adH x
def iH (p : Nat) (hl : List qQ) (base most : Int) : HP := uf fun (v : Value) => fact (HOk hl base most) • dS p (.cells #[v, .int .i64 base, .int .i64 most] 153 (0, 0)) • Row 218 2 v hl.length (hl.flatMap Ad)
section
variable {P : Program} {L : List (Nat × Value)} {w0 w : World} {F : HP} {ty : TypeId} {p : Nat} {hl : List qQ} {base most : Int} {v : Value}
theorem Ih {t e sz : Nat} {z : Value} (H : V w0 w F) (ht : P.underlying t = some (.slice e)) (hs : ∀ w, (sizeOf e).run P w = .ok sz w) (hz : ∀ w, (zeroValue e).run P w = .ok z w) :
    uZ P L (.buildSlice t 0 #[]) ty w fun v w' => V w0 w' (Row e sz v 0 [] • F) := by
  refine wX (v := .slice (some ⟨w.heap.size, 0, none⟩) 0 0) (w' := w.alloc (.cells #[] e)) ?_ ?_
  · intro ρ hρ d pos nV g
    simp only [execOp, Instr.buildSlice, Sem.run_bind, run_underlying ht, Result.andThen_ok, hs]
    have h0 : Array.map (fun (_ : Nat) => (default : Value)) (Array.range 0) = #[] := Array.eq_empty_of_size_eq_zero (by simp)
    simp [Instr.fill, newRow, h0]
  · exact (H.alloc _).right.jk _
theorem V.hist (H : V w0 w (iH p hl base most • F)) : ∃ v, HOk hl base most ∧ V w0 w (dS p (.cells #[v, .int .i64 base, .int .i64 most] 153 (0, 0)) • Row 218 2 v hl.length (hl.flatMap Ad) • F) := by
  obtain ⟨v, H⟩ := H.lZ
  obtain ⟨h, H⟩ := H.flat.fact
  exact ⟨v, h, H.flat⟩
theorem V.D8 (h : HOk hl base most) (H : V w0 w (dS p (.cells #[v, .int .i64 base, .int .i64 most] 153 (0, 0)) • Row 218 2 v hl.length (hl.flatMap Ad) • F)) : V w0 w (iH p hl base most • F) :=
  V.iV v (V.deep (V.kR h H.deep))
theorem Sj {hl : List qQ} : ∀ x ∈ hl.flatMap Ad, x.oneCell' = true := by
  intro x hx
  obtain ⟨e, _, hx⟩ := List.mem_flatMap.1 hx
  simp [Ad] at hx
  rcases hx with rfl | rfl <;> rfl
theorem YP : (prog.info? 218).map (fun i => (i.zero, i.size, i.bytes)) = some (some (.agg #[.string .empty, .int .i64 0]), 2, 24) := by kernel_rfl
theorem LV (H : V w0 w F) (hr : TI w0 F 2 v hl.length (hl.flatMap Ad)) (hb : hl.length ≤ 1099511627776) :
    ig prog 150 #[v] w fun v' w' => V w0 w' (Row 218 2 v' hl.length (hl.flatMap Ad) • F) := by
  obtain ⟨hlen, a, c, rfl, h1, h2, h3⟩ := hr w H
  refine iK func150 ntmps150 ?_
  refine jy O (aK (bM O (Z (Am fZ O O) ?_)))
  refine gQ O (fun h1 => ?_) (fun h1 => ?_)
  · (try simp only [aC] at h1)
    refine jB O (ay (dF results150 O ?_))
    obtain rfl : a = none := by simpa using h1
    obtain rfl : hl = [] := by
      cases hl with
      | nil => rfl
      | cons x l => obtain ⟨b, o, e, _⟩ := h3 (by simp); cases e
    exact H.jk none
  · (try simp only [aC] at h1)
    refine fG (gW (jL (Ih H fZ sizeOf218 zeroValue218) ?_))
    rintro _ w1 H1
    refine bG O (jL (gZ H1 fZ YP O O O (hr.under _ H1) Sj (by omega) (by omega)) ?_)
    rintro _ w2 H2
    refine dU O (dF results150 O ?_)
    exact H2.of_eq (by rw [Nat.zero_add, List.nil_append])
theorem CG (H : V w0 w (iH p hl base most • F)) : ig prog 149 #[.pointer (some ⟨p, 0, none⟩)] w fun v w' => v = .bool false ∧ w = w' := by
 refine iK func149 ntmps149 ?_
 refine jy O (aK ?_)
 obtain ⟨Qy, Cb, Aj⟩ := (H).hist
 refine aA (bG O (Z (jm kC O O) (iZ O (fun h1 => ?_) (fun h1 => ?_))))
 ·(try simp only [aC] at h1)
  exfalso; first | contradiction | omega
 ·(try simp only [aC] at h1)
  refine bg (bG O (bg (dQ O (bg (bK 0 kX O sizeOf151 O (bg (bK 1 kY O sizeOf2 O (bg (gJ underlying2 O (Aj).get.2 O (bg (Z (cZ O O) (gI O O (dU O (dF results149 O ?_))))))))))))))
  exact ⟨by rw [show (base == 0) = false from by rw [beq_eq_false_iff_ne]; have := Cb.2.1; omega], O⟩
theorem LW {n : Int} (H : V w0 w F) (hn : 0 ≤ n ∧ n ≤ 4096) : ig prog 55 #[.int .i64 n] w fun v w' => ∃ p, v = .tuple #[.pointer (some ⟨p, 0, none⟩), .int .i64 0] ∧ V w0 w' (iH p [] 1 n • F) := by
  refine iK func55 ntmps55 ?_
  refine gW (dL O (tX O (bM O (Z (fF O O) (iZ O (fun h1 => ?_) (fun h1 => ?_))))))
  · (try simp only [aC] at h1)
    exfalso; first | contradiction | omega
  · (try simp only [aC] at h1)
    refine bg (bG O (bg (Z (iw O O) (gI O O (gQ O (fun h2 => ?_) (fun h2 => ?_))))))
    · (try simp only [aC] at h2)
      exfalso; first | contradiction | omega
    · (try simp only [aC] at h2)
      refine fG (bM O (Z (qO (pl := #[(0, 1), (1, 1), (2, 1)]) (#[_, _, _]) kY zeroValue151 (fun w => by kernel_rfl) O (O)) (Z (qO (pl := #[(0, 3)]) (#[_, _, _]) kX zeroValue153 (fun w => by kernel_rfl) O (O)) (jL (jf (l := [_, _, _]) H O O) ?_))))
      rintro _ w1 ⟨b1, rfl, H1⟩
      refine dL O (dU O (Az results55 O O ?_))
      exact ⟨_, O, V.D8 (v := .slice none 0 0) ⟨by simp, by decide, by decide, by simp; omega, by omega, by simp⟩ ((H1.jk none).swap)⟩
theorem oW (H : V w0 w (iH p hl base most • F)) : ig prog 117 #[.pointer (some ⟨p, 0, none⟩)] w fun v w' => v = .int .i64 hl.length ∧ V w0 w' (iH p hl base most • F) := by
 refine iK func117 ntmps117 ?_
 refine jy O (aK (bM O (dX O func149 (CG H) ?_)))
 rintro _ _ ⟨rfl, rfl⟩
 refine iy (oD (fG (aK ?_)))
 obtain ⟨Qy, Cb, Aj⟩ := (H).hist
 refine aA (nZ O O (bK 0 kX O sizeOf151 O (bK 0 kY O sizeOf149 O (gJ fZ O (Aj).get.2 O (Z (jU ((Aj.f2).aY) fZ O) (dU O (dF results117 O ?_)))))))
 have Qk := Aj.f2.f2
 have PN := V.D8 Cb Qk
 exact ⟨O, PN⟩
theorem tC (H : V w0 w (iH p hl base most • F)) : ig prog 109 #[.pointer (some ⟨p, 0, none⟩)] w fun v w' => ∃ q, v = .pointer (some ⟨q, 0, none⟩) ∧ V w0 w' (iH q hl base most • iH p hl base most • F) := by
 refine iK func109 ntmps109 ?_
 refine jy O (aK (bM O (dX O func149 (CG H) ?_)))
 rintro _ _ ⟨rfl, rfl⟩
 refine iy (oD (fG (aK ?_)))
 obtain ⟨Qy, Cb, Aj⟩ := (H).hist
 have hcl := Cb.1
 have BZ := Aj.drew
 have iL := V.kp (BZ.f2.f2)
 refine yY [4, 10, 15] iL O (jW 0 O iL O (kV 1 O iL O (iJ 2 O iL 0 kX O sizeOf151 O (iJ 3 O iL 0 kY O sizeOf149 O (kK 4 O iL (fun W hW => kQ fZ O ((Kp.h hW)).get.2 O) (jW 6 O iL O (kV 7 O iL O (iJ 8 O iL 0 kX O sizeOf151 O (iJ 9 O iL 1 kY O sizeOf2 O (kK 10 O iL (fun W hW => kQ underlying2 O ((Kp.h hW)).get.2 O) (jW 11 O iL O (kV 12 O iL O (iJ 13 O iL 0 kX O sizeOf151 O (iJ 14 O iL 2 kY O aF O (kK 15 O iL (fun W hW => kQ aP O ((Kp.h hW)).get.2 O) (oV 5 O (zx O func150 (LV BZ (fun W HW => (HW.f2).aY) (by omega))) ?_))))))))))))))))
 rintro u3 w3 H3
 have zD := V.kp (H3.f3.f3.f3)
 refine eU zD (fun W hW => (Kp.h hW).right.f2.f2) ?_
 obtain ⟨au3, cu3, eu3, -⟩ := ((H3).aY).form
 subst eu3
 refine jQ 16 O zD (fun _ => qO (pl := #[(0, 1), (1, 1), (2, 1)]) (#[_, _, _]) kY zeroValue151 (fun w => by kernel_rfl) O (O)) (jQ 17 O zD (fun _ => qO (pl := #[(0, 3)]) (#[_, _, _]) kX zeroValue153 (fun w => by kernel_rfl) O (O)) (oV 18 O (jf (l := [_, _, _]) H3 O O) ?_))
 rintro _ w4 ⟨b4, rfl, H4⟩
 have nK := V.kp (H4.f4.f4.f4.f4)
 refine iD nK (by kernel_rfl) ?_
 refine jQ 19 O nK (fun _ => dY O) (sK (aW (mg (dF results109 O ?_))))
 have YQ := H4.f4.f4
 have YR := V.D8 Cb YQ
 exact ⟨_, O, V.D8 Cb YR.f3.f3⟩
end
end Go.Proofs.YtpdeedplgmbopaaGreatDoor
end
section
namespace Go.Proofs.YtpdeedplgmbopaaGreatDoor
open Go.RowKit
def xQ {β : Type} (f : Int → β) (a : Int) (v : β) : Int → β := fun x => if x = a then v else f x
theorem oK {β : Type} (f : Int → β) (a : Int) (v : β) : xQ f a v a = v := if_pos rfl
theorem vH {β : Type} (f : Int → β) {a x : Int} (v : β) (h : x ≠ a) : xQ f a v x = f x := if_neg h
structure mX where
  L : List Int
  pt : Int
  mark : Int
  E : List (List Int)
  at_ : Nat
  place : Int
  tx : Int → Option ByteArray
  un : Int → List (List jq)
  mode : Int
  over : Bool
  last : Int
  fr : Int
  to : Int
  res : Int
  run : Bool
structure dN where
  c : mX
  hl : List qQ
  base : Int
  most : Int
  su : Int
  given : Bool
  minus : Bool
  arg : Int
  inn : Bool
  was : mX
  cls : Int
  killed : Bool
  lT : Bool
  argues : Bool
  whole : Bool
  put : List jq
def Ob (hl : List qQ) (k : Int) : qQ := if 0 ≤ k ∧ k < hl.length then hl.getD k.toNat default else (.empty, 0)
def zK (hl : List qQ) (k : Int) : ByteArray := (Ob hl k).1
def jS (hl : List qQ) (tx : Int → Option ByteArray) (k : Int) : ByteArray := (tx k).getD (zK hl k)
def BK (hl : List qQ) (tx : Int → Option ByteArray) (place : Int) (k : Nat) : Bool := decide ((k : Int) ≠ place) && !((jS hl tx k).toList == (zK hl k).toList)
def qR (hl : List qQ) (tx : Int → Option ByteArray) (place : Int) (n : Nat) : List (Int × ByteArray) := ((List.range n).filter (BK hl tx place)).map fun (k : Nat) => ((k : Int), jS hl tx k)
def zL (hl : List qQ) (tx : Int → Option ByteArray) (place : Int) : List (Int × ByteArray) := qR hl tx place hl.length ++ (if place ≠ hl.length then [((hl.length : Int), jS hl tx hl.length)] else [])
def rF (G : List (List jq)) (inn : Bool) (put : List jq) (typed run : Bool) : Int := (G.length : Int) + if inn && !put.isEmpty && !(typed && run) then 1 else 0
namespace dN
variable (s : dN)
def here : List (List jq) := s.c.un s.c.place
def xA (G : List (List jq)) : dN := { s with c := { s.c with un := xQ s.c.un s.c.place G } }
def y9 : Int := if s.inn then 0 else 1
def Dc : Int := if s.inn then 1 else 0
def kN : dN := if s.inn then s else { s with inn := true, was := s.c, cls := 0, killed := false, lT := false, argues := false, whole := true, put := [] }
def lH (on : Bool) : List (List jq) := if s.put = [] then s.here else if on then (match s.here.getLast? with | some g => s.here.dropLast ++ [g ++ s.put] | none => [s.put]) else s.here ++ [s.put]
def iF (on : Bool) : dN := if s.put = [] then s else { s.xA (s.lH on) with put := [] }
def AX : dN := { s with given := false, minus := false, arg := -1 }
def AU (err : Int) : Int := if s.inn then err else 1
def yF : dN := { s.AX with inn := false, c := { s.was with last := 0, fr := 0, to := 0 }, su := IntKind.i64.wrap (s.su + 1), put := [] }
def typed : Bool := s.cls == 3 && s.whole
def kL : dN := { (if s.argues then s else s.AX) with inn := false }
def qj : dN :=
  let t := s.kL.iF (s.typed && s.c.run)
  let c := { t.c with run := s.typed && (!s.put.isEmpty || s.c.run), last := s.cls }
  { t with c := if s.cls ≠ 2 then { c with fr := 0, to := 0 } else c }
def Df (err : Int) : dN := if s.inn then (if err = 0 then s.qj else s.yF) else s
def Sl (x : jq) : dN :=
  if x.2.1.length + x.2.2.length = 0 then s else
  if 16384 ≤ jd s.here s.put then { s.xA [] with put := [x], c := { (s.xA []).c with run := false } } else { s with put := s.put ++ [x] }
def zM (L : List Int) (pt mk : Int) : dN := { s with c := { s.c with L := L, pt := pt, mark := mk } }
def LX (i j : Int) (l : List Int) : Int := if s.inn then FB s.c.L i j l else 1
def Sm (i j : Int) (l : List Int) : dN := if s.inn then (s.zM (ZJ s.c.L i j l) (ZK s.c.L s.c.pt i j l) (ZL s.c.L s.c.mark i j l)).Sl (ab2 s.c.L i j l, ab3 s.c.L i j l, ab4 s.c.L i j l) else s
def adI (l : List Int) : Int := s.LX s.c.pt s.c.pt l
def adJ (l : List Int) : dN := s.Sm s.c.pt s.c.pt l
def V8 (l : List Int) : Int := if s.c.over then min (s.c.pt + l.length) s.c.L.length else s.c.pt
def acq (l : List Int) : Int := s.LX s.c.pt (s.V8 l) l
def ae4 (l : List Int) : dN := if s.inn then (let t := s.Sm s.c.pt (s.V8 l) l; if s.acq l = 0 ∧ s.cls = 0 then { t with cls := 3 } else t) else s
def way (back : Bool) : Int := if s.c.last = 1 ∨ s.killed = true then (if back then 2 else 1) else 0
def LY (i j : Int) : Prop := i < 0 ∨ s.c.L.length < i ∨ j < i ∨ s.c.L.length < j
instance (i j : Int) : Decidable (s.LY i j) := by unfold LY; infer_instance
def cut (i j : Int) : List Int := (s.c.L.drop i.toNat).take (j.toNat - i.toNat)
def V9 (i j : Int) (back : Bool) : Int × List (List Int) × Nat := acf s.c.E s.c.at_ (s.way back) (s.cut i j)
def Sr (i j : Int) (back : Bool) : Int := if s.inn then (if s.LY i j then 70 else (s.V9 i j back).1) else 1
def YS (E : List (List Int)) (a : Nat) : dN := { s with c := { s.c with E := E, at_ := a } }
def ZT (i j : Int) (back : Bool) : dN := if s.Sr i j back = 0 then { s.YS (s.V9 i j back).2.1 (s.V9 i j back).2.2 with killed := true, cls := 1 } else s
def ae5 (i j : Int) (back : Bool) : Int := if s.Sr i j back = 0 then (s.ZT i j back).LX i j [] else s.Sr i j back
def ae6 (i j : Int) (back : Bool) : dN := if s.Sr i j back = 0 then (s.ZT i j back).Sm i j [] else s
def top : List Int := s.c.E.getD s.c.at_ []
def acr : Int := if s.inn then (if s.c.E.length = 0 then 6 else s.adI s.top) else 1
def ae7 : dN :=
  if s.acr = 0 then
    let t := s.adJ s.top
    { t with lT := true, cls := 2, c := { t.c with mark := smM t.c.L t.c.mark s.c.pt, fr := s.c.pt, to := s.c.pt + s.top.length } }
  else s
def aaM (n : Int) : List Int := s.c.E.getD (EJ s.c.E.length s.c.at_ n) []
def adK (n : Int) : Int := if s.inn then (if s.c.last ≠ 2 ∨ s.lT = true then 6 else if s.c.E.length = 0 then 6 else s.LX s.c.fr s.c.to (s.aaM n)) else 1
def afv (n : Int) : dN :=
  if s.adK n = 0 then
    let t := s.Sm s.c.fr s.c.to (s.aaM n)
    { t with lT := true, cls := 2, c := { t.c with E := s.c.E, at_ := EJ s.c.E.length s.c.at_ n, fr := s.c.fr, to := s.c.fr + (s.aaM n).length } }
  else s
def kills : List (List Int) := s.c.E.drop s.c.at_ ++ s.c.E.take s.c.at_
def KA (x : Int) : Int := if s.inn then mvE s.c.L.length x else 1
def FI (x : Int) : dN := if s.inn then s.zM s.c.L (mvP s.c.L.length s.c.pt x) s.c.mark else s
def ae8 (x : Int) : Int := if s.inn then smE s.c.L x else 1
def ae9 (x : Int) : dN := if s.inn then s.zM s.c.L s.c.pt (smM s.c.L s.c.mark x) else s
def afa : Int := if s.inn then swE s.c.mark else 1
def afb : dN := if s.inn then s.zM s.c.L (swP s.c.pt s.c.mark) (swM s.c.pt s.c.mark) else s
def adL (b : List Int × Int × Int) (x : jq) : List Int × Int × Int := (adA b.1 x.1 x.2.1 x.2.2, adB b.1 b.2.1 x.1 x.2.1 x.2.2, adC b.1 b.2.2 x.1 x.2.1 x.2.2)
def apps (b : List Int × Int × Int) (l : List jq) : List Int × Int × Int := l.foldl adL b
def ZU (l : List jq) : dN := let b := apps (s.c.L, s.c.pt, s.c.mark) l; s.zM b.1 b.2.1 b.2.2
def Sv : dN := { s with whole := false, c := { s.c with run := false } }
def afc : dN := if s.inn then (let t := s.iF false; if t.here = [] then t else ((t.xA t.here.dropLast).ZU ((t.here.getLastD []).reverse.map Ib)).Sv) else s
def VW : Int := if s.inn then (if (s.iF false).here = [] then 6 else 0) else 1
def afw : dN := if s.inn then (let t := s.iF false; if t.here = [] then t else ((t.xA []).ZU (t.here.flatten.reverse.map Ib)).Sv) else s
def aaN (d : Int) : Int := if s.inn then (if d < 0 ∨ 9 < d then 1 else 0) else 1
def adM (d : Int) : dN := if s.aaN d = 0 then { s with given := true, argues := true, arg := min (max s.arg 0 * 10 + d) 1000000 } else s
def afx : dN := if s.inn then { s with given := true, argues := true, minus := !s.minus } else s
def adN (n : Int) : Int := if s.inn then (if 1000000 < n ∨ n < -1000000 then 1 else 0) else 1
def afy (n : Int) : dN := if s.adN n = 0 then { s with given := true, argues := true, minus := decide (n < 0), arg := max n (-n) } else s
def count : Int := if s.given then (let n := if s.arg < 0 then 1 else s.arg; if s.minus then -n else n) else 1
def tH (m : Int) : Int := if s.inn then (if m < 0 ∨ 2 < m then 1 else 0) else 1
def zf (m : Int) : dN := if s.tH m = 0 then { s with c := { s.c with mode := m } } else s
def afd (b : Bool) : dN := if s.inn then { s with c := { s.c with over := b } } else s
def adO (r : Int) : Int := if s.inn then (if r < 1 ∨ 3 < r then 1 else 0) else 1
def afz (r : Int) : dN := if s.adO r = 0 then { s with c := { s.c with res := r } } else s
def first (k : Int) : ByteArray := zK s.hl k
def stands (k : Int) : ByteArray := (s.c.tx k).getD (s.first k)
def Wh : Int := rF s.here s.inn s.put s.typed s.c.run
def saved : List (Int × ByteArray) := zL s.hl s.c.tx s.c.place
def Ae : Int := if s.inn then s.was.last else s.c.last
def U8 : Int := if s.inn then s.was.fr else s.c.fr
def U9 : Int := if s.inn then s.was.to else s.c.to
end dN
def mX.fresh (l : List Int) (E : List (List Int)) (a : Nat) (place mode : Int) : mX := ⟨l, l.length, -1, E, a, place, fun _ => none, fun _ => [], mode, false, 0, 0, 0, 0, false⟩
def dN.start (s : dN) (hl : List qQ) (base most : Int) (l : List Int) : dN := { s with c := mX.fresh l s.c.E s.c.at_ hl.length s.c.mode, hl := hl, base := base, most := most, given := false, minus := false, arg := -1 }
def dN.new (hl : List qQ) (base most : Int) : dN :=
  let c := mX.fresh [] [] 0 hl.length 0
  { c := c, hl := hl, base := base, most := most, su := 0, given := false, minus := false, arg := -1, inn := false, was := c, cls := 0, killed := false, lT := false, argues := false, whole := false, put := [] }
end Go.Proofs.YtpdeedplgmbopaaGreatDoor
end
section
namespace Go.Proofs.YtpdeedplgmbopaaGreatDoor
open Go.RowKit Go.MapKept
structure Key (α : Type) where
  mkKey ::
  d : TypeDesc
  mk : α → Value
  key : ∀ a, IsKey d (mk a)
  inj : ∀ a b, mk a = mk b → a = b
  onto : ∀ v, IsKey d v → ∃ a, mk a = v
def xB (k : IntKind) : Key Int := ⟨.int k, .int k, fun _ => rfl, fun _ _ h => by cases h; rfl, fun v h => by
  cases v <;> simp [IsKey] at h
  subst h
  exact ⟨_, rfl⟩⟩
abbrev rQ : Key Int := xB .i64
abbrev Ud : Key Int := xB .i32
def afA : Key ByteArray := ⟨.string, .string, fun _ => trivial, fun _ _ h => by cases h; rfl, fun v h => by
  cases v <;> simp [IsKey] at h
  exact ⟨_, rfl⟩⟩
section
variable {α : Type} {K : Key α} {f : α → Option Value} {es : Array MapEntry} {clock : Nat}
def CJ (K : Key α) (f : α → Option Value) (es : Array MapEntry) (clock : Nat) : Prop :=
  Stamped es clock ∧ (∀ x ∈ es.toList, IsKey K.d x.key) ∧ ∀ a v, f a = some v ↔ ∃ x ∈ es.toList, x.key = K.mk a ∧ x.val = v
def gy (K : Key α) (b : Nat) (f : α → Option Value) : HP := uf fun (x : Array MapEntry × Nat) => fact (CJ K f x.1 x.2) • dS b (.map x.1 x.2)
def upd [DecidableEq α] {β : Type} (f : α → Option β) (a : α) (v : β) : α → Option β := fun x => if x = a then some v else f x
theorem CJ.same (h : CJ K f es clock) {x y : MapEntry} (hx : x ∈ es.toList) (hy : y ∈ es.toList) (e : x.key = y.key) : x = y := by
  have hn := h.1.2.2
  rw [List.Nodup, List.pairwise_map] at hn
  exact zh hn hx hy e
where
  zh : ∀ {l : List MapEntry}, l.Pairwise (fun x y => x.key ≠ y.key) → ∀ {x y : MapEntry}, x ∈ l → y ∈ l → x.key = y.key → x = y
    | [], _, _, _, hx, _, _ => by cases hx
    | z :: l, hp, x, y, hx, hy, e => by
      rw [List.pairwise_cons] at hp
      rcases List.mem_cons.1 hx with hx1 | hx1
      · rcases List.mem_cons.1 hy with hy1 | hy1
        · rw [hx1, hy1]
        · exact absurd (by rw [← hx1]; exact e) (hp.1 _ hy1)
      · rcases List.mem_cons.1 hy with hy1 | hy1
        · exact absurd (by rw [← hy1]; exact e.symm) (hp.1 _ hx1)
        · exact zh hp.2 hx1 hy1 e
theorem Sz : ∀ {l : List MapEntry}, (l.map (·.born)).Nodup → ∀ {x y : MapEntry}, x ∈ l → y ∈ l → x.born = y.born → x = y
  | [], _, _, _, hx, _, _ => by cases hx
  | z :: l, hp, x, y, hx, hy, e => by
    rw [List.map_cons, List.nodup_cons] at hp
    rcases List.mem_cons.1 hx with hx1 | hx1
    · rcases List.mem_cons.1 hy with hy1 | hy1
      · rw [hx1, hy1]
      · exact absurd (List.mem_map.2 ⟨y, hy1, by rw [← hx1]; exact e.symm⟩) hp.1
    · rcases List.mem_cons.1 hy with hy1 | hy1
      · exact absurd (List.mem_map.2 ⟨x, hx1, by rw [← hy1]; exact e⟩) hp.1
      · exact Sz hp.2 hx1 hy1 e
theorem CJ.find (h : CJ K f es clock) (a : α) : (Instr.findNow K.d (K.mk a) es.toList 0 = some none ∧ f a = none ∧ ∀ x ∈ es.toList, x.key ≠ K.mk a) ∨
    ∃ j e, Instr.findNow K.d (K.mk a) es.toList 0 = some (some (j, e.val)) ∧ es.toList[j]? = some e ∧ e.key = K.mk a ∧ f a = some e.val := by
  rcases findNow_spec (K.key a) es.toList 0 h.2.1 with ⟨h1, h2⟩ | ⟨j, e, h1, h2, h3⟩
  · refine .inl ⟨h1, ?_, h2⟩
    cases hf : f a with
    | none => rfl
    | some v =>
      obtain ⟨x, hx, hk, _⟩ := (h.2.2 a v).1 hf
      exact absurd hk (h2 x hx)
  · refine .inr ⟨j, e, by simpa using h1, h2, h3, (h.2.2 a e.val).2 ⟨e, List.mem_of_getElem? h2, h3, rfl⟩⟩
theorem Oc (K : Key α) : CJ K (fun _ => none) #[] 0 := ⟨stamped_empty 0, by simp, by simp⟩
end
section
variable {α : Type} {K : Key α} {f : α → Option Value} {es : Array MapEntry} {clock : Nat} {P : Program} {L : List (Nat × Value)} {w w0 : World} {ty : TypeId} {x y z : Operand} {F : HP} {b it n : Nat} {a : α} {S : List α}
theorem V.map (H : V w0 w (gy K b f • F)) : ∃ es clock, CJ K f es clock ∧ V w0 w (dS b (.map es clock) • F) := by
  obtain ⟨⟨es, clock⟩, H⟩ := H.lZ
  obtain ⟨h, H⟩ := H.flat.fact
  exact ⟨es, clock, h, H⟩
theorem V.LZ (h : CJ K f es clock) (H : V w0 w (dS b (.map es clock) • F)) : V w0 w (gy K b f • F) := V.iV (es, clock) (V.deep (V.kR h H))
theorem Oe {t kt et : TypeId} {zv : Value} (ok : Bool) (h : CJ K f es clock) (hb : w.heap[b]? = some (.map es clock)) (ht : P.underlying t = some (.map kt et)) (hk : P.underlying kt = some K.d) (hz : (zeroValue et).run P w = .ok zv w) :
    (Instr.lookup t (.map (some b)) (K.mk a) ok).run P w = .ok (if ok then .tuple #[(f a).getD zv, .bool (f a).isSome] else (f a).getD zv) w := by
  rcases h.find a with ⟨h1, h2, _⟩ | ⟨j, e, h1, h2, h3, h4⟩
  · simp [Instr.lookup, run_underlying ht, MapKept.run_getObj_map hb, MapKept.run_checkKey hk (K.key a), MapKept.run_findKey hk h1, hz, Result.andThen, h2]
  · simp [Instr.lookup, run_underlying ht, MapKept.run_getObj_map hb, MapKept.run_checkKey hk (K.key a), MapKept.run_findKey hk h1, Result.andThen, h4]
theorem Og {t kt et : TypeId} {zv : Value} (H : V w0 w (gy K b f • F)) (ht : P.underlying t = some (.map kt et)) (hk : P.underlying kt = some K.d) (hz : ∀ w, (zeroValue et).run P w = .ok zv w)
    (hx : ev L x = some (.map (some b))) (hy : ev L y = some (K.mk a)) : Val P L (.lookup t x y false) ty w ((f a).getD zv) w := fun ρ hρ _ _ _ _ => by
  obtain ⟨es, clock, h, H⟩ := H.map
  simp only [execOp, hρ _ _ hx, hρ _ _ hy, Sem.run_bind]
  rw [Oe false h H.get.2 ht hk (hz w)]
  rfl
theorem AY {t kt et : TypeId} {zv : Value} (H : V w0 w (gy K b f • F)) (ht : P.underlying t = some (.map kt et)) (hk : P.underlying kt = some K.d) (hz : ∀ w, (zeroValue et).run P w = .ok zv w)
    (hx : ev L x = some (.map (some b))) (hy : ev L y = some (K.mk a)) : Val P L (.lookup t x y true) ty w (.tuple #[(f a).getD zv, .bool (f a).isSome]) w := fun ρ hρ _ _ _ _ => by
  obtain ⟨es, clock, h, H⟩ := H.map
  simp only [execOp, hρ _ _ hx, hρ _ _ hy, Sem.run_bind]
  rw [Oe true h H.get.2 ht hk (hz w)]
  rfl
theorem jX {t : TypeId} (K : Key α) (H : V w0 w F) : uZ P L (.makeMap t none) ty w fun v w' => ∃ b, v = .map (some b) ∧ V w0 w' (gy K b (fun _ => none) • F) := by
  refine wX (v := .map (some w.heap.size)) (w' := w.alloc (.map #[] 0)) ?_ ⟨_, rfl, V.LZ (Oc K) (H.alloc _)⟩
  intro ρ hρ d pos nV g
  simp only [execOp, Sem.run_bind, Option.map_none]
  rfl
theorem Oh {o : Obj} {b : Nat} (h : w.heap[b]? = some o) (o' : Obj) : ({ w with heap := w.heap.setIfInBounds b o' } : World).heap[b]? = some o' ∧ ∀ k, k ≠ b → ({ w with heap := w.heap.setIfInBounds b o' } : World).heap[k]? = w.heap[k]? := by
  have hlt := lt_of_block h
  exact ⟨by simp [hlt], fun k hk => by simp [Ne.symm hk]⟩
theorem V.setB {o : Obj} (H : V w0 w (dS b o • F)) (o' : Obj) : V w0 (ChangeMaps.setBlock w b o') (dS b o' • F) :=
  V.turn (w := w) (w' := ChangeMaps.setBlock w b o') H rfl rfl rfl (by simp [ChangeMaps.setBlock]) (Oh H.get.2 o').1 fun k hk _ => (Oh H.get.2 o').2 k hk
theorem vI [DecidableEq α] {t kt et : TypeId} {v : Value} (H : V w0 w (gy K b f • F)) (ht : P.underlying t = some (.map kt et)) (hk : P.underlying kt = some K.d)
    (hx : ev L x = some (.map (some b))) (hy : ev L y = some (K.mk a)) (hz : ev L z = some v) : uZ P L (.mapUpdate t x y z) ty w fun _ w' => V w0 w' (gy K b (upd f a v) • F) := by
  obtain ⟨es, clock, h, H⟩ := H.map
  have hb := H.get.2
  rcases h.find a with ⟨h1, h2, h3⟩ | ⟨j, e, h1, h2, h3, h4⟩
  · have hrun : (Instr.mapUpdate t (.map (some b)) (K.mk a) v).run P w = .ok () (ChangeMaps.setBlock w b (.map (es.push { key := K.mk a, val := v, born := clock }) (clock + 1))) := by
      simp [ChangeMaps.setBlock, Instr.mapUpdate, run_underlying ht, MapKept.run_getObj_map hb, MapKept.run_checkKey hk (K.key a), MapKept.run_findKey hk h1, MapKept.run_setObj_map _ hb, Result.andThen]
    refine GI (w' := ChangeMaps.setBlock w b (.map (es.push { key := K.mk a, val := v, born := clock }) (clock + 1))) (fun ρ hρ d pos nV g => ?_) (V.LZ (es := es.push { key := K.mk a, val := v, born := clock }) (clock := clock + 1) ⟨stamped_push h.1 h3, ?_, ?_⟩ (H.setB _))
    · simp only [execOp, hρ _ _ hx, hρ _ _ hy, hρ _ _ hz, Sem.run_bind]
      rw [hrun]; rfl
    · intro q hq
      simp only [Array.toList_push, List.mem_append, List.mem_singleton] at hq
      rcases hq with hq | rfl
      · exact h.2.1 q hq
      · exact K.key a
    · intro c u
      simp only [Array.toList_push, List.mem_append, List.mem_singleton, upd]
      by_cases hc : c = a
      · subst hc
        rw [if_pos rfl]
        constructor
        · intro hu; cases hu; exact ⟨_, .inr rfl, rfl, rfl⟩
        · rintro ⟨q, hq | rfl, hqk, Wi⟩
          · exact absurd hqk (h3 q hq)
          · rw [← Wi]
      · rw [if_neg hc, h.2.2 c u]
        constructor
        · rintro ⟨q, hq, hqk, Wi⟩; exact ⟨q, .inl hq, hqk, Wi⟩
        · rintro ⟨q, hq | rfl, hqk, Wi⟩
          · exact ⟨q, hq, hqk, Wi⟩
          · exact absurd (K.inj _ _ hqk).symm hc
  · have hj : es[j]? = some e := by simpa using h2
    have hrun : (Instr.mapUpdate t (.map (some b)) (K.mk a) v).run P w = .ok () (ChangeMaps.setBlock w b (.map (es.modify j fun e => { e with key := K.mk a, val := v }) clock)) := by
      simp [ChangeMaps.setBlock, Instr.mapUpdate, run_underlying ht, MapKept.run_getObj_map hb, MapKept.run_checkKey hk (K.key a), MapKept.run_findKey hk h1, hj, h3, MapKept.run_keyThatStays (K.key a), MapKept.run_setObj_map _ hb, Result.andThen]
    have hkey : ∀ e', es[j]? = some e' → ({ e' with key := K.mk a, val := v } : MapEntry).key = e'.key := fun e' he' => by rw [hj] at he'; cases he'; exact h3.symm
    have hst : Stamped (es.modify j fun e => { e with key := K.mk a, val := v }) clock := stamped_modify h.1 _ _ (fun _ _ => rfl) (fun e' _ he' => hkey e' he')
    have hmem : ∀ q, q ∈ (es.modify j fun e => { e with key := K.mk a, val := v }).toList ↔ (q = { e with key := K.mk a, val := v } ∨ q ∈ es.toList ∧ q.key ≠ K.mk a) := by
      intro q
      have hee : e ∈ es.toList := List.mem_of_getElem? h2
      constructor
      · intro hq
        obtain ⟨i, hi⟩ := List.getElem?_of_mem hq
        rw [Array.getElem?_toList, Array.getElem?_modify] at hi
        by_cases hij : j = i
        · subst hij
          rw [if_pos rfl, hj] at hi
          exact .inl (by simpa using hi.symm)
        · rw [if_neg hij] at hi
          have hqm : q ∈ es.toList := Array.mem_toList_iff.2 (Array.mem_of_getElem? hi)
          refine .inr ⟨hqm, fun hqk => ?_⟩
          have he : q = e := h.same hqm hee (hqk.trans h3.symm)
          subst he
          have hn := h.1.2.1
          have h5 : (es.toList.map (·.born))[i]? = some q.born := by rw [List.getElem?_map, Array.getElem?_toList, hi]; rfl
          have h6 : (es.toList.map (·.born))[j]? = some q.born := by rw [List.getElem?_map, h2]; rfl
          have hlt : i < (es.toList.map (·.born)).length := (List.getElem?_eq_some_iff.1 h5).1
          have hlt2 : j < (es.toList.map (·.born)).length := (List.getElem?_eq_some_iff.1 h6).1
          exact hij ((List.getElem?_inj hlt2 hn).1 (h6.trans h5.symm))
      · rintro (rfl | ⟨hq, hqk⟩)
        · apply List.mem_of_getElem? (i := j)
          rw [Array.getElem?_toList, Array.getElem?_modify, if_pos rfl, hj]; rfl
        · obtain ⟨i, hi⟩ := List.getElem?_of_mem hq
          have hij : j ≠ i := by
            rintro rfl
            rw [h2] at hi; cases hi
            exact hqk h3
          apply List.mem_of_getElem? (i := i)
          rw [Array.getElem?_toList, Array.getElem?_modify, if_neg hij]
          rwa [Array.getElem?_toList] at hi
    refine GI (w' := ChangeMaps.setBlock w b (.map (es.modify j fun e => { e with key := K.mk a, val := v }) clock)) (fun ρ hρ d pos nV g => ?_) (V.LZ (es := es.modify j fun e => { e with key := K.mk a, val := v }) (clock := clock) ⟨hst, isKey_modify h.2.1 _ _ hkey, ?_⟩ (H.setB _))
    · simp only [execOp, hρ _ _ hx, hρ _ _ hy, hρ _ _ hz, Sem.run_bind]
      rw [hrun]; rfl
    · intro c u
      simp only [hmem, upd]
      by_cases hc : c = a
      · subst hc
        rw [if_pos rfl]
        constructor
        · intro hu; cases hu; exact ⟨_, .inl rfl, rfl, rfl⟩
        · rintro ⟨q, rfl | ⟨hq, hqn⟩, hqk, Wi⟩
          · rw [← Wi]
          · exact absurd hqk hqn
      · rw [if_neg hc, h.2.2 c u]
        constructor
        · rintro ⟨q, hq, hqk, Wi⟩
          exact ⟨q, .inr ⟨hq, fun hqa => hc (K.inj _ _ (hqk.symm.trans hqa))⟩, hqk, Wi⟩
        · rintro ⟨q, rfl | ⟨hq, hqn⟩, hqk, Wi⟩
          · exact absurd (K.inj _ _ hqk).symm hc
          · exact ⟨q, hq, hqk, Wi⟩
def aaO (K : Key α) (f : α → Option Value) (es : Array MapEntry) (clock : Nat) (seen : Array Nat) (S : List α) (n : Nat) : Prop :=
  CJ K f es clock ∧ (∃ xs : List MapEntry, (∀ x ∈ xs, x ∈ es.toList) ∧ seen.toList = xs.map (·.born) ∧ xs.map (·.key) = S.map K.mk) ∧ (leftOf es seen).size = n
def CO (K : Key α) (b it : Nat) (f : α → Option Value) (S : List α) (n : Nat) : HP := uf fun (x : Array MapEntry × Nat × Array Nat) => fact (aaO K f x.1 x.2.1 x.2.2 S n) • dS it (.mapIter (some b) x.2.1 x.2.2 x.2.1) • dS b (.map x.1 x.2.1)
theorem V.Wj (H : V w0 w (CO K b it f S n • F)) : ∃ es clock seen, aaO K f es clock seen S n ∧ V w0 w (dS it (.mapIter (some b) clock seen clock) • dS b (.map es clock) • F) := by
  obtain ⟨⟨es, clock, seen⟩, H⟩ := H.lZ
  obtain ⟨h, H⟩ := H.flat.fact
  exact ⟨es, clock, seen, h, H.flat⟩
theorem V.Ii {seen : Array Nat} (h : aaO K f es clock seen S n) (H : V w0 w (dS it (.mapIter (some b) clock seen clock) • dS b (.map es clock) • F)) : V w0 w (CO K b it f S n • F) :=
  V.iV (es, clock, seen) (V.deep (V.kR h (H.of_eq (by ac_rfl))))
theorem V.EN (H : V w0 w (CO K b it f S n • F)) : V w0 w (gy K b f • F) := by
  obtain ⟨es, clock, seen, h, H⟩ := H.Wj
  exact V.LZ h.1 H.right
theorem AZ {t kt et : TypeId} (H : V w0 w (gy K b f • F)) (ht : P.underlying t = some (.map kt et)) (hx : ev L x = some (.map (some b))) :
    uZ P L (.range t x) ty w fun v w' => ∃ it n, v = .pointer (some ⟨it, 0, none⟩) ∧ V w0 w' (CO K b it f [] n • F) := by
  obtain ⟨es, clock, h, H⟩ := H.map
  refine wX (v := .pointer (some ⟨w.heap.size, 0, none⟩)) (w' := w.alloc (.mapIter (some b) clock #[] clock)) ?_ ⟨_, _, rfl, V.Ii ⟨h, ⟨[], by simp, rfl, rfl⟩, rfl⟩ (H.alloc _)⟩
  intro ρ hρ d pos nV g
  simp only [execOp, hρ _ _ hx, Sem.run_bind]
  rw [run_range_map w t kt et b es clock ht H.get.2]
  rfl
def nxV (K : Key α) : Option (α × Value) → Value
  | some (a, u) => .tuple #[.bool true, K.mk a, u]
  | none => .tuple #[.bool false]
def adP (f : α → Option Value) (S : List α) (n : Nat) (S' : List α) (n' : Nat) : Option (α × Value) → Prop
  | some (a, u) => f a = some u ∧ a ∉ S ∧ n' < n ∧ S' = S ++ [a]
  | none => S' = S ∧ n' = n ∧ ∀ a u, f a = some u → a ∈ S
theorem YT {es : Array MapEntry} {seen : Array Nat} {e : MapEntry} (he : e ∈ (leftOf es seen).toList) : (leftOf es (seen.push e.born)).size < (leftOf es seen).size := by
  unfold leftOf at *
  rw [Array.toList_filter, List.mem_filter] at he
  have e1 : ∀ q : MapEntry → Bool, (es.filter q).size = (es.toList.filter q).length := fun q => by rw [← Array.toList_filter, Array.length_toList]
  rw [e1, e1]
  refine filter_lt _ _ (fun x hx => ?_) e he.2 ?_ es.toList he.1
  · simp only [Bool.not_eq_true', Array.contains_push, Bool.or_eq_false_iff] at hx ⊢
    exact hx.1
  · simp
theorem Dh (H : V w0 w (CO K b it f S n • F)) (hx : ev L x = some (.pointer (some ⟨it, 0, none⟩))) :
    uZ P L (.next x false) ty w fun v w' => ∃ o S' n', v = nxV K o ∧ adP f S n S' n' o ∧ V w0 w' (CO K b it f S' n' • F) := by
  obtain ⟨es, clock, seen, ⟨hm, ⟨xs, hxs, hse, hS⟩, hn⟩, H⟩ := H.Wj
  have hr := H.get.2
  have hb := H.swap.get.2
  rcases run_next_at (P := P) w ty it b clock clock seen es clock hr hb hm.1.1 (Nat.le_refl _) with ⟨h0, hrun⟩ | ⟨e, he, w1, hw1, hrun⟩
  · refine wX (v := nxV K none) (w' := w) (fun ρ hρ d pos nV g => ?_) ⟨none, S, n, rfl, ⟨rfl, rfl, fun a u ha => ?_⟩, V.Ii ⟨hm, ⟨xs, hxs, hse, hS⟩, hn⟩ H⟩
    · simp only [execOp, hρ _ _ hx, Sem.run_bind]
      rw [hrun]; rfl
    · obtain ⟨y, hy, hyk, _⟩ := (hm.2.2 a u).1 ha
      have hys : seen.contains y.born = true := by
        cases hc : seen.contains y.born with
        | true => rfl
        | false =>
          have hyl : y ∈ (leftOf es seen).toList := by unfold leftOf; rw [Array.toList_filter, List.mem_filter]; exact ⟨hy, by rw [hc]; rfl⟩
          have := List.length_pos_of_mem hyl
          rw [Array.length_toList] at this
          omega
      have acs : y.born ∈ seen.toList := by simpa using hys
      rw [hse] at acs
      obtain ⟨q, hq, hqb⟩ := List.mem_map.1 acs
      have hqy : q = y := Sz hm.1.2.1 (hxs q hq) hy hqb
      subst hqy
      have : K.mk a ∈ S.map K.mk := by rw [← hS]; exact List.mem_map.2 ⟨q, hq, hyk⟩
      obtain ⟨c, hc, hce⟩ := List.mem_map.1 this
      rw [← K.inj _ _ hce]; exact hc
  · have hel : e ∈ es.toList ∧ seen.contains e.born = false := by
      have := he
      unfold leftOf at this
      rw [Array.toList_filter, List.mem_filter] at this
      exact ⟨this.1, by simpa using this.2⟩
    obtain ⟨a, ha⟩ := K.onto e.key (hm.2.1 e hel.1)
    have hfa : f a = some e.val := (hm.2.2 a e.val).2 ⟨e, hel.1, ha.symm, rfl⟩
    have hns : a ∉ S := fun hs => by
      have : K.mk a ∈ S.map K.mk := List.mem_map.2 ⟨a, hs, rfl⟩
      rw [← hS] at this
      obtain ⟨q, hq, hqk⟩ := List.mem_map.1 this
      have hqe : q = e := hm.same (hxs q hq) hel.1 (hqk.trans ha)
      subst hqe
      have h9 : q.born ∈ seen.toList := by rw [hse]; exact List.mem_map.2 ⟨q, hq, rfl⟩
      have h8 : seen.contains q.born = true := by simpa using h9
      rw [hel.2] at h8; cases h8
    have hval : Val P L (.next x false) ty w (nxV K (some (a, e.val))) (ChangeMaps.setBlock w1 it (.mapIter (some b) clock (seen.push e.born) clock)) := fun ρ hρ d pos nV g => by
      simp only [execOp, hρ _ _ hx, Sem.run_bind]
      rw [hrun]
      simp only [nxV, ha]
      rfl
    have hheap : w1.heap = w.heap := by rcases hw1 with rfl | rfl <;> rfl
    have hr1 : w1.heap[it]? = some (.mapIter (some b) clock seen clock) := by rw [hheap]; exact hr
    refine wX hval ⟨some (a, e.val), S ++ [a], (leftOf es (seen.push e.born)).size, rfl, ⟨hfa, hns, by rw [← hn]; exact YT he, rfl⟩, V.Ii (seen := seen.push e.born) ⟨hm, ⟨xs ++ [e], ?_, ?_, ?_⟩, rfl⟩ (V.setB (w := w1) (o := .mapIter (some b) clock seen clock) ?_ _)⟩
    · intro q hq
      rcases List.mem_append.1 hq with hq | hq
      · exact hxs q hq
      · rw [List.mem_singleton.1 hq]; exact hel.1
    · rw [Array.toList_push, hse, List.map_append]; rfl
    · rw [List.map_append, List.map_append, hS]; simp [ha]
    · rcases hw1 with rfl | rfl
      · exact H
      · exact H.drew
theorem Wn {o : Option (α × Value)} (hx : ev L x = some (nxV K o)) : Val P L (.extract x 0) ty w (.bool o.isSome) w := by
  cases o with
  | none => exact ng hx rfl
  | some p => obtain ⟨a, u⟩ := p; exact ng hx rfl
theorem L6 {u : Value} (H : V w0 w (CO K b it f (S ++ [a]) n • F)) (hf : f a = some u) (hx : ev L x = some (.pointer (some ⟨it, 0, none⟩))) : Val P L (.entry x) ty w (.tuple #[K.mk a, u]) w := by
  obtain ⟨es, clock, seen, ⟨hm, ⟨xs, hxs, hse, hS⟩, hn⟩, H⟩ := H.Wj
  intro ρ hρ d pos nV g
  have hne : xs ≠ [] := by
    rintro rfl
    have := congrArg List.length hS
    simp at this
  obtain ⟨ys, e, rfl⟩ : ∃ ys e, xs = ys ++ [e] := ⟨xs.dropLast, xs.getLast hne, (List.dropLast_concat_getLast hne).symm⟩
  have he : e ∈ es.toList := hxs e (by simp)
  have hk : e.key = K.mk a := by
    rw [List.map_append, List.map_append] at hS
    have := List.append_inj_right' hS rfl
    simpa using this
  have hv : e.val = u := by
    have h9 := (hm.2.2 a e.val).2 ⟨e, he, hk, rfl⟩
    rw [hf] at h9; cases h9; rfl
  have hsp : seen = (ys.map (·.born)).toArray.push e.born := by
    apply Array.ext'
    rw [hse]; simp
  have hr := H.get.2
  rw [hsp] at hr
  simp only [execOp, hρ _ _ hx, Sem.run_bind]
  rw [run_entry_at w it b clock _ es clock e hr H.swap.get.2 he hm.1.2.1, hk, hv]
  rfl
end
end Go.Proofs.YtpdeedplgmbopaaGreatDoor
end
