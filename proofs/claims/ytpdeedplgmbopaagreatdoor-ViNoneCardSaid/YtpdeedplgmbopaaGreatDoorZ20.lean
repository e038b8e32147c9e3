import Derived.Test.YtpdeedplgmbopaaGreatDoorZ4
import Derived.Test.YtpdeedplgmbopaaGreatDoorZ19
import Derived.Test.YtpdeedplgmbopaaGreatDoorCards
import Derived.Test.YtpdeedplgmbopaaGreatDoorZ5
import Derived.SevenTiedAt
set_option linter.unusedSimpArgs false
set_option linter.unusedVariables false
/- ViNone in its first form, as the card states it, for whatever the program's variables hold as its text lays them. No condition beside the form's own.
Texts of mine, joined, their names in short: LawVNone HasVNone. -/
section
namespace Go.Proofs.YtpdeedplgmbopaaGreatDoor
open Go.RowKit
open _root_.Go.Proofs.Tryz
def YL : List Value := [.pointer none, .pointer none, .pointer none, .map none, .int .i64 0, .bool false, .int .i64 0, .int .i64 0, .int .i64 0, .int .i64 0, .bool false, .pointer none, .pointer none, .bool false, .bool false, .int .i64 0, .bool false, .pointer none, .pointer none, .pointer none, .map none, .int .i64 0, .bool false, .int .i64 0, .int .i64 0, .int .i64 0, .int .i64 0, .bool false, .int .i64 0, .bool false, .bool false, .bool false, .bool false, .slice none 0 0]
theorem YM {w : World} {name : ByteArray} {kv tv : Value} {a b : Int} (hT : yG w) (hr1 : kv.oneCell' = true) (hr2 : tv.oneCell' = true) :
    gI prog 10 #[.agg #[.string name, kv, tv, .int .i64 a, .int .i64 b]] w fun v w' => v = .bool true ∧ Below w.heap.size w w' := by
  obtain ⟨F, H⟩ : ∃ F, V w w F := ⟨_, V.start w⟩
  refine gG func10 ntmps10 ?_
  refine iE (jr (iD (l := [_, _, _, _, _]) H O O) ?_)
  rintro _ w1 ⟨b1, rfl, H1⟩
  refine gJ O (iE (dS O func34 (wG H1 (l := [97]) (by kernel_rfl) (by decide)) ?_))
  rintro u2 w2 H2
  refine dS O func21 (JO H2 (fun W HW => (HW).aS)) ?_
  rintro _ w3 ⟨e3, y3, rfl, H3⟩
  have Hd4 := H3.f2.right
  refine bQ O (rG O O (rG O O (rG O O (fU O (fU O (vk O (bP O (aV (lY O) (QA O (fun h1 => ?_))))))))))
  (try simp only [Z] at h1)
  refine bC (dS O func13 (TU Hd4 hT) ?_)
  rintro _ w5 ⟨rfl, H5⟩
  refine bC (aV (lY O) (iM O O (iJ (Jk O (fun h2 => ?_)))))
  (try simp only [Z] at h2)
  refine fZ (jg O (bP O (dS O func35 (Qv) ?_)))
  rintro _ _ rfl
  refine qH O (dS O func36 (Ox) ?_)
  rintro _ _ ⟨rfl, rfl⟩
  refine bQ O (rG O O (rG O O (fU O (gJ O (bP O (dS O func37 (TV) ?_))))))
  rintro _ _ ⟨rfl, rfl⟩
  refine bQ O (rG O O (rG O O (fU O (vk O (bP O (bQ O (bD 0 underlying44 O lN O (fG iW O (H5.f3).get.2 O (bD 1 underlying44 O dH O (fG aB O (H5.f3).get.2 O (dS O func24 (YK) ?_)))))))))))
  rintro _ _ ⟨rfl, rfl⟩
  refine aV (iO O O) (QA O (fun h3 => ?_))
  (try simp only [Z] at h3)
  refine bC (bQ O (bC (aV (DI O O) (iM O O (QA O (fun h4 => ?_))))))
  (try simp only [Z] at h4)
  refine bC (bQ O (bC (aV (ny aB O) (bC (aV (iO O O) (iM O O (QA O (fun h5 => ?_))))))))
  (try simp only [Z] at h5)
  refine bC (bQ O (bC (aV (iO O O) (iM O O (QA O (fun h6 => ?_))))))
  (try simp only [Z] at h6)
  refine bC (bQ O (bC (aV (iO O O) (iM O O (QA O (fun h7 => ?_))))))
  (try simp only [Z] at h7)
  refine bC (bQ O (bC (dS O func38 (Qw) ?_)))
  rintro _ _ ⟨rfl, rfl⟩
  refine bC (aV (FC lG O O) (iM O O (iJ (Jk O (fun h8 => ?_)))))
  (try simp only [Z] at h8)
  refine fZ (iE (dS O func22 (GN H5) ?_))
  rintro _ DU ⟨m11, rfl, qo⟩
  refine gJ O (bP O (bD 0 underlying44 O lN O (fG iW O (qo.f4).get.2 O (bD 1 underlying44 O dH O (fG aB O (qo.f4).get.2 O (dS O func24 (Ov qo.f2.right.f2.right.f2.f2 (fun G W HW => Ot)) ?_))))))
  rintro _ _ ⟨rfl, rfl⟩
  refine aV (dV O O) (xsE O (fun h9 => ?_))
  (try simp only [Z] at h9)
  refine bC (bQ O (bC (aV (dP (zl := [.pointer none, .pointer none, .pointer none, .map none, .int .i64 0, .bool false, .int .i64 0, .int .i64 0, .int .i64 0, .int .i64 0, .bool false, .pointer none, .pointer none, .bool false, .bool false, .int .i64 0, .bool false, .pointer none, .pointer none, .pointer none, .map none, .int .i64 0, .bool false, .int .i64 0, .int .i64 0, .int .i64 0, .int .i64 0, .bool false, .int .i64 0, .bool false, .bool false, .bool false, .bool false, .slice none 0 0]) (pl := [(0, 11), (11, 1), (12, 1), (13, 1), (14, 1), (15, 1), (16, 1), (17, 11), (28, 1), (29, 1), (30, 1), (31, 1), (32, 1), (33, 1)]) [_, _, _, _, _, _, _, _, _, _, _, _, _, _, _, _, _, _, _, _, _, _, _, _, _, _, _, _, _, _, _, _, _, _] ah zeroValue82 O (fun w => by kernel_rfl) O (.zero (zs := [.pointer none, .pointer none, .pointer none, .map none, .int .i64 0, .bool false, .int .i64 0, .int .i64 0, .int .i64 0, .int .i64 0, .bool false]) O (.zero (zs := [.pointer none]) O (.zero (zs := [.pointer none]) O (.zero (zs := [.bool false]) O (.zero (zs := [.bool false]) O (.zero (zs := [.int .i64 0]) O (.zero (zs := [.bool false]) O (.zero (zs := [.pointer none, .pointer none, .pointer none, .map none, .int .i64 0, .bool false, .int .i64 0, .int .i64 0, .int .i64 0, .int .i64 0, .bool false]) O (.zero (zs := [.int .i64 0]) O (.zero (zs := [.bool false]) O (.zero (zs := [.bool false]) O (.zero (zs := [.bool false]) O (.zero (zs := [.bool false]) O (.zero (zs := [.slice none 0 0]) O .nil)))))))))))))) O) (bC (jr (iD (l := [_, _, _, _, _, _, _, _, _, _, _, _, _, _, _, _, _, _, _, _, _, _, _, _, _, _, _, _, _, _, _, _, _, _]) qo O O) ?_)))))
  rintro _ Oz ⟨b13, rfl, uS⟩
  refine bC (bD 0 underlying44 O lN O (bC (fG iW O (uS.f5).get.2 O (bC (bD 1 underlying44 O dH O (bC (fG aB O (uS.f5).get.2 O (bC (dS O func24 (Ov (F := dK b13 (.cells YL.toArray 82 (0, 0)) • F) uS.f3.right.f3.right.f3.f3 (fun G W HW => Qu HW.swap O)) ?_)))))))))
  rintro _ _ ⟨rfl, rfl⟩
  refine bC ?_
  refine aV (Jf (dV O O) (by rfl)) ?_
  refine jF O O (eY O (dG results10 O ?_))
  exact ⟨O, uS.base⟩
end Go.Proofs.YtpdeedplgmbopaaGreatDoor
end
section
set_option maxRecDepth 100000
namespace Go.Proofs.YtpdeedplgmbopaaGreatDoor
open Go.ChangeShapes Go.WideShapes Go.ChangeAt Go.RowKit
theorem Xd {H : Type} {enc : TypeId × Value → H} {W : World} {B : Nat} {cs : List Value} (h : BU B enc Tryz.prog W 44 cs) : ∃ x0 v1 x1 v2 x2 x3 x4, cs = [.string x0, v1, v2, .int .i64 x3, .int .i64 x4] ∧ x0.size ≤ B ∧ (fP W .i32 v1 x1 ∧ x1.length * 4 ≤ B ∧ ∀ n ∈ x1, (Lit.int .i32 n).wf = true) ∧ (fP W .i32 v2 x2 ∧ x2.length * 4 ≤ B ∧ ∀ n ∈ x2, (Lit.int .i32 n).wf = true) ∧ (Lit.int .i64 x3).wf = true ∧ (Lit.int .i64 x4).wf = true := by
  obtain ⟨hl, hf⟩ := h.struct Tryz.underlying44
  rw [show Tryz.prog.cellsOf 44 = 5 from by kernel_rfl] at hl
  match cs, hl with
  | [c0, c1, c2, c3, c4], _ =>
    have h0 : BU B enc Tryz.prog W 9 (([c0, c1, c2, c3, c4].drop 0).take (Tryz.prog.cellsOf 9)) := hf 0 _ rfl
    rw [show Tryz.prog.cellsOf 9 = 1 from by kernel_rfl] at h0
    obtain ⟨x0, e0, w0⟩ := h0.string Tryz.underlying9
    have h1 : BU B enc Tryz.prog W 22 (([c0, c1, c2, c3, c4].drop 1).take (Tryz.prog.cellsOf 22)) := hf 1 _ rfl
    rw [show Tryz.prog.cellsOf 22 = 1 from by kernel_rfl] at h1
    obtain ⟨v1, x1, e1, g1, b1, w1⟩ := h1.ints Tryz.underlying22 Tryz.underlying21 (by kernel_rfl)
    rw [show Tryz.prog.bytesOf 21 = 4 from by kernel_rfl] at b1
    have h2 : BU B enc Tryz.prog W 22 (([c0, c1, c2, c3, c4].drop 2).take (Tryz.prog.cellsOf 22)) := hf 2 _ rfl
    rw [show Tryz.prog.cellsOf 22 = 1 from by kernel_rfl] at h2
    obtain ⟨v2, x2, e2, g2, b2, w2⟩ := h2.ints Tryz.underlying22 Tryz.underlying21 (by kernel_rfl)
    rw [show Tryz.prog.bytesOf 21 = 4 from by kernel_rfl] at b2
    have h3 : BU B enc Tryz.prog W 3 (([c0, c1, c2, c3, c4].drop 3).take (Tryz.prog.cellsOf 3)) := hf 3 _ rfl
    rw [show Tryz.prog.cellsOf 3 = 1 from by kernel_rfl] at h3
    obtain ⟨x3, e3, w3⟩ := h3.int Tryz.underlying3
    have h4 : BU B enc Tryz.prog W 3 (([c0, c1, c2, c3, c4].drop 4).take (Tryz.prog.cellsOf 3)) := hf 4 _ rfl
    rw [show Tryz.prog.cellsOf 3 = 1 from by kernel_rfl] at h4
    obtain ⟨x4, e4, w4⟩ := h4.int Tryz.underlying3
    simp only [List.drop, List.take, List.cons.injEq, and_true] at e0 e1 e2 e3 e4
    exact ⟨x0, v1, x1, v2, x2, x3, x4, by simp_all, w0, ⟨g1, b1, w1⟩, ⟨g2, b2, w2⟩, w3, w4⟩
set_option maxRecDepth 100000 in
theorem Jb (os : Os) (started : os.Started) (H : Type) (enc : TypeId × Value → H) :
    ReturnsInHanded {} Tryz.checked os 10 .any (fun w args => (Rows.viNoneSpec.pre enc Tryz.prog Tryz.f10 Rows.viNoneRow.domain false w args ∧ laidMetH Tryz.prog QE w) ∧ sizedMet enc Tryz.prog Tryz.f10 (OpenSpec.ofChange Rows.viNoneSpec) false w args) (Rows.viNoneSpec.post enc Tryz.prog Tryz.f10 false true false false) := by
  refine Ij (C := Tryz.checked) (tb := 4) _ own laid started (by kernel_rfl) Tryz.func10 (congrArg Array.toList Tryz.params10) rfl Tryz.underlying4 rfl (by kernel_rfl) (fun ds hd => ?_)
    (ChangeSpec.witness_shaped (enc := enc) (C := Tryz.checked) (os := os) (X := fun w _ => laidMetH Tryz.prog QE w) false (World.doorLaid Tryz.prog 400 os) #[.agg #[.string ⟨#[]⟩, .slice none 0 0, .slice none 0 0, .int .i64 0, .int .i64 0]] 8 rfl (World.shaped_of_RefB (by kernel_rfl) (by kernel_rfl)) (by kernel_rfl) (by kernel_rfl) (by kernel_rfl) (Uw os _)) ?_
  · obtain ⟨a0, rfl⟩ := XD hd
    rfl
  intro W args hL hin
  have hT := XH hL
  obtain ⟨v1, rfl, ⟨_, o1⟩, i1⟩ := hin.one
  obtain ⟨cs, rfl, -⟩ := okWide_struct Tryz.underlying44 o1
  obtain ⟨name, kv, keys, tv, typ, a, b, e, -, ⟨g1, -, -⟩, ⟨g2, -, -⟩, -, -⟩ := Xd i1
  obtain rfl : cs = #[.string name, kv, tv, .int .i64 a, .int .i64 b] := Array.ext' e
  exact YM hT (Rd.one g1) (Rd.one g2)
theorem Jc : Rows.ViNoneSaid :=
  OpenClaim.holds_of_wide 10 Tryz.f10 rfl rfl rfl rfl rfl rfl rfl ⟨rfl, rfl, rfl, rfl, rfl⟩ rfl rfl rfl rfl rfl (by kernel_rfl) Tryz.func10 (by kernel_rfl)
    (of_decide_eq_true (by kernel_rfl)) (by unfold Func.isWrapper; first | (rw [if_pos (by decide +kernel)]; kernel_rfl) | (rw [if_neg (by decide +kernel)]; exact ⟨rfl, rfl⟩))
    (fun os started H enc _ => Jb os started H enc)
theorem viNone_card : Rows.ViNoneCardSaid :=
  Claim7.holds_tied_plain_at .later [] [.widerDeep, .widerDeep] true (true, "99a5bb9fd978799d876f5c744ef21e54f7b6a4f05c2918ab827c141780b2be91") false
    Jc (fun _ h => by cases h) (by kernel_rfl) (fun _ h => by cases h) viNone_row_tie rfl ⟨rfl, rfl⟩ (by kernel_rfl) rfl
    (fun f fn hf hfn => by
      obtain rfl : f = 10 := Option.some.inj ((show Tryz.prog.funcNamed "lanyard/lanyardlaw19.ViNone" = some 10 by kernel_rfl).symm.trans hf) |>.symm
      obtain rfl : fn = Tryz.f10 := (Option.some.inj (Tryz.func10.symm.trans hfn)).symm
      exact ⟨by kernel_rfl, fun j t ht => by
        rw [Tryz.params10] at ht
        have hm : t ∈ [44] := by simpa using Array.mem_of_getElem? ht
        have hall : ([44].all fun u => !Tryz.prog.wantsStandIn u) = true := by kernel_rfl
        exact (show Tryz.prog.wantsStandIn t = false by simpa using List.all_eq_true.1 hall t hm)⟩)
    (by kernel_rfl)
end Go.Proofs.YtpdeedplgmbopaaGreatDoor
end
