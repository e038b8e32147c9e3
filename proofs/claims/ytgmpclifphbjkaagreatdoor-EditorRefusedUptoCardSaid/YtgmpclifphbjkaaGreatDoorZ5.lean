import Derived.Test.YtgmpclifphbjkaaGreatDoorZ2
import Derived.Test.YtgmpclifphbjkaaGreatDoorZ3
import Derived.Test.YtgmpclifphbjkaaGreatDoorZ4
import Derived.Test.YtgmpclifphbjkaaGreatDoorProg
set_option linter.unusedSimpArgs false
set_option linter.unusedVariables false
/- Texts of mine, joined, their names in short: ELaidU CmdIn Equal Slices Buf Buf2. -/
section
set_option maxRecDepth 100000
namespace Go.Proofs.YtgmpclifphbjkaaGreatDoor
open Go.ChangeShapes Go.WideShapes Go.ChangeAt Go.RowKit
theorem Xh : Tryz.prog.globalNamed "unicode/utf8.first" = some 0 := by kernel_rfl
theorem aaw : Tryz.prog.globalNamed "unicode/utf8.acceptRanges" = some 1 := by kernel_rfl
theorem Xi : (Tryz.prog.globals[0]?).map (·.type) = some 229 := by kernel_rfl
theorem aax : (Tryz.prog.globals[1]?).map (·.type) = some 233 := by kernel_rfl
def GV : List (Int × Int) := [(128, 191), (160, 191), (128, 159), (144, 191), (128, 143), (0, 0), (0, 0), (0, 0), (0, 0), (0, 0), (0, 0), (0, 0), (0, 0), (0, 0), (0, 0), (0, 0)]
def Oy (x : Int × Int) : DataW Unit := .agg [.lit (.int .u8 x.1), .lit (.int .u8 x.2)]
def qU (T : List (Int × Int)) : List Value := T.flatMap fun x => [.int .u8 x.1, .int .u8 x.2]
theorem GX (T : List (Int × Int)) (k : Nat) (h : k < T.length) : (qU T).getD (k * 2) undef = .int .u8 (T.getD k (0, 0)).1 ∧ (qU T).getD (k * 2 + 1) undef = .int .u8 (T.getD k (0, 0)).2 := by
  induction T generalizing k with
  | nil => simp at h
  | cons x r ih =>
    cases k with
    | zero => exact ⟨rfl, rfl⟩
    | succ k =>
      have := ih k (by simpa using h)
      rw [show (k + 1) * 2 = k * 2 + 2 from by omega, show k * 2 + 2 + 1 = (k * 2 + 1) + 2 from by omega]
      simpa [qU, List.getD_eq_getElem?_getD] using this
theorem JU (T : List (Int × Int)) : (qU T).length = T.length * 2 := by
  induction T with
  | nil => rfl
  | cons x r ih => simp only [qU, List.flatMap_cons, List.length_append] at *; simp [ih]; omega
section
variable {enc : TypeId × Value → Unit} {w : World} {base : Nat} {spare : Nat → Bool} {held : Bool} {fuel : Nat} {ps : List MemPlace}
theorem Vd {cs : List Value} {x : Int × Int} (h : DataW.trod enc Tryz.prog w base spare held fuel 232 cs = some (Oy x, ps)) : cs = [.int .u8 x.1, .int .u8 x.2] := by
  obtain ⟨xs, n, -, hx, hl, hl2, hf⟩ := DataW.trod_struct Tryz.underlying232 h
  rw [show Tryz.prog.cellsOf 232 = 2 from by kernel_rfl] at hl
  simp only [Prod.mk.injEq, Oy, DataW.agg.injEq] at hx
  match xs, hl2, hx, cs, hl with
  | [y0, y1], _, hx, [c0, c1], _ =>
    have h0 : DataW.trod enc Tryz.prog w base spare held n 5 (([c0, c1].drop 0).take (Tryz.prog.cellsOf 5)) = some y0 := hf 0 _ rfl
    have h1 : DataW.trod enc Tryz.prog w base spare held n 5 (([c0, c1].drop 1).take (Tryz.prog.cellsOf 5)) = some y1 := hf 1 _ rfl
    simp only [List.map_cons, List.map_nil, List.cons.injEq] at hx
    obtain ⟨n0, e0, d0, -⟩ := DataW.trod_int Tryz.underlying5 h0
    obtain ⟨n1, e1, d1, -⟩ := DataW.trod_int Tryz.underlying5 h1
    rw [show Tryz.prog.cellsOf 5 = 1 from by kernel_rfl] at e0 e1
    simp at e0 e1
    rw [d0, d1] at hx
    simp at hx
    subst e0; subst e1
    rw [hx.1.1, hx.1.2]
theorem Ve {t n : Nat} {cs : List Value} {T : List (Int × Int)} (ht : Tryz.prog.underlying t = some (.array n 232)) (hc : Tryz.prog.cellsOf t = n * 2) (h : DataW.trod enc Tryz.prog w base spare held fuel t cs = some (.agg (T.map Oy), ps)) : cs = qU T := by
  obtain ⟨xs, m, -, hx, hl, hl2, hel⟩ := DataW.trod_array ht h
  simp only [Prod.mk.injEq, DataW.agg.injEq] at hx
  rw [hc] at hl
  have hTn : T.length = n := by have := congrArg List.length hx.1; simpa [hl2] using this
  have hv := JU T
  apply List.ext_getElem?
  intro j
  by_cases hj : j < n * 2
  · have hk : j / 2 < n := by omega
    have h1 := hel (j / 2) hk
    rw [show Tryz.prog.cellsOf 232 = 2 from by kernel_rfl, List.getElem?_eq_getElem (by omega)] at h1
    have h2 : xs[j / 2].1 = Oy (T.getD (j / 2) (0, 0)) := by
      have := congrArg (fun l => l[j / 2]?) hx.1
      simp [List.getElem?_eq_getElem (show j / 2 < T.length by omega), List.getElem?_eq_getElem (show j / 2 < xs.length by omega)] at this
      rw [List.getD_eq_getElem?_getD, List.getElem?_eq_getElem (show j / 2 < T.length by omega), Option.getD_some, this]
    have h3 := Vd (x := T.getD (j / 2) (0, 0)) (ps := xs[j / 2].2) (by rw [h1, ← h2])
    obtain ⟨e0, e1⟩ := GX T (j / 2) (by omega)
    have hq : (qU T)[j]? = some ((qU T).getD j undef) := by rw [List.getD_eq_getElem?_getD, List.getElem?_eq_getElem (by omega)]; rfl
    rw [hq]
    rcases (show j = j / 2 * 2 ∨ j = j / 2 * 2 + 1 by omega) with hj2 | hj2
    · have := congrArg (fun l => l[0]?) h3
      simp [List.getElem?_drop] at this
      rw [show j / 2 * 2 = j from by omega] at this e0
      rw [this, e0]; simp [List.getD_eq_getElem?_getD]
    · have := congrArg (fun l => l[1]?) h3
      simp [List.getElem?_take, List.getElem?_drop] at this
      rw [show j / 2 * 2 + 1 = j from by omega] at this e1
      rw [this, e1]; simp [List.getD_eq_getElem?_getD]
  · rw [List.getElem?_eq_none (by omega), List.getElem?_eq_none (by omega)]
theorem Rz {t n : Nat} {cs : List Value} {Z : List Nat} (ht : Tryz.prog.underlying t = some (.array n 5)) (h : DataW.trod enc Tryz.prog w base spare held fuel t cs = some (.agg (Z.map fun (q : Nat) => .lit (.int .u8 q)), ps)) {r : Nat} (hr : r < n) : cs[r]? = some (.int .u8 (Z.getD r 0 : Nat)) := by
  obtain ⟨xs, m, _, ex, _, hl, hel⟩ := DataW.trod_array ht h
  have c5 : Tryz.prog.cellsOf 5 = 1 := by kernel_rfl
  have hE := hel r hr
  rw [c5, Nat.mul_one, List.getElem?_eq_getElem (by omega)] at hE
  obtain ⟨z, e1, e2, _⟩ := DataW.trod_int Tryz.underlying5 hE
  have e3 : (xs.map (·.1)) = Z.map fun (q : Nat) => .lit (.int .u8 q) := (DataW.agg.inj (Prod.mk.inj ex).1).symm
  have hzl : Z.length = n := by have := congrArg List.length e3; simpa [hl] using this.symm
  have e4 : (xs.map (·.1))[r]? = (Z.map fun (q : Nat) => (DataW.lit (.int .u8 q) : DataW Unit))[r]? := by rw [e3]
  rw [List.getElem?_map, List.getElem?_map, List.getElem?_eq_getElem (by omega : r < xs.length), List.getElem?_eq_getElem (by omega : r < Z.length), e2] at e4
  have hz : z = (Z.getD r 0 : Nat) := by
    simp only [Option.map_some, Option.some.injEq, DataW.lit.injEq, Lit.int.injEq, true_and] at e4
    rw [e4, List.getD_eq_getElem?_getD, List.getElem?_eq_getElem (by omega : r < Z.length)]; rfl
  have : cs[r]? = some (.int .u8 z) := by
    have h0 : ((cs.drop r).take 1)[0]? = some (.int .u8 z) := by rw [e1]; rfl
    simpa using h0
  rw [this, hz]
end
theorem RD {W : World} (h : laidMetH Tryz.prog GN W) : AL W := by
  rw [MakeChecks.laidMetH_plain _ _ _ (by kernel_rfl)] at h
  obtain ⟨ps, ⟨g3, t3, cs3, f3, p3, q3, hg3, ht3, hv3, hd3, ⟨g2, t2, cs2, f2, p2, q2, hg2, ht2, hv2, hd2, _, _⟩, _⟩, _, _⟩ := h
  obtain rfl := Option.some.inj (Xh.symm.trans hg2)
  obtain rfl := Option.some.inj (aaw.symm.trans hg3)
  obtain rfl := Option.some.inj (Xi.symm.trans ht2)
  obtain rfl := Option.some.inj (aax.symm.trans ht3)
  have e3 := Ve (T := GV) Tryz.underlying233 (by kernel_rfl) hd3
  refine ⟨fun x hx => ?_, fun i hi => ?_⟩
  · rw [World.var?_cell hg2 hv2 x, ← Array.getElem?_toList, Rz (Z := Go.Pinned.utf8FirstZ) Tryz.underlying229 hd2 hx]; rfl
  · have hp := GX GV i (by simp [GV]; omega)
    have ha : GV.getD i (0, 0) = PY.getD i (0, 0) := by
      match i, hi with
      | 0, _ => rfl
      | 1, _ => rfl
      | 2, _ => rfl
      | 3, _ => rfl
      | 4, _ => rfl
    rw [ha] at hp
    have hl := JU GV
    have hl2 : GV.length = 16 := rfl
    constructor
    · rw [World.var?_cell hg3 hv3 _, ← Array.getElem?_toList, e3, ← hp.1, List.getD_eq_getElem?_getD, List.getElem?_eq_getElem (by omega)]; rfl
    · rw [World.var?_cell hg3 hv3 _, ← Array.getElem?_toList, e3, ← hp.2, List.getD_eq_getElem?_getD, List.getElem?_eq_getElem (by omega)]; rfl
end Go.Proofs.YtgmpclifphbjkaaGreatDoor
end
section
set_option maxRecDepth 100000
namespace Go.Proofs.YtgmpclifphbjkaaGreatDoor
open Go.ChangeShapes Go.WideShapes Go.ChangeAt Go.RowKit
theorem Vf {H : Type} {enc : TypeId × Value → H} {W : World} {B : Nat} {cs : List Value} (h : uI B enc Tryz.prog W 38 cs) : ∃ x0 x1 x2 x3 v4 x4, cs = [.int .i64 x0, .int .i64 x1, .int .i64 x2, .bool x3, v4] ∧ (Lit.int .i64 x0).wf = true ∧ (Lit.int .i64 x1).wf = true ∧ (Lit.int .i64 x2).wf = true ∧ (jG W .i32 v4 x4 ∧ x4.length * 4 ≤ B ∧ ∀ n ∈ x4, (Lit.int .i32 n).wf = true) := by
  obtain ⟨hl, hf⟩ := h.struct Tryz.underlying38
  rw [show Tryz.prog.cellsOf 38 = 5 from by kernel_rfl] at hl
  match cs, hl with
  | [c0, c1, c2, c3, c4], _ =>
    have h0 : uI B enc Tryz.prog W 3 (([c0, c1, c2, c3, c4].drop 0).take (Tryz.prog.cellsOf 3)) := hf 0 _ rfl
    rw [show Tryz.prog.cellsOf 3 = 1 from by kernel_rfl] at h0
    obtain ⟨x0, e0, w0⟩ := h0.int Tryz.underlying3
    have h1 : uI B enc Tryz.prog W 3 (([c0, c1, c2, c3, c4].drop 1).take (Tryz.prog.cellsOf 3)) := hf 1 _ rfl
    rw [show Tryz.prog.cellsOf 3 = 1 from by kernel_rfl] at h1
    obtain ⟨x1, e1, w1⟩ := h1.int Tryz.underlying3
    have h2 : uI B enc Tryz.prog W 3 (([c0, c1, c2, c3, c4].drop 2).take (Tryz.prog.cellsOf 3)) := hf 2 _ rfl
    rw [show Tryz.prog.cellsOf 3 = 1 from by kernel_rfl] at h2
    obtain ⟨x2, e2, w2⟩ := h2.int Tryz.underlying3
    have h3 : uI B enc Tryz.prog W 4 (([c0, c1, c2, c3, c4].drop 3).take (Tryz.prog.cellsOf 4)) := hf 3 _ rfl
    rw [show Tryz.prog.cellsOf 4 = 1 from by kernel_rfl] at h3
    obtain ⟨x3, e3⟩ := h3.bool Tryz.underlying4
    have h4 : uI B enc Tryz.prog W 22 (([c0, c1, c2, c3, c4].drop 4).take (Tryz.prog.cellsOf 22)) := hf 4 _ rfl
    rw [show Tryz.prog.cellsOf 22 = 1 from by kernel_rfl] at h4
    obtain ⟨v4, x4, e4, g4, b4, w4⟩ := h4.ints Tryz.underlying22 Tryz.underlying21 (by kernel_rfl)
    rw [show Tryz.prog.bytesOf 21 = 4 from by kernel_rfl] at b4
    simp only [List.drop, List.take, List.cons.injEq, and_true] at e0 e1 e2 e3 e4
    exact ⟨x0, x1, x2, x3, v4, x4, by simp_all, w0, w1, w2, ⟨g4, b4, w4⟩⟩
theorem RF {H : Type} {enc : TypeId × Value → H} {W : World} {B : Nat} {cs : List Value} (h : uI B enc Tryz.prog W 35 cs) : ∃ v0 n0 x0 x1, cs = [v0, .int .i64 x1] ∧ (Rd W 5 v0 n0 x0 ∧ n0 * Tryz.prog.bytesOf 38 ≤ B ∧ ∀ k, k < n0 → uI B enc Tryz.prog W 38 ((x0.drop (k * 5)).take 5)) ∧ (Lit.int .i64 x1).wf = true := by
  obtain ⟨hl, hf⟩ := h.struct Tryz.underlying35
  rw [show Tryz.prog.cellsOf 35 = 2 from by kernel_rfl] at hl
  match cs, hl with
  | [c0, c1], _ =>
    have h0 : uI B enc Tryz.prog W 33 (([c0, c1].drop 0).take (Tryz.prog.cellsOf 33)) := hf 0 _ rfl
    rw [show Tryz.prog.cellsOf 33 = 1 from by kernel_rfl] at h0
    obtain ⟨v0, n0, x0, e0, g0, b0, s0⟩ := h0.slice Tryz.underlying33 (by rw [show Tryz.prog.cellsOf 38 = 5 from by kernel_rfl]; decide)
    rw [show Tryz.prog.cellsOf 38 = 5 from by kernel_rfl] at g0 s0
    have h1 : uI B enc Tryz.prog W 25 (([c0, c1].drop 1).take (Tryz.prog.cellsOf 25)) := hf 1 _ rfl
    rw [show Tryz.prog.cellsOf 25 = 1 from by kernel_rfl] at h1
    obtain ⟨x1, e1, w1⟩ := h1.int Tryz.underlying25
    simp only [List.drop, List.take, List.cons.injEq, and_true] at e0 e1
    exact ⟨v0, n0, x0, x1, by simp_all, ⟨g0, b0, s0⟩, w1⟩
end Go.Proofs.YtgmpclifphbjkaaGreatDoor
end
section
namespace Go.Proofs.YtgmpclifphbjkaaGreatDoor
open Go.RowKit
open _root_.Go.Proofs.Tryz
theorem AO {l m : List Int} {i : Nat} (h1 : i < l.length) (h2 : i < m.length) (h : l.take i = m.take i) (e : l.getD i 0 = m.getD i 0) : l.take (i + 1) = m.take (i + 1) := by
  rw [List.take_succ_eq_append_getElem h1, List.take_succ_eq_append_getElem h2, h]
  simp [List.getD_eq_getElem?_getD, h1, h2] at e
  rw [e]
theorem GY (w : World) (v1 v2 : Value) (l1 l2 : List Int) (h1 : jG w .i32 v1 l1) (h2 : jG w .i32 v2 l2) :
  fQ prog 17 #[v1, v2] w fun v w' => v = .bool (l1 == l2) ∧ qc w w' := by
 obtain ⟨a1, c1, rfl, hc1, hm1, hr1⟩ := h1.open
 obtain ⟨a2, c2, rfl, hc2, hm2, hr2⟩ := h2.open
 clear h1 h2
 refine gX func17 ntmps17 ?_
 dsimp only [bg, Nat.reduceAdd]
 refine ay (ah (aV rfl (aA (aj (ay (ay (ah (aO rfl (aU (gK underlying22 rfl) (aO rfl (aU (gK underlying22 rfl) (aU (bZ rfl rfl) (aA (aj (aH rfl (fun h1 => ?_) (fun h1 => ?_))))))))))))))))
 ·(try simp only [aG] at h1)
  try (exfalso; first | contradiction | omega)
  all_goals
   refine ay (ah (aV rfl (aA (aj (aJ (aK (aP (.inl rfl) results17 rfl ?_)))))))
   exact ⟨by rw [show (l1 == l2) = false from beq_eq_false_iff_ne.2 (by rintro rfl; exact h1 rfl)], qc.refl _⟩
 ·(try simp only [aG] at h1)
  try (exfalso; first | contradiction | omega)
  all_goals
   refine aS (aj (ay (ay (ah (aO rfl (aU (gK underlying22 rfl) (aO rfl (aA (aj (bf ?_))))))))))
   refine fM [(0, _), (1, _), (12, _)] (fun (k : Nat) => [(13, .int .i64 (k : Int))]) (fun (k : Nat) W => k ≤ l1.length ∧ l1.length = l2.length ∧ l1.take k = l2.take k ∧ qc w W) (fun (k : Nat) => l1.length - k) (0) (Sub.cons rfl (Sub.cons rfl (Sub.cons rfl (Sub.nil _)))) (Sub.cons rfl (Sub.nil _)) ⟨by omega, by omega, by simp, qc.refl _⟩ ?_
   rintro k w1 ⟨hk, hl, ht, hD⟩
   dsimp only [List.cons_append, List.nil_append]
   refine ay (ah (aU (dL rfl rfl) (aA (aj (ay (aH rfl (fun h2 => ?_) (fun h2 => ?_)))))))
   ·(try simp only [aG] at h2)
    try (exfalso; first | contradiction | omega)
    all_goals
     refine aS (aj (ay (bf (ay (ah (aO rfl (aV rfl (aA (aj (ay ?_))))))))))
     obtain ⟨b1, o1, rfl, hq1⟩ := hr1 (by omega)
     obtain ⟨b2, o2, rfl, hq2⟩ := hr2 (by omega)
     have hc1 := hq1 k (by omega)
     have hc2 := hq2 k (by omega)
     refine kN (n := 9) [0, 1, 2, 3, 4, 5, 6, 7, 8] (fun W => W.heap = w1.heap) (by kernel_rfl) (by kernel_rfl) rfl ?_
     have hS0 : (fun W => W.heap = w1.heap) (w1.drew) := rfl
     refine fU 0 rfl hS0 rfl (fU 1 rfl hS0 rfl (iJ 2 rfl hS0 (fun _ => eF underlying22 sizeOf21 rfl rfl (by omega)) ?_))
     refine gQ 3 rfl hS0 (fun W hW => iC (dM underlying21 rfl) rfl (by rw [uY (hW.trans hD.heap)]; simpa using hc1)) ?_
     refine fU 4 rfl hS0 rfl (fU 5 rfl hS0 rfl (iJ 6 rfl hS0 (fun _ => eF underlying22 sizeOf21 rfl rfl (by omega)) ?_))
     refine gQ 7 rfl hS0 (fun W hW => iC (dM underlying21 rfl) rfl (by rw [uY (hW.trans hD.heap)]; simpa using hc2)) ?_
     refine iJ 8 rfl hS0 (fun _ => bZ rfl rfl) (mg (aj (aH rfl (fun h3 => ?_) (fun h3 => ?_))))
     ·(try simp only [aG] at h3)
      try (exfalso; first | contradiction | omega)
      all_goals
       refine ay (ah (aV rfl (aA (aj (aJ (aW (aK (aK (aW (aK (aP (.inl rfl) results17 rfl ?_)))))))))))
       exact ⟨by rw [show (l1 == l2) = false from beq_eq_false_iff_ne.2 (by rintro rfl; exact h3 rfl)], hD.drew⟩
     ·(try simp only [aG] at h3)
      try (exfalso; first | contradiction | omega)
      all_goals
       refine aS (aQ (aj (ah (aU (eP rfl rfl (by omega)) (aO rfl (aA ?_))))))
       refine dK (k + 1) ?_ ?_ ?_ ?_
       ·exact (Sub.cons rfl (Sub.nil _))
       ·exact (Sub.cons rfl (Sub.cons rfl (Sub.cons rfl (Sub.nil _))))
       ·(try dsimp only)
        first | done | exact ⟨by omega, by omega, AO (by omega) (by omega) ht (by simpa using h3), hD.drew⟩
       ·(try dsimp only); omega
   ·(try simp only [aG] at h2)
    try (exfalso; first | contradiction | omega)
    all_goals
     refine fG (aX (aX (bM (aj (ay (ah (aV rfl (aA (aj (aJ (aP (.inl rfl) results17 rfl ?_)))))))))))
     exact ⟨by rw [show (l1 == l2) = true from beq_iff_eq.2 (by rw [List.take_of_length_le (by omega), List.take_of_length_le (by omega)] at ht; exact ht)], hD⟩
end Go.Proofs.YtgmpclifphbjkaaGreatDoor
end
section
namespace Go.Proofs.YtgmpclifphbjkaaGreatDoor
open Go.RowKit
open _root_.Go.Proofs.Tryz
theorem yg : (prog.info? 21).map (fun i => (i.zero, i.size, i.bytes)) = some (some (.int .i32 0), 1, 4) := by kernel_rfl
theorem oK {w0 w : World} {F : HP} {v : Value} {l : List Int} (H : aB w0 w F) (hr : iU w0 F .i32 v l) (hb : l.length * 4 ≤ 140737488355328) :
    fQ prog 136 #[v] w fun v' w' => aB w0 w' (iG 21 .i32 v' l • F) := by
  obtain ⟨a, c, rfl, h1, h2, h3⟩ := (hr w H).open
  refine gX func136 ntmps136 ?_
  dsimp only [bg, Nat.reduceAdd]
  refine ay (ah (aV rfl (aA (aj (ay (ay (ah (aO rfl (aU (xU underlying22 rfl rfl) (aA (aj (aH rfl (fun h1 => ?_) (fun h1 => ?_)))))))))))))
  · (try simp only [aG] at h1)
    try (exfalso; first | contradiction | omega)
    all_goals
      refine ay (ah (aV rfl (aA (aj (aJ (aK (aP (.inl rfl) results136 rfl ?_)))))))
      obtain rfl : a = none := by simpa using h1
      obtain rfl : l = [] := by
        cases l with
        | nil => rfl
        | cons x l => obtain ⟨b, o, e, _⟩ := h3 (by simp); cases e
      exact H.fZ none
  · (try simp only [aG] at h1)
    try (exfalso; first | contradiction | omega)
    all_goals
      refine aS (aj (ay (ah (iy (lQ (vs := []) H underlying22 sizeOf21 zeroValue21 rfl rfl rfl (by decide) (by simp)) ?_))))
      rintro _ w1 H1
      refine aO rfl (iy (dS (l := []) H1 (hr.under _ H1) underlying22 yg rfl rfl (by simp; omega) (by simpa using hb)) ?_)
      rintro _ w2 H2
      refine aV rfl (aA (aj (aJ (aP (.inl rfl) results136 rfl ?_))))
      exact H2
theorem RH {w0 w : World} {F : HP} {n : Int} (H : aB w0 w F) (h0 : 0 ≤ n) (hb : n ≤ 70368744177664) :
  fQ prog 194 #[.slice none 0 0, .int .i64 n] w fun v' w' => aB w0 w' (iG 21 .i32 v' [] • F) := by
 refine gX func194 ntmps194 ?_
 dsimp only [bg, Nat.reduceAdd]
 refine ay (ah (aV rfl (aA (aj (ay (ay (ah (aO rfl (aU (dL rfl rfl) (aA (aj (aH rfl (fun h => by exfalso; (try simp only [aG] at h); first | contradiction | omega | (simp at h <;> omega)) (fun h1 => ?_)))))))))))))
 (try simp only [aG] at h1)
 refine aS (aj (ay (ay (ah (aO rfl (aO rfl (aU (V4 underlying22 rfl) (aO rfl (aU (gK underlying22 rfl) (aU (jB rfl rfl (by omega)) (aU (jB rfl rfl (by omega)) (aV rfl (aA (aj (ay (ah (aO rfl (aU (dQ rfl rfl) (aA (aj (aH rfl (fun h2 => ?_) (fun h2 => ?_))))))))))))))))))))))
 ·(try simp only [aG] at h2)
  try (exfalso; first | contradiction | omega)
  all_goals
   refine ah (aO rfl (aO rfl (aU (V4 underlying22 rfl) (aU (qG underlying22 sizeOf21 rfl rfl rfl (by omega)) (aO rfl (iy (Ec H underlying22 underlying3 yg rfl rfl (by omega) (by omega) (by omega)) ?_))))))
   rintro _ w1 ⟨g, c, cur, rfl, hc1, hc2, hc3, H1⟩
   refine aO rfl (aU (gK underlying22 rfl) (aU (qG underlying22 sizeOf21 rfl rfl rfl (by omega)) (aV rfl (aA (aj (ay (ah (aO rfl (aV rfl (aA (aj (aJ (aP (.inl rfl) results194 rfl ?_)))))))))))))
   exact H1.xX (o := 0) (by simp) (GL 1 0 g 0 _ c) (by simp) hc2 (by simpa using hc3) (by simp)
 ·(try simp only [aG] at h2)
  try (exfalso; first | contradiction | omega)
  all_goals
   refine aS (aj (ay (ah (aO rfl (aV rfl (aA (aj (aJ (aP (.inl rfl) results194 rfl ?_)))))))))
   exact H.fZ none
theorem MR {w0 w : World} {F : HP} {v : Value} {vs : List Value} {ls : List (List Int)} (H : aB w0 w F) (hv : yM w0 F 1 v ls.length vs) (hls : ∀ k, k < ls.length → iU w0 F .i32 (vs.getD k undef) (ls.getD k [])) (hb : ls.flatten.length * 4 ≤ 140737488355328) :
  fQ prog 167 #[v] w fun v' w' => aB w0 w' (iG 21 .i32 v' ls.flatten • F) := by
 obtain ⟨_, a, c, rfl, hc1, hc2, _⟩ := hv w H
 refine gX func167 ntmps167 ?_
 dsimp only [bg, Nat.reduceAdd]
 refine ay (ah (aV rfl (aA (aj (ay (ah (aV rfl (aA (aj (ay (ay (ah (aO rfl (aU (gK underlying43 rfl) (aO rfl (aA (aj (bf ?_))))))))))))))))))
 refine fM [(0, _), (9, _), (10, _)] (fun (k : Nat) => [(3, .int .i64 ((ls.take k).flatten.length : Int)), (11, .int .i64 (k : Int))]) (fun (k : Nat) W => k ≤ ls.length ∧ aB w0 W F) (fun (k : Nat) => ls.length - k) (0) (Sub.cons rfl (Sub.cons rfl (Sub.cons rfl (Sub.nil _)))) (Sub.zh rfl (by simp) (Sub.zh rfl (rfl) (Sub.nil _))) ⟨by omega, H⟩ ?_
 rintro k w1 ⟨hk, HL⟩
 dsimp only [List.cons_append, List.nil_append]
 refine ay (ah (aU (dL rfl rfl) (aA (aj (ay (aH rfl (fun h1 => ?_) (fun h1 => ?_)))))))
 ·(try simp only [aG] at h1)
  try (exfalso; first | contradiction | omega)
  all_goals
   refine aS (aj (ay (bf (ay ?_))))
   have hk1 : k < ls.length := by omega
   obtain ⟨b, o, rfl, hc⟩ := hv.cell HL (j := k) (by omega)
   obtain ⟨ak, ck, ek, hk2, hk3, _⟩ := (hls k hk1 _ HL).open
   rw [ek] at hc
   have hfl := IC ls (k + 1)
   rw [yN ls hk1, List.length_append] at hfl
   refine ah (aU (eF underlying43 sizeOf22 rfl rfl (by omega)) ?_)
   refine aU (iC (dM underlying22 rfl) rfl (by rw [show ((k : Int).toNat * 1) = k from by omega]; exact hc)) ?_
   refine aV rfl (aA (aj (ay (ah (aO rfl (aO rfl (aU (gK underlying22 rfl) (aU (eP rfl rfl (by omega)) (aV rfl (aA (aj (ay (ah (aO rfl (aU (dL rfl rfl) (aA (aj (aH rfl (fun h => by exfalso; (try simp only [aG] at h); first | contradiction | omega | (simp at h <;> omega)) (fun h2 => ?_)))))))))))))))))))
   (try simp only [aG] at h2)
   refine aS (aQ (aj (ah (aU (eP rfl rfl (by omega)) (aO rfl (aA ?_))))))
   refine dK (k + 1) ?_ ?_ ?_ ?_
   ·exact (Sub.zh rfl (by rw [yN ls hk1, List.length_append, Int.natCast_add]) (Sub.cons rfl (Sub.nil _)))
   ·exact (Sub.cons rfl (Sub.cons rfl (Sub.cons rfl (Sub.nil _))))
   ·(try dsimp only)
    first | done | exact ⟨by omega, HL⟩
   ·(try dsimp only); omega
 ·(try simp only [aG] at h1)
  try (exfalso; first | contradiction | omega)
  all_goals
   refine fG (aX (aX (bM (aj (ay (ah (aO rfl (dw rfl func194 (RH HL (by omega) (by have := IC ls k; omega)) ?_))))))))
   rintro vg w2 H2
   refine aV rfl (aA (aj (ay (ay (ah (aO rfl (aU (gK underlying43 rfl) (aO rfl (aA (aj (bf ?_)))))))))))
   refine fM [(25, _), (26, _)] (fun (⟨k, u⟩ : Nat × Value) => [(6, u), (27, .int .i64 (k : Int))]) (fun (⟨k, u⟩ : Nat × Value) W => k ≤ ls.length ∧ aB w0 W (iG 21 .i32 u (ls.take k).flatten • F)) (fun (⟨k, u⟩ : Nat × Value) => ls.length - k) ((0, vg)) (Sub.cons rfl (Sub.cons rfl (Sub.nil _))) (Sub.cons rfl (Sub.cons rfl (Sub.nil _))) ⟨by omega, H2⟩ ?_
   rintro ⟨k, u⟩ w3 ⟨hk, HM⟩
   dsimp only [List.cons_append, List.nil_append]
   refine ay (ah (aU (dL rfl rfl) (aA (aj (ay (aH rfl (fun h3 => ?_) (fun h3 => ?_)))))))
   ·(try simp only [aG] at h3)
    try (exfalso; first | contradiction | omega)
    all_goals
     refine aS (aj (ay (bf (ay ?_))))
     have hk1 : k < ls.length := by omega
     obtain ⟨b, o, rfl, hc⟩ := hv.cell HM.right (j := k) (by omega)
     have hrk := hls k hk1
     have hfl := IC ls (k + 1)
     rw [yN ls hk1, List.length_append] at hfl
     refine ah (aU (eF underlying43 sizeOf22 rfl rfl (by omega)) ?_)
     refine aU (iC (dM underlying22 rfl) rfl (by rw [show ((k : Int).toNat * 1) = k from by omega]; exact hc)) ?_
     refine aV rfl (aA (aj (ah (aO rfl (aO rfl (iy (dS HM (hrk _ HM.right) underlying22 yg rfl rfl (by omega) (by omega)) ?_))))))
     rintro va w4 H4
     refine aV rfl (aA (aQ (aj (ah (aU (eP rfl rfl (by omega)) (aO rfl (aA ?_)))))))
     refine dK ((k + 1, va)) ?_ ?_ ?_ ?_
     ·exact (Sub.cons rfl (Sub.cons rfl (Sub.nil _)))
     ·exact (Sub.cons rfl (Sub.cons rfl (Sub.nil _)))
     ·(try dsimp only)
      first | done | exact ⟨by omega, by rw [yN ls hk1]; exact H4⟩
     ·(try dsimp only); omega
   ·(try simp only [aG] at h3)
    try (exfalso; first | contradiction | omega)
    all_goals
     refine fG (aX (aX (bM (aj (ay (ah (aO rfl (aV rfl (aA (aj (aJ (aP (.inl rfl) results167 rfl ?_))))))))))))
     rw [List.take_of_length_le (by omega)] at HM; exact HM
theorem yh {w0 w : World} {F : HP} {b : Nat} {T : TypeId} {u1 u2 : Value} {l1 l2 : List Int} (H : aB w0 w (dA b (.cells #[u1, u2] T (0, 0)) • F)) (h1 : iU w0 (dA b (.cells #[u1, u2] T (0, 0)) • F) .i32 u1 l1) (h2 : iU w0 (dA b (.cells #[u1, u2] T (0, 0)) • F) .i32 u2 l2)
    (hb : (l1.length + l2.length) * 4 ≤ 140737488355328) :
    fQ prog 167 #[.slice (some ⟨b, 0, none⟩) 2 2] w fun v' w' => aB w0 w' (iG 21 .i32 v' (l1 ++ l2) • dA b (.cells #[u1, u2] T (0, 0)) • F) := by
  have := MR (ls := [l1, l2]) (vs := [u1, u2]) (v := .slice (some ⟨b, 0, none⟩) 2 2) H (fun W HW => ⟨rfl, _, 2, rfl, by simp, by decide, fun _ => ⟨b, 0, rfl, fun j hj => ?_⟩⟩) (fun k hk => ?_) (by simpa using hb)
  · simpa using this
  · refine fJ HW.get.2 ?_
    simp at hj
    match j, hj with
    | 0, _ => rfl
    | 1, _ => rfl
  · simp at hk
    match k, hk with
    | 0, _ => exact h1
    | 1, _ => exact h2
end Go.Proofs.YtgmpclifphbjkaaGreatDoor
end
section
namespace Go.Proofs.YtgmpclifphbjkaaGreatDoor
open Go.RowKit
open _root_.Go.Proofs.Tryz
theorem JV {s i j : Nat} {v : Value} (h : v.oneCell' = true) : (ny s i j v).oneCell' = true := by cases v <;> simp_all [ny, Value.oneCell']
def fE (v : Value) (f t pt mk : Int) : Array Value := #[.bool true, v, .int .i64 f, .int .i64 t, .int .i64 pt, .int .i64 mk]
theorem Vg {a b : Value} (h : a.oneCell' = true) (k : b.oneCell' = true) : ∀ u ∈ [a, b], u.oneCell' = true := by
  intro u hu; simp at hu; rcases hu with rfl | rfl
  · exact h
  · exact k
section
variable {v u : Value} {f t pt mk x : Int}
theorem jC : (fE v f t pt mk).size = 6 := rfl
theorem P7 : (fE v f t pt mk).setIfInBounds 1 u = fE u f t pt mk := rfl
theorem wC : (fE v f t pt mk).setIfInBounds 2 (.int .i64 x) = fE v x t pt mk := rfl
theorem zO : (fE v f t pt mk).setIfInBounds 3 (.int .i64 x) = fE v f x pt mk := rfl
theorem uK : (fE v f t pt mk).setIfInBounds 4 (.int .i64 x) = fE v f t x mk := rfl
theorem mO : (fE v f t pt mk).setIfInBounds 5 (.int .i64 x) = fE v f t pt x := rfl
end
def dJ (p : Nat) (L : List Int) (pt mk : Int) : HP := sS fun (x : Value × List Int × Nat × Nat) =>
  fact (x.2.2.1 ≤ x.2.2.2 ∧ x.2.2.2 ≤ x.2.1.length ∧ L = x.2.1.take x.2.2.1 ++ x.2.1.drop x.2.2.2 ∧ L.length ≤ 1024 ∧ x.2.1.length ≤ 4096 ∧ (0 ≤ pt ∧ pt ≤ L.length) ∧ (-1 ≤ mk ∧ mk ≤ L.length)) •
    dA p (.cells (fE x.1 x.2.2.1 x.2.2.2 pt mk) 178 (0, 0)) • iG 21 .i32 x.1 x.2.1
section
variable {w0 w : World} {F : HP} {p : Nat} {L : List Int} {pt mk : Int}
theorem aB.buf (H : aB w0 w (dJ p L pt mk • F)) : ∃ (a : Option Addr) (c : Nat) (xs : List Int) (f t : Nat), f ≤ t ∧ t ≤ xs.length ∧ L = xs.take f ++ xs.drop t ∧ L.length ≤ 1024 ∧ xs.length ≤ 4096 ∧ (0 ≤ pt ∧ pt ≤ L.length) ∧ (-1 ≤ mk ∧ mk ≤ L.length) ∧ xs.length ≤ c ∧ (c : Int) ≤ 9223372036854775807 ∧ L.length + t = xs.length + f ∧
    aB w0 w (dA p (.cells (fE (.slice a xs.length c) f t pt mk) 178 (0, 0)) • iG 21 .i32 (.slice a xs.length c) xs • F) := by
  obtain ⟨⟨v, xs, f, t⟩, H⟩ := H.oh
  obtain ⟨⟨h1, h2, h3, h4, h5, h6, h7⟩, H⟩ := H.flat.fact
  have H := H.flat
  obtain ⟨a, c, hv, hc1, hc2, _⟩ := (H.swap.aT).form
  dsimp only at *
  subst hv
  refine ⟨a, c, xs, f, t, h1, h2, h3, h4, h5, h6, h7, hc1, hc2, ?_, H⟩
  rw [h3]; simp; omega
theorem aB.kD {v : Value} {xs : List Int} {f t : Nat} (h1 : f ≤ t) (h2 : t ≤ xs.length) (h3 : L = xs.take f ++ xs.drop t) (h4 : L.length ≤ 1024) (h5 : xs.length ≤ 4096) (h6 : 0 ≤ pt ∧ pt ≤ L.length) (h7 : -1 ≤ mk ∧ mk ≤ L.length)
    (H : aB w0 w (dA p (.cells (fE v f t pt mk) 178 (0, 0)) • iG 21 .i32 v xs • F)) : aB w0 w (dJ p L pt mk • F) :=
  aB.iF (v, xs, f, t) (aB.deep (aB.kJ ⟨h1, h2, h3, h4, h5, h6, h7⟩ (aB.deep H)))
theorem pz (t : TypeId) {cs : Array Value} {fr : Nat × Nat} {m : Bool} (hb : w.heap[p]? = some (.cells cs t fr)) (h0 : cs[0]? = some (.bool m)) :
  fQ prog 130 #[.pointer (some ⟨p, 0, none⟩)] w fun v w' => v = .bool (!m) ∧ w = w' := by
 refine gX func130 ntmps130 ?_
 dsimp only [bg, Nat.reduceAdd]
 refine ay (ah (aV rfl (aA (aj (ay (ah (aO rfl (aU (jc underlying57 rfl rfl) (jo rfl (fun h => by exfalso; (try simp only [aG] at h); simp at h) (fun h1 => ?_))))))))))
 (try simp only [aG] at h1)
 refine bD (aO rfl (bD (bH rfl (bD (aZ 0 underlying178 rfl sizeOf4 rfl (bD (cO underlying4 rfl hb h0 (bD (aU (kM rfl) (jr rfl rfl (aV rfl (aA (aj (aJ (aP (.inl rfl) results130 rfl ?_)))))))))))))))
 exact ⟨rfl, rfl⟩
theorem jF (H : aB w0 w (dJ p L pt mk • F)) : fQ prog 69 #[.pointer (some ⟨p, 0, none⟩)] w fun v w' => v = .int .i64 L.length ∧ qc w w' := by
 obtain ⟨a, c, xs, f, t, h1, h2, h3, h4, h5, h6, h7, hc1, hc2, hl, H1⟩ := H.buf
 have hb := H1.get.2
 refine gX func69 ntmps69 ?_
 dsimp only [bg, Nat.reduceAdd]
 refine ay (ah (aV rfl (aA (aj (ay (ay (ah (aO rfl (dw rfl func130 (pz _ hb rfl) ?_)))))))))
 rintro _ _ ⟨rfl, rfl⟩
 refine aA (aj (qN (aS (aj (ay ?_)))))
 refine kN (n := 16) [0, 1, 2, 3, 4, 5, 6, 7, 8, 9, 10, 11, 12, 13, 14, 15] (fun W => W.heap = w.heap) (by kernel_rfl) (by kernel_rfl) rfl ?_
 have hS0 : (fun W => W.heap = w.heap) (w.drew) := rfl
 have H3d := H1.drew
 refine fU 0 rfl hS0 rfl (iT 1 rfl hS0 rfl (dP 2 rfl hS0 1 underlying178 rfl sizeOf22 rfl ?_))
 refine gQ 3 rfl hS0 (fun W hW => iI underlying22 rfl (by rw [hW]; exact hb) rfl) ?_
 refine iJ 4 rfl hS0 (fun _ => gK underlying22 rfl) (fU 5 rfl hS0 rfl (iT 6 rfl hS0 rfl (dP 7 rfl hS0 3 underlying178 rfl sizeOf3 rfl ?_)))
 refine gQ 8 rfl hS0 (fun W hW => iI underlying3 rfl (by rw [hW]; exact hb) rfl) ?_
 refine fU 9 rfl hS0 rfl (iT 10 rfl hS0 rfl (dP 11 rfl hS0 2 underlying178 rfl sizeOf3 rfl ?_))
 refine gQ 12 rfl hS0 (fun W hW => iI underlying3 rfl (by rw [hW]; exact hb) rfl) ?_
 refine iJ 13 rfl hS0 (fun _ => jB rfl rfl (by omega)) (iJ 14 rfl hS0 (fun _ => jB rfl rfl (by omega)) (iJ 15 rfl hS0 (fun _ => fO rfl) (mg (aj (aJ (aP (.inl rfl) results69 rfl ?_))))))
 exact ⟨by congr 1; omega, qc.refl _ |>.drew⟩
theorem kE (H : aB w0 w (dJ p L pt mk • F)) : fQ prog 68 #[.pointer (some ⟨p, 0, none⟩)] w fun v w' => v = .int .i64 pt ∧ w = w' := by
 obtain ⟨a, c, xs, f, t, h1, h2, h3, h4, h5, h6, h7, hc1, hc2, hl, H1⟩ := H.buf
 have hb := H1.get.2
 refine gX func68 ntmps68 ?_
 dsimp only [bg, Nat.reduceAdd]
 refine ay (ah (aV rfl (aA (aj (ay (ay (ah (aO rfl (dw rfl func130 (pz _ hb rfl) ?_)))))))))
 rintro _ _ ⟨rfl, rfl⟩
 refine aA (aj (qN (aS (aj (ay (ah (aO rfl (bH rfl (aZ 4 underlying178 rfl sizeOf3 rfl (cO underlying3 rfl hb rfl (aV rfl (aA (aj (aJ (aP (.inl rfl) results68 rfl ?_)))))))))))))))
 exact ⟨rfl, rfl⟩
theorem IK (H : aB w0 w (dJ p L pt mk • F)) : fQ prog 131 #[.pointer (some ⟨p, 0, none⟩)] w fun v w' => v = .int .i64 mk ∧ w = w' := by
 obtain ⟨a, c, xs, f, t, h1, h2, h3, h4, h5, h6, h7, hc1, hc2, hl, H1⟩ := H.buf
 have hb := H1.get.2
 refine gX func131 ntmps131 ?_
 dsimp only [bg, Nat.reduceAdd]
 refine ay (ah (aV rfl (aA (aj (ay (ay (ah (aO rfl (dw rfl func130 (pz _ hb rfl) ?_)))))))))
 rintro _ _ ⟨rfl, rfl⟩
 refine aA (aj (qN (aS (aj (ay (ah (aO rfl (bH rfl (aZ 5 underlying178 rfl sizeOf3 rfl (cO underlying3 rfl hb rfl (aV rfl (aA (aj (aJ (aP (.inl rfl) results131 rfl ?_)))))))))))))))
 exact ⟨rfl, rfl⟩
theorem kU (H : aB w0 w (dJ p L pt mk • F)) : fQ prog 117 #[.pointer (some ⟨p, 0, none⟩)] w fun v w' => aB w0 w' (iG 21 .i32 v L • dJ p L pt mk • F) := by
 obtain ⟨a, c, xs, f, t, h1, h2, h3, h4, h5, h6, h7, hc1, hc2, hl, H1⟩ := H.buf
 have hb := H1.get.2
 refine gX func117 ntmps117 ?_
 dsimp only [bg, Nat.reduceAdd]
 refine ay (ah (aV rfl (aA (aj (ay (ay (ah (aO rfl (dw rfl func130 (pz _ hb rfl) ?_)))))))))
 rintro _ _ ⟨rfl, rfl⟩
 refine aA (aj (qN (aS (aj (ay ?_)))))
 refine kN (n := 21) [0, 1, 2, 3, 4, 5, 6, 7, 8, 9, 10, 11, 12, 13, 14, 15, 16, 17, 18, 19, 20] (fun W => W.heap[p]? = some (.cells (fE (.slice a xs.length c) f t pt mk) 178 (0, 0))) (by kernel_rfl) (by kernel_rfl) rfl ?_
 have hS0 : (fun W => W.heap[p]? = some (.cells (fE (.slice a xs.length c) f t pt mk) 178 (0, 0))) (w.drew) := hb
 have H3d := H1.drew
 refine fU 0 rfl hS0 rfl (iT 1 rfl hS0 rfl (dP 2 rfl hS0 1 underlying178 rfl sizeOf22 rfl (gQ 3 rfl hS0 (fun W hW => iI underlying22 rfl hW rfl) (fU 4 rfl hS0 rfl (iT 5 rfl hS0 rfl (dP 6 rfl hS0 2 underlying178 rfl sizeOf3 rfl (gQ 7 rfl hS0 (fun W hW => iI underlying3 rfl hW rfl) (iJ 8 rfl hS0 (fun _ => qG underlying22 sizeOf21 rfl rfl rfl (by omega)) (fU 9 rfl hS0 rfl (iT 10 rfl hS0 rfl (dP 11 rfl hS0 1 underlying178 rfl sizeOf22 rfl (gQ 12 rfl hS0 (fun W hW => iI underlying22 rfl hW rfl) (fU 13 rfl hS0 rfl (iT 14 rfl hS0 rfl (dP 15 rfl hS0 3 underlying178 rfl sizeOf3 rfl (gQ 16 rfl hS0 (fun W hW => iI underlying3 rfl hW rfl) (iJ 17 rfl hS0 (fun _ => qG underlying22 sizeOf21 rfl rfl rfl (by omega)) (jH 18 rfl (Ot (vs := [ny 1 0 f (.slice a xs.length c), ny 1 t xs.length (.slice a xs.length c)]) H3d underlying43 sizeOf22 zeroValue22 rfl rfl rfl (by decide) (Vg (JV rfl) (JV rfl))) ?_))))))))))))))))))
 rintro _ w2 ⟨b2, rfl, H2⟩
 have hS2 : (fun W => W.heap[p]? = some (.cells (fE (.slice a xs.length c) f t pt mk) 178 (0, 0))) w2 := H2.swap.get.2
 refine Ar hS2 ?_
 refine jH 19 rfl (rU rfl func167 (yh (l1 := xs.take f) (l2 := xs.drop t) H2 (fun W HW => jG.upto HW.FQ.aT (by omega)) (fun W HW => jG.from HW.FQ.aT (by omega)) (by simp; omega))) ?_
 rintro u w3 H3
 have hS3 : (fun W => W.heap[p]? = some (.cells (fE (.slice a xs.length c) f t pt mk) 178 (0, 0))) w3 := H3.FQ.get.2
 refine Ar hS3 ?_
 refine iJ 20 rfl hS3 (fun _ => fO rfl) (mg (aj (aJ (aP (.inl rfl) results117 rfl ?_))))
 rw [← h3] at H3
 exact (aB.kD h1 h2 h3 h4 h5 h6 h7 H3.swap.right.d3).swap
theorem CP {v : Value} {l : List Int} (H : aB w0 w F) (hr : iU w0 F .i32 v l) (hl : l.length ≤ 1024) : fQ prog 79 #[v] w fun v' w' => ∃ p, v' = .tuple #[.pointer (some ⟨p, 0, none⟩), .int .i64 0] ∧ aB w0 w' (dJ p l l.length (-1) • F) := by
 obtain ⟨a, c, rfl, _, _, _⟩ := (hr w H).open
 refine gX func79 ntmps79 ?_
 dsimp only [bg, Nat.reduceAdd]
 refine ay (ah (aV rfl (aV rfl (aA (aj (ay (ay (ah (aO rfl (aU (gK underlying22 rfl) (aU (dQ rfl rfl) (aA (aj (aH rfl (fun h => by exfalso; (try simp only [aG] at h); first | contradiction | omega | (simp at h <;> omega)) (fun h1 => ?_)))))))))))))))
 (try simp only [aG] at h1)
 refine aS (aj (ay (ah (aO rfl (dw rfl func136 (oK H hr (by omega)) ?_)))))
 rintro u w1 H1
 obtain ⟨au, cu, hu, _⟩ := (H1.aT).form
 subst hu
 refine aO rfl (aU (gK underlying22 rfl) (aU (gq (pl := #[(0, 1), (1, 1), (2, 1), (3, 1), (4, 1), (5, 1)]) (fE (.slice au l.length cu) 0 0 l.length (-1)) underlying178 zeroValue178 (fun w => by kernel_rfl) rfl (by kernel_rfl)) (iy (GI H1 rfl) ?_)))
 rintro _ w2 ⟨b2, rfl, H2⟩
 refine aV rfl (aA (aj (ay ?_)))
 have HB : aB w0 w2 (dA b2 (.cells (fE (.slice au l.length cu) 0 0 l.length (-1)) 178 (0, 0)) • iG 21 .i32 (.slice au l.length cu) l • F) := H2
 refine ah (aO rfl (aO rfl (aO rfl (aU (gK underlying22 rfl) (aO rfl (aU (gK underlying22 rfl) (bH rfl (aZ 2 underlying178 rfl sizeOf3 rfl (aI (dO HB sizeOf3 rfl rfl rfl (by rw [jC]; decide)) ?_)))))))))
 rintro _ w3 HB1
 rw [wC] at HB1
 refine bH rfl (aZ 3 underlying178 rfl sizeOf3 rfl (aI (dO HB1 sizeOf3 rfl rfl rfl (by rw [jC]; decide)) ?_))
 rintro _ w4 HB2
 rw [zO] at HB2
 refine aA (aj (ay (ah (aO rfl (aV rfl (aV rfl (aA (aj (aJ (fC (.inl rfl) results79 rfl rfl ?_))))))))))
 exact ⟨_, rfl, aB.kD (f := l.length) (t := l.length) (Nat.le_refl _) (Nat.le_refl _) (by simp) hl (by omega) (by omega) (by omega) HB2⟩
end
end Go.Proofs.YtgmpclifphbjkaaGreatDoor
end
section
namespace Go.Proofs.YtgmpclifphbjkaaGreatDoor
open Go.RowKit
open _root_.Go.Proofs.Tryz
def gB (L : List Int) (i r : Nat) : List Int := eG (eG (List.replicate (L.length + r + 16) 0) 0 (L.take i)) (i + r + 16) (L.drop i)
theorem MS {L : List Int} {i r : Nat} (h : i ≤ L.length) : (gB L i r).length = L.length + r + 16 := by
  unfold gB
  rw [bQ, bQ] <;> simp [bQ] <;> first | omega | (rw [bQ] <;> simp <;> omega)
theorem CQ {l ys : List Int} {i : Nat} (h : i + ys.length ≤ l.length) : (eG l i ys).take (i + ys.length) = l.take i ++ ys := by
  unfold eG
  rw [List.take_append_of_le_length (by simp; omega), List.take_of_length_le (by simp; omega)]
theorem JW {l ys : List Int} {i j : Nat} (h : i + ys.length ≤ j) (h2 : j ≤ l.length) : (eG l i ys).drop j = l.drop j := by
  unfold eG
  rw [List.drop_append, List.drop_eq_nil_of_le (by simp; omega), List.nil_append, List.drop_drop]
  congr 1
  simp
  omega
theorem Em {l ys : List Int} {i j : Nat} (h : j ≤ i) (h2 : i ≤ l.length) : (eG l i ys).take j = l.take j := by
  unfold eG
  rw [List.append_assoc, List.take_append_of_le_length (by simp; omega), List.take_take, Nat.min_eq_left h]
theorem En {l ys : List Int} {i : Nat} (h : i + ys.length = l.length) : (eG l i ys).drop i = ys := by
  unfold eG
  rw [List.append_assoc, List.drop_append, List.drop_eq_nil_of_le (by simp; omega), List.nil_append]
  simp [show i - min i l.length = 0 from by omega, show l.length ≤ i + ys.length from by omega]
theorem JX {L : List Int} {i r : Nat} (h : i ≤ L.length) : (gB L i r).take i = L.take i := by
  have h1 : (eG (List.replicate (L.length + r + 16) (0 : Int)) 0 (L.take i)).length = L.length + r + 16 := by rw [bQ] <;> simp; omega
  unfold gB
  rw [Em (by omega) (by rw [h1]; omega)]
  have := CQ (l := List.replicate (L.length + r + 16) (0 : Int)) (ys := L.take i) (i := 0) (by simp; omega)
  rw [show 0 + (L.take i).length = i from by simp; omega] at this
  simpa using this
theorem JY {L : List Int} {i r : Nat} (h : i ≤ L.length) : (gB L i r).drop (i + r + 16) = L.drop i := by
  have h1 : (eG (List.replicate (L.length + r + 16) (0 : Int)) 0 (L.take i)).length = L.length + r + 16 := by rw [bQ] <;> simp; omega
  exact En (by rw [h1]; simp; omega)
section
variable {w0 w : World} {F : HP} {p : Nat} {L : List Int} {pt mk : Int}
theorem IL {i r : Nat} (H : aB w0 w (dJ p L pt mk • F)) (hi : i ≤ L.length) (hr : r ≤ 1024) :
  fQ prog 165 #[.pointer (some ⟨p, 0, none⟩), .int .i64 i, .int .i64 r] w fun _ w' => ∃ v, aB w0 w' (dA p (.cells (fE v i (i + r + 16 : Nat) pt mk) 178 (0, 0)) • iG 21 .i32 v (gB L i r) • F) := by
 have hL4 : L.length ≤ 1024 := by obtain ⟨a, c, xs, f, t, h1, h2, h3, h4, h5, h6, h7, hc1, hc2, hl, H1⟩ := H.buf; exact h4
 have e1 : ((L.length : Int) + r + 16).toNat = L.length + r + 16 := by omega
 refine gX func165 ntmps165 ?_
 dsimp only [bg, Nat.reduceAdd]
 refine ay (ah (aO rfl (dw rfl func117 (kU H) ?_)))
 rintro u w1 H1
 obtain ⟨au, cu, hu, hcu, ab7, _⟩ := (H1.aT).form
 subst hu
 obtain ⟨a, c, xs, f, t, h1, h2, h3, h4, h5, h6, h7, hc1, hc2, hl, HB⟩ := H1.swap.buf
 refine aV rfl (aA (aj (ay (ah (aO rfl (aO rfl (aU (gK underlying22 rfl) (aO rfl (aU (eP rfl rfl (by omega)) (aU (eP rfl rfl (by omega)) (iy (JM HB underlying22 yg rfl rfl (by omega) (by omega) (by omega)) ?_)))))))))))
 rintro v w2 H2
 rw [e1] at H2
 have hm : (List.replicate (L.length + r + 16) (0 : Int)).length = L.length + r + 16 := by simp
 obtain ⟨av, cv, hv, hcv, hcv2, _⟩ := (H2.aT).form
 rw [hm] at hv hcv
 subst hv
 refine bH rfl (aZ 1 underlying178 rfl sizeOf22 rfl (aI (dO H2.swap sizeOf22 rfl rfl rfl (by rw [jC]; decide)) ?_))
 rintro _ w3 H3
 rw [P7] at H3
 refine aA (aj (ay (ah (aO rfl (aO rfl (bH rfl (aZ 2 underlying178 rfl sizeOf3 rfl (aI (dO H3 sizeOf3 rfl rfl rfl (by rw [jC]; decide)) ?_))))))))
 rintro _ w4 H4
 rw [wC] at H4
 refine aA (aj (ay (ah (aO rfl (aO rfl (bH rfl (aZ 1 underlying178 rfl sizeOf22 rfl (cO underlying22 rfl H4.get.2 rfl (aU (gK underlying22 rfl) (aO rfl (aU (gK underlying22 rfl) (aO rfl (aU (jB rfl rfl (by omega)) (aU (jB rfl rfl (by omega)) (bH rfl (aZ 3 underlying178 rfl sizeOf3 rfl (aI (dO H4 sizeOf3 rfl rfl rfl (by rw [jC]; decide)) ?_)))))))))))))))))
 rintro _ w5 H5
 rw [zO, show (((L.length + r + 16 : Nat) : Int) - ((L.length : Int) - (i : Int))) = ((i + r + 16 : Nat) : Int) from by omega] at H5
 have hb3 := H5.get.2
 refine aA (aj (ay ?_))
 refine kN (n := 8) [0, 1, 2, 3, 4, 5, 6, 7] (fun W => W.heap[p]? = some (.cells (fE (.slice av (L.length + r + 16) cv) i (i + r + 16 : Nat) pt mk) 178 (0, 0))) (by kernel_rfl) (by kernel_rfl) rfl ?_
 have hS0 : (fun W => W.heap[p]? = some (.cells (fE (.slice av (L.length + r + 16) cv) i (i + r + 16 : Nat) pt mk) 178 (0, 0))) (w5.drew) := hb3
 have H4d := H5.drew
 refine fU 0 rfl hS0 rfl (iT 1 rfl hS0 rfl (dP 2 rfl hS0 1 underlying178 rfl sizeOf22 rfl (gQ 3 rfl hS0 (fun W hW => iI underlying22 rfl hW rfl) (fU 4 rfl hS0 rfl (fU 5 rfl hS0 rfl (iJ 6 rfl hS0 (fun _ => qG underlying22 sizeOf21 rfl rfl rfl (by omega)) (jH 7 rfl (xZ (i := 0) (m := L.take i) H4d.swap (jG.upto H4d.r4.aT (by omega)) underlying22 (by kernel_rfl) (by rw [hm, MP]; rfl) rfl (by simp; omega)) ?_)))))))
 rintro _ w6 ⟨rfl, H6⟩
 have hm2 : (eG (List.replicate (L.length + r + 16) (0 : Int)) 0 (L.take i)).length = L.length + r + 16 := by rw [bQ] <;> simp; omega
 refine Ea (by kernel_rfl) ?_
 refine mg (aj ?_)
 refine kN (n := 13) [0, 1, 2, 3, 4, 5, 6, 7, 8, 9, 10, 11, 12] (fun W => W.heap[p]? = some (.cells (fE (.slice av (L.length + r + 16) cv) i (i + r + 16 : Nat) pt mk) 178 (0, 0))) (by kernel_rfl) (by kernel_rfl) rfl ?_
 have hS0 : (fun W => W.heap[p]? = some (.cells (fE (.slice av (L.length + r + 16) cv) i (i + r + 16 : Nat) pt mk) 178 (0, 0))) (w6.drew) := H6.swap.get.2
 have H5d := H6.drew
 refine fU 0 rfl hS0 rfl (iT 1 rfl hS0 rfl (dP 2 rfl hS0 1 underlying178 rfl sizeOf22 rfl (gQ 3 rfl hS0 (fun W hW => iI underlying22 rfl hW rfl) (fU 4 rfl hS0 rfl (iT 5 rfl hS0 rfl (dP 6 rfl hS0 3 underlying178 rfl sizeOf3 rfl (gQ 7 rfl hS0 (fun W hW => iI underlying3 rfl hW rfl) (iJ 8 rfl hS0 (fun _ => qG underlying22 sizeOf21 rfl rfl rfl (by omega)) (fU 9 rfl hS0 rfl (fU 10 rfl hS0 rfl (iJ 11 rfl hS0 (fun _ => qG underlying22 sizeOf21 rfl rfl rfl (by omega)) (jH 12 rfl (xZ (i := i + r + 16) (m := L.drop i) H5d (jG.from H5d.r4.aT (by omega)) underlying22 (by kernel_rfl) (by rw [hm2]; rfl) rfl (by rw [hm2]; simp; omega)) ?_))))))))))))
 rintro _ w7 ⟨rfl, H7⟩
 refine Ea (by kernel_rfl) ?_
 refine mg (dN (.inr rfl) results165 ?_)
 exact ⟨_, H7.swap.FQ.right.FQ.right⟩
theorem jX (H : aB w0 w (dJ p L pt mk • F)) : fQ prog 130 #[.pointer (some ⟨p, 0, none⟩)] w fun v w' => v = .bool false ∧ w = w' := by
  obtain ⟨a, c, xs, f, t, h1, h2, h3, h4, h5, h6, h7, hc1, hc2, hl, H1⟩ := H.buf
  exact pz _ H1.get.2 rfl
def bK (pt i j n : Int) : Int := if j < pt then pt + (n - (j - i)) else if i ≤ pt then i + n else pt
def bP (mk i j n : Int) : Int := if j < mk then mk + (n - (j - i)) else if i < mk then i else mk
def gU (at_ : Int) (d i : Value) : Array Value := #[.int .i64 at_, d, i]
theorem kV {at_ : Int} {d i : Value} (hd : d.oneCell' = true) (hi : i.oneCell' = true) : ∀ v ∈ (gU at_ d i).toList, v.oneCell' = true := by
  intro v hv
  simp [gU] at hv
  rcases hv with rfl | rfl | rfl <;> first | rfl | assumption
variable {v : Value} {l : List Int} {i j : Int}
theorem Du (H : aB w0 w (dJ p L pt mk • F)) (hr : iU w0 F .i32 v l) (hb : i < 0 ∨ L.length < i ∨ j < i ∨ L.length < j) :
  fQ prog 113 #[.pointer (some ⟨p, 0, none⟩), .int .i64 i, .int .i64 j, v] w fun v' w' => v' = .tuple #[.agg (gU 0 (.slice none 0 0) (.slice none 0 0)), .int .i64 70] ∧ aB w0 w' (dJ p L pt mk • F) := by
 obtain ⟨a, c, rfl, _, _, _⟩ := (hr w H.right).open
 refine gX func113 ntmps113 ?_
 dsimp only [bg, Nat.reduceAdd]
 refine ay (ah (iy (wu H zeroValue120) ?_))
 rintro _ w1 ⟨b1, rfl, H1⟩
 refine aV rfl (aA (aj (ay (ah (aO rfl (dw rfl func69 (jF H1.right) ?_))))))
 rintro _ w2 ⟨rfl, hD⟩
 have HL := H1.nH hD
 refine aV rfl (aA (aj (ay (bf (ay (ah (aO rfl (dw rfl func130 (jX HL.right) ?_))))))))
 rintro _ _ ⟨rfl, rfl⟩
 refine aV rfl (aA (aj (aH rfl (fun h1 => ?_) (fun h1 => ?_))))
 ·(try simp only [aG] at h1)
  try (exfalso; first | contradiction | omega)
  all_goals
   refine ay (ah (aU (gq (pl := #[(0, 1), (1, 1), (2, 1)]) (_) underlying120 zeroValue120 (fun w => by kernel_rfl) rfl (rfl)) (aI (dO HL sizeOf120 rfl rfl rfl (by decide)) ?_)))
   rintro _ w4 H4
   refine aV rfl (aA (aj (aJ (aW (aK ?_)))))
   refine gI (.inl rfl) results113 rfl rfl underlying120 rfl (by rw [show (prog.info? 120).map (·.size) = some 3 from by kernel_rfl]; rfl) H4.get.2 ?_
   exact ⟨rfl, H4.right⟩
 ·(try simp only [aG] at h1)
  try (exfalso; first | contradiction | omega)
  all_goals
   refine ay (ah (aO rfl (aU (dL rfl rfl) (jo rfl (fun h2 => ?_) (fun h2 => ?_)))))
   ·(try simp only [aG] at h2)
    try (exfalso; first | contradiction | omega)
    all_goals
     refine bI (bI (bI (jO rfl rfl (aO rfl (bI (bI (bI (jO rfl rfl (aO rfl (bI (bI (bI (jO rfl rfl (aV rfl (aA (aj (yL (ay (ah (aU (gq (pl := #[(0, 1), (1, 1), (2, 1)]) (gU 0 (.slice none 0 0) (.slice none 0 0)) underlying120 zeroValue120 (fun w => by kernel_rfl) rfl (by kernel_rfl)) (aI (dR (cs := gU 0 (.slice none 0 0) (.slice none 0 0)) HL sizeOf120 rfl rfl rfl rfl (kV rfl rfl)) ?_)))))))))))))))))))))
     rintro _ w5 H5
     refine aV rfl (aA (aj (aJ (aW (aK ?_)))))
     refine gI (.inl rfl) results113 rfl rfl underlying120 rfl (by rw [show (prog.info? 120).map (·.size) = some 3 from by kernel_rfl]; rfl) H5.get.2 ?_
     exact ⟨rfl, H5.right⟩
   ·(try simp only [aG] at h2)
    try (exfalso; first | contradiction | omega)
    all_goals
     refine bD (aO rfl (bD (aO rfl (bD (aU (dQ rfl rfl) (jr rfl rfl (jo rfl (fun h3 => ?_) (fun h3 => ?_))))))))
     ·(try simp only [aG] at h3)
      try (exfalso; first | contradiction | omega)
      all_goals
       refine bI (bI (bI (jO rfl rfl (aO rfl (bI (bI (bI (jO rfl rfl (aV rfl (aA (aj (yL (ay (ah (aU (gq (pl := #[(0, 1), (1, 1), (2, 1)]) (gU 0 (.slice none 0 0) (.slice none 0 0)) underlying120 zeroValue120 (fun w => by kernel_rfl) rfl (by kernel_rfl)) (aI (dR (cs := gU 0 (.slice none 0 0) (.slice none 0 0)) HL sizeOf120 rfl rfl rfl rfl (kV rfl rfl)) ?_))))))))))))))))
       rintro _ w6 H6
       refine aV rfl (aA (aj (aJ (aW (aK ?_)))))
       refine gI (.inl rfl) results113 rfl rfl underlying120 rfl (by rw [show (prog.info? 120).map (·.size) = some 3 from by kernel_rfl]; rfl) H6.get.2 ?_
       exact ⟨rfl, H6.right⟩
     ·(try simp only [aG] at h3)
      try (exfalso; first | contradiction | omega)
      all_goals
       refine bD (aO rfl (bD (aO rfl (bD (aU (dL rfl rfl) (jr rfl rfl (jo rfl (fun h4 => ?_) (fun h4 => ?_))))))))
       ·(try simp only [aG] at h4)
        try (exfalso; first | contradiction | omega)
        all_goals
         refine bI (bI (bI (jO rfl rfl (aV rfl (aA (aj (yL (ay (ah (aU (gq (pl := #[(0, 1), (1, 1), (2, 1)]) (gU 0 (.slice none 0 0) (.slice none 0 0)) underlying120 zeroValue120 (fun w => by kernel_rfl) rfl (by kernel_rfl)) (aI (dR (cs := gU 0 (.slice none 0 0) (.slice none 0 0)) HL sizeOf120 rfl rfl rfl rfl (kV rfl rfl)) ?_)))))))))))
         rintro _ w7 H7
         refine aV rfl (aA (aj (aJ (aW (aK ?_)))))
         refine gI (.inl rfl) results113 rfl rfl underlying120 rfl (by rw [show (prog.info? 120).map (·.size) = some 3 from by kernel_rfl]; rfl) H7.get.2 ?_
         exact ⟨rfl, H7.right⟩
       ·(try simp only [aG] at h4)
        try (exfalso; first | contradiction | omega)
        all_goals
         refine bD (aO rfl (bD (aO rfl (bD (aU (dQ rfl rfl) (jr rfl rfl (aV rfl (aA (aj (aH rfl (fun h5 => ?_) (fun h => by exfalso; (try simp only [aG] at h); first | contradiction | omega | (simp at h <;> omega))))))))))))
         (try simp only [aG] at h5)
         refine ay (ah (aU (gq (pl := #[(0, 1), (1, 1), (2, 1)]) (gU 0 (.slice none 0 0) (.slice none 0 0)) underlying120 zeroValue120 (fun w => by kernel_rfl) rfl (by kernel_rfl)) (aI (dR (cs := gU 0 (.slice none 0 0) (.slice none 0 0)) HL sizeOf120 rfl rfl rfl rfl (kV rfl rfl)) ?_)))
         rintro _ w8 H8
         refine aV rfl (aA (aj (aJ (aW (aK ?_)))))
         refine gI (.inl rfl) results113 rfl rfl underlying120 rfl (by rw [show (prog.info? 120).map (·.size) = some 3 from by kernel_rfl]; rfl) H8.get.2 ?_
         exact ⟨rfl, H8.right⟩
theorem BP (H : aB w0 w (dJ p L pt mk • F)) (hr : iU w0 F .i32 v l) (hb : 0 ≤ i ∧ i ≤ j ∧ j ≤ L.length) (hl : 1024 < L.length - (j - i) + l.length) :
  fQ prog 113 #[.pointer (some ⟨p, 0, none⟩), .int .i64 i, .int .i64 j, v] w fun v' w' => v' = .tuple #[.agg (gU 0 (.slice none 0 0) (.slice none 0 0)), .int .i64 3] ∧ aB w0 w' (dJ p L pt mk • F) := by
 obtain ⟨a, c, rfl, _, _, _⟩ := (hr w H.right).open
 have hL4 : L.length ≤ 1024 := by obtain ⟨a, c, xs, f, t, h1, h2, h3, h4, h5, h6, h7, hc1, hc2, hl, H1⟩ := H.buf; exact h4
 refine gX func113 ntmps113 ?_
 dsimp only [bg, Nat.reduceAdd]
 refine ay (ah (iy (wu H zeroValue120) ?_))
 rintro _ w1 ⟨b1, rfl, H1⟩
 refine aV rfl (aA (aj (ay (ah (aO rfl (dw rfl func69 (jF H1.right) ?_))))))
 rintro _ w2 ⟨rfl, hD⟩
 have HL := H1.nH hD
 refine aV rfl (aA (aj (ay (bf (ay (ah (aO rfl (dw rfl func130 (jX HL.right) ?_))))))))
 rintro _ _ ⟨rfl, rfl⟩
 refine aV rfl (aA (aj (aH rfl (fun h1 => ?_) (fun h1 => ?_))))
 ·(try simp only [aG] at h1)
  try (exfalso; first | contradiction | omega)
  all_goals
   refine ay (ah (aU (gq (pl := #[(0, 1), (1, 1), (2, 1)]) (_) underlying120 zeroValue120 (fun w => by kernel_rfl) rfl (rfl)) (aI (dO HL sizeOf120 rfl rfl rfl (by decide)) ?_)))
   rintro _ w4 H4
   refine aV rfl (aA (aj (aJ (aW (aK ?_)))))
   refine gI (.inl rfl) results113 rfl rfl underlying120 rfl (by rw [show (prog.info? 120).map (·.size) = some 3 from by kernel_rfl]; rfl) H4.get.2 ?_
   exact ⟨rfl, H4.right⟩
 ·(try simp only [aG] at h1)
  try (exfalso; first | contradiction | omega)
  all_goals
   refine ay (ah (aO rfl (aU (dL rfl rfl) (jo rfl (fun h2 => ?_) (fun h2 => ?_)))))
   ·(try simp only [aG] at h2)
    try (exfalso; first | contradiction | omega)
    all_goals
     refine bI (bI (bI (jO rfl rfl (aO rfl (bI (bI (bI (jO rfl rfl (aO rfl (bI (bI (bI (jO rfl rfl (aV rfl (aA (aj (yL (ay (ah (aU (gq (pl := #[(0, 1), (1, 1), (2, 1)]) (_) underlying120 zeroValue120 (fun w => by kernel_rfl) rfl (rfl)) (aI (dO HL sizeOf120 rfl rfl rfl (by decide)) ?_)))))))))))))))))))))
     rintro _ w5 H5
     refine aV rfl (aA (aj (aJ (aW (aK ?_)))))
     refine gI (.inl rfl) results113 rfl rfl underlying120 rfl (by rw [show (prog.info? 120).map (·.size) = some 3 from by kernel_rfl]; rfl) H5.get.2 ?_
     exact ⟨rfl, H5.right⟩
   ·(try simp only [aG] at h2)
    try (exfalso; first | contradiction | omega)
    all_goals
     refine bD (aO rfl (bD (aO rfl (bD (aU (dQ rfl rfl) (jr rfl rfl (jo rfl (fun h3 => ?_) (fun h3 => ?_))))))))
     ·(try simp only [aG] at h3)
      try (exfalso; first | contradiction | omega)
      all_goals
       refine bI (bI (bI (jO rfl rfl (aO rfl (bI (bI (bI (jO rfl rfl (aV rfl (aA (aj (yL (ay (ah (aU (gq (pl := #[(0, 1), (1, 1), (2, 1)]) (_) underlying120 zeroValue120 (fun w => by kernel_rfl) rfl (rfl)) (aI (dO HL sizeOf120 rfl rfl rfl (by decide)) ?_))))))))))))))))
       rintro _ w6 H6
       refine aV rfl (aA (aj (aJ (aW (aK ?_)))))
       refine gI (.inl rfl) results113 rfl rfl underlying120 rfl (by rw [show (prog.info? 120).map (·.size) = some 3 from by kernel_rfl]; rfl) H6.get.2 ?_
       exact ⟨rfl, H6.right⟩
     ·(try simp only [aG] at h3)
      try (exfalso; first | contradiction | omega)
      all_goals
       refine bD (aO rfl (bD (aO rfl (bD (aU (dL rfl rfl) (jr rfl rfl (jo rfl (fun h4 => ?_) (fun h4 => ?_))))))))
       ·(try simp only [aG] at h4)
        try (exfalso; first | contradiction | omega)
        all_goals
         refine bI (bI (bI (jO rfl rfl (aV rfl (aA (aj (yL (ay (ah (aU (gq (pl := #[(0, 1), (1, 1), (2, 1)]) (_) underlying120 zeroValue120 (fun w => by kernel_rfl) rfl (rfl)) (aI (dO HL sizeOf120 rfl rfl rfl (by decide)) ?_)))))))))))
         rintro _ w7 H7
         refine aV rfl (aA (aj (aJ (aW (aK ?_)))))
         refine gI (.inl rfl) results113 rfl rfl underlying120 rfl (by rw [show (prog.info? 120).map (·.size) = some 3 from by kernel_rfl]; rfl) H7.get.2 ?_
         exact ⟨rfl, H7.right⟩
       ·(try simp only [aG] at h4)
        try (exfalso; first | contradiction | omega)
        all_goals
         refine bD (aO rfl (bD (aO rfl (bD (aU (dQ rfl rfl) (jr rfl rfl (aV rfl (aA (aj (aH rfl (fun h => by exfalso; (try simp only [aG] at h); first | contradiction | omega | (simp at h <;> omega)) (fun h5 => ?_)))))))))))
         (try simp only [aG] at h5)
         refine ay (ah (aO rfl (aU (gK underlying22 rfl) (aO rfl (aO rfl (aO rfl (aU (jB rfl rfl (by omega)) (aU (jB rfl rfl (by omega)) (aU (jB rfl rfl (by omega)) (aU (dQ rfl rfl) (aV rfl (aA (aj (aH rfl (fun h6 => ?_) (fun h => by exfalso; (try simp only [aG] at h); first | contradiction | omega | (simp at h <;> omega))))))))))))))))
         (try simp only [aG] at h6)
         refine ay (ah (aU (gq (pl := #[(0, 1), (1, 1), (2, 1)]) (gU 0 (.slice none 0 0) (.slice none 0 0)) underlying120 zeroValue120 (fun w => by kernel_rfl) rfl (by kernel_rfl)) (aI (dR (cs := gU 0 (.slice none 0 0) (.slice none 0 0)) HL sizeOf120 rfl rfl rfl rfl (kV rfl rfl)) ?_)))
         rintro _ w8 H8
         refine aV rfl (aA (aj (aJ (aW (aK ?_)))))
         refine gI (.inl rfl) results113 rfl rfl underlying120 rfl (by rw [show (prog.info? 120).map (·.size) = some 3 from by kernel_rfl]; rfl) H8.get.2 ?_
         exact ⟨rfl, H8.right⟩
end
end Go.Proofs.YtgmpclifphbjkaaGreatDoor
end
