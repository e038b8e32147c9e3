import Derived.Test.YtddekefihgejoaaGreatDoorZ2
import Derived.Test.YtddekefihgejoaaGreatDoorZ3
import Derived.Test.YtddekefihgejoaaGreatDoorZ4
import Derived.Test.YtddekefihgejoaaGreatDoorProg
set_option linter.unusedSimpArgs false
set_option linter.unusedVariables false
/- Texts of mine, joined, their names in short: ELaidU Five Sum Equal Slices LL Flat Undo1 Undo2 LitS Eds. -/
section
set_option maxRecDepth 100000
namespace Go.Proofs.YtddekefihgejoaaGreatDoor
open Go.ChangeShapes Go.WideShapes Go.ChangeAt Go.RowKit
theorem V8 : Tryz.prog.globalNamed "unicode/utf8.first" = some 0 := by kernel_rfl
theorem aae : Tryz.prog.globalNamed "unicode/utf8.acceptRanges" = some 1 := by kernel_rfl
theorem V9 : (Tryz.prog.globals[0]?).map (·.type) = some 245 := by kernel_rfl
theorem aaf : (Tryz.prog.globals[1]?).map (·.type) = some 248 := by kernel_rfl
def F5 : List (Int × Int) := [(128, 191), (160, 191), (128, 159), (144, 191), (128, 143), (0, 0), (0, 0), (0, 0), (0, 0), (0, 0), (0, 0), (0, 0), (0, 0), (0, 0), (0, 0), (0, 0)]
def Nw (x : Int × Int) : DataW Unit := .agg [.lit (.int .u8 x.1), .lit (.int .u8 x.2)]
def qc (T : List (Int × Int)) : List Value := T.flatMap fun x => [.int .u8 x.1, .int .u8 x.2]
theorem F6 (T : List (Int × Int)) (k : Nat) (h : k < T.length) : (qc T).getD (k * 2) undef = .int .u8 (T.getD k (0, 0)).1 ∧ (qc T).getD (k * 2 + 1) undef = .int .u8 (T.getD k (0, 0)).2 := by
  induction T generalizing k with
  | nil => simp at h
  | cons x r ih =>
    cases k with
    | zero => exact ⟨rfl, rfl⟩
    | succ k =>
      have := ih k (by simpa using h)
      rw [show (k + 1) * 2 = k * 2 + 2 from by omega, show k * 2 + 2 + 1 = (k * 2 + 1) + 2 from by omega]
      simpa [qc, List.getD_eq_getElem?_getD] using this
theorem Jk (T : List (Int × Int)) : (qc T).length = T.length * 2 := by
  induction T with
  | nil => rfl
  | cons x r ih => simp only [qc, List.flatMap_cons, List.length_append] at *; simp [ih]; omega
section
variable {enc : TypeId × Value → Unit} {w : World} {base : Nat} {spare : Nat → Bool} {held : Bool} {fuel : Nat} {ps : List MemPlace}
theorem Uo {cs : List Value} {x : Int × Int} (h : DataW.trod enc Tryz.prog w base spare held fuel 247 cs = some (Nw x, ps)) : cs = [.int .u8 x.1, .int .u8 x.2] := by
  obtain ⟨xs, n, -, hx, hl, hl2, hf⟩ := DataW.trod_struct Tryz.underlying247 h
  rw [show Tryz.prog.cellsOf 247 = 2 from by kernel_rfl] at hl
  simp only [Prod.mk.injEq, Nw, DataW.agg.injEq] at hx
  match xs, hl2, hx, cs, hl with
  | [y0, y1], _, hx, [c0, c1], _ =>
    have h0 : DataW.trod enc Tryz.prog w base spare held n 5 (([c0, c1].drop 0).take (Tryz.prog.cellsOf 5)) = some y0 := hf 0 _ rfl
    have h1 : DataW.trod enc Tryz.prog w base spare held n 5 (([c0, c1].drop 1).take (Tryz.prog.cellsOf 5)) = some y1 := hf 1 _ rfl
    simp only [List.map_cons, List.map_nil, List.cons.injEq] at hx
    obtain ⟨n0, e0, d0, -⟩ := DataW.trod_int Tryz.underlying5 h0
    obtain ⟨n1, e1, d1, -⟩ := DataW.trod_int Tryz.underlying5 h1
    rw [show Tryz.prog.cellsOf 5 = 1 from by kernel_rfl] at e0 e1
    simp at e0 e1
    rw [d0, d1] at hx
    simp at hx
    subst e0; subst e1
    rw [hx.1.1, hx.1.2]
theorem Ur {t n : Nat} {cs : List Value} {T : List (Int × Int)} (ht : Tryz.prog.underlying t = some (.array n 247)) (hc : Tryz.prog.cellsOf t = n * 2) (h : DataW.trod enc Tryz.prog w base spare held fuel t cs = some (.agg (T.map Nw), ps)) : cs = qc T := by
  obtain ⟨xs, m, -, hx, hl, hl2, hel⟩ := DataW.trod_array ht h
  simp only [Prod.mk.injEq, DataW.agg.injEq] at hx
  rw [hc] at hl
  have hTn : T.length = n := by have := congrArg List.length hx.1; simpa [hl2] using this
  have hv := Jk T
  apply List.ext_getElem?
  intro j
  by_cases hj : j < n * 2
  · have hk : j / 2 < n := by omega
    have h1 := hel (j / 2) hk
    rw [show Tryz.prog.cellsOf 247 = 2 from by kernel_rfl, List.getElem?_eq_getElem (by omega)] at h1
    have h2 : xs[j / 2].1 = Nw (T.getD (j / 2) (0, 0)) := by
      have := congrArg (fun l => l[j / 2]?) hx.1
      simp [List.getElem?_eq_getElem (show j / 2 < T.length by omega), List.getElem?_eq_getElem (show j / 2 < xs.length by omega)] at this
      rw [List.getD_eq_getElem?_getD, List.getElem?_eq_getElem (show j / 2 < T.length by omega), Option.getD_some, this]
    have h3 := Uo (x := T.getD (j / 2) (0, 0)) (ps := xs[j / 2].2) (by rw [h1, ← h2])
    obtain ⟨e0, e1⟩ := F6 T (j / 2) (by omega)
    have hq : (qc T)[j]? = some ((qc T).getD j undef) := by rw [List.getD_eq_getElem?_getD, List.getElem?_eq_getElem (by omega)]; rfl
    rw [hq]
    rcases (show j = j / 2 * 2 ∨ j = j / 2 * 2 + 1 by omega) with hj2 | hj2
    · have := congrArg (fun l => l[0]?) h3
      simp [List.getElem?_drop] at this
      rw [show j / 2 * 2 = j from by omega] at this e0
      rw [this, e0]; simp [List.getD_eq_getElem?_getD]
    · have := congrArg (fun l => l[1]?) h3
      simp [List.getElem?_take, List.getElem?_drop] at this
      rw [show j / 2 * 2 + 1 = j from by omega] at this e1
      rw [this, e1]; simp [List.getD_eq_getElem?_getD]
  · rw [List.getElem?_eq_none (by omega), List.getElem?_eq_none (by omega)]
theorem QC {t n : Nat} {cs : List Value} {Z : List Nat} (ht : Tryz.prog.underlying t = some (.array n 5)) (h : DataW.trod enc Tryz.prog w base spare held fuel t cs = some (.agg (Z.map fun (q : Nat) => .lit (.int .u8 q)), ps)) {r : Nat} (hr : r < n) : cs[r]? = some (.int .u8 (Z.getD r 0 : Nat)) := by
  obtain ⟨xs, m, _, ex, _, hl, hel⟩ := DataW.trod_array ht h
  have c5 : Tryz.prog.cellsOf 5 = 1 := by kernel_rfl
  have hE := hel r hr
  rw [c5, Nat.mul_one, List.getElem?_eq_getElem (by omega)] at hE
  obtain ⟨z, e1, e2, _⟩ := DataW.trod_int Tryz.underlying5 hE
  have e3 : (xs.map (·.1)) = Z.map fun (q : Nat) => .lit (.int .u8 q) := (DataW.agg.inj (Prod.mk.inj ex).1).symm
  have hzl : Z.length = n := by have := congrArg List.length e3; simpa [hl] using this.symm
  have e4 : (xs.map (·.1))[r]? = (Z.map fun (q : Nat) => (DataW.lit (.int .u8 q) : DataW Unit))[r]? := by rw [e3]
  rw [List.getElem?_map, List.getElem?_map, List.getElem?_eq_getElem (by omega : r < xs.length), List.getElem?_eq_getElem (by omega : r < Z.length), e2] at e4
  have hz : z = (Z.getD r 0 : Nat) := by
    simp only [Option.map_some, Option.some.injEq, DataW.lit.injEq, Lit.int.injEq, true_and] at e4
    rw [e4, List.getD_eq_getElem?_getD, List.getElem?_eq_getElem (by omega : r < Z.length)]; rfl
  have : cs[r]? = some (.int .u8 z) := by
    have h0 : ((cs.drop r).take 1)[0]? = some (.int .u8 z) := by rw [e1]; rfl
    simpa using h0
  rw [this, hz]
end
theorem DX {W : World} (h : laidMetH Tryz.prog DR W) : tu W := by
  rw [MakeChecks.laidMetH_plain _ _ _ (by kernel_rfl)] at h
  obtain ⟨ps, ⟨g3, t3, cs3, f3, p3, q3, hg3, ht3, hv3, hd3, ⟨g2, t2, cs2, f2, p2, q2, hg2, ht2, hv2, hd2, _, _⟩, _⟩, _, _⟩ := h
  obtain rfl := Option.some.inj (V8.symm.trans hg2)
  obtain rfl := Option.some.inj (aae.symm.trans hg3)
  obtain rfl := Option.some.inj (V9.symm.trans ht2)
  obtain rfl := Option.some.inj (aaf.symm.trans ht3)
  have e3 := Ur (T := F5) Tryz.underlying248 (by kernel_rfl) hd3
  refine ⟨fun x hx => ?_, fun i hi => ?_⟩
  · rw [World.var?_cell hg2 hv2 x, ← Array.getElem?_toList, QC (Z := Go.Pinned.utf8FirstZ) Tryz.underlying245 hd2 hx]; rfl
  · have hp := F6 F5 i (by simp [F5]; omega)
    have ha : F5.getD i (0, 0) = OM.getD i (0, 0) := by
      match i, hi with
      | 0, _ => rfl
      | 1, _ => rfl
      | 2, _ => rfl
      | 3, _ => rfl
      | 4, _ => rfl
    rw [ha] at hp
    have hl := Jk F5
    have hl2 : F5.length = 16 := rfl
    constructor
    · rw [World.var?_cell hg3 hv3 _, ← Array.getElem?_toList, e3, ← hp.1, List.getD_eq_getElem?_getD, List.getElem?_eq_getElem (by omega)]; rfl
    · rw [World.var?_cell hg3 hv3 _, ← Array.getElem?_toList, e3, ← hp.2, List.getD_eq_getElem?_getD, List.getElem?_eq_getElem (by omega)]; rfl
end Go.Proofs.YtddekefihgejoaaGreatDoor
end
section
namespace Go.Proofs.YtddekefihgejoaaGreatDoor
open Go.ChangeShapes Go.WideShapes Go.ChangeAt Go.RowKit
end Go.Proofs.YtddekefihgejoaaGreatDoor
end
section
namespace Go.Proofs.YtddekefihgejoaaGreatDoor
open Go.ChangeShapes Go.WideShapes Go.ChangeAt Go.RowKit
theorem QD {α : Type _} {l : List α} (h : l.length = 4) : ∃ a b c d, l = [a, b, c, d] := by match l, h with | [a, b, c, d], _ => exact ⟨a, b, c, d, rfl⟩
theorem wS.four {H : Type} {B : Nat} {enc : TypeId × Value → H} {P : Program} {W : World} {args : Array Value} {t1 t2 t3 t4 : TypeId} (h : wS B enc P W [t1, t2, t3, t4] args.toList) : ∃ v1 v2 v3 v4, args = #[v1, v2, v3, v4] ∧ ((∃ base, Value.okWide P W .any base t1 v1) ∧ vV B enc P W t1 v1.cells.toList) ∧ ((∃ base, Value.okWide P W .any base t2 v2) ∧ vV B enc P W t2 v2.cells.toList) ∧ ((∃ base, Value.okWide P W .any base t3 v3) ∧ vV B enc P W t3 v3.cells.toList) ∧ ((∃ base, Value.okWide P W .any base t4 v4) ∧ vV B enc P W t4 v4.cells.toList) := by
  obtain ⟨v1, w1, e, h1, i1, r1⟩ := h.cons; obtain ⟨v2, w2, rfl, h2, i2, r2⟩ := r1.cons; obtain ⟨v3, w3, rfl, h3, i3, r3⟩ := r2.cons; obtain ⟨v4, w4, rfl, h4, i4, r4⟩ := r3.cons; obtain rfl := r4.nil'
  exact ⟨v1, v2, v3, v4, by cases args; simp_all, ⟨h1, i1⟩, ⟨h2, i2⟩, ⟨h3, i3⟩, ⟨h4, i4⟩⟩
section
variable {H : Type} {P : Program} {enc : TypeId × Value → H} {W : World}
end
end Go.Proofs.YtddekefihgejoaaGreatDoor
end
section
namespace Go.Proofs.YtddekefihgejoaaGreatDoor
open Go.RowKit
open _root_.Go.Proofs.Tryz
theorem vX {l m : List Int} {i : Nat} (h1 : i < l.length) (h2 : i < m.length) (h : l.take i = m.take i) (e : l.getD i 0 = m.getD i 0) : l.take (i + 1) = m.take (i + 1) := by
  rw [List.take_succ_eq_append_getElem h1, List.take_succ_eq_append_getElem h2, h]
  simp [List.getD_eq_getElem?_getD, h1, h2] at e
  rw [e]
theorem AO (w : World) (v1 v2 : Value) (l1 l2 : List Int) (h1 : iI w .i32 v1 l1) (h2 : iI w .i32 v2 l2) :
  fQ prog 70 #[v1, v2] w fun v w' => v = .bool (l1 == l2) ∧ lS w w' := by
 obtain ⟨a1, c1, rfl, hc1, hm1, hr1⟩ := h1.open
 obtain ⟨a2, c2, rfl, hc2, hm2, hr2⟩ := h2.open
 clear h1 h2
 refine iw func70 ntmps70 ?_
 dsimp only [aZ, Nat.reduceAdd]
 refine ay (ah (aW rfl (aB (aj (ay (ay (ah (aP rfl (aU (iU underlying23 rfl) (aP rfl (aU (iU underlying23 rfl) (aU (dG rfl rfl) (aB (aj (aO rfl (fun h1 => ?_) (fun h1 => ?_))))))))))))))))
 ·(try simp only [aG] at h1)
  try (exfalso; first | contradiction | omega)
  all_goals
   refine ay (ah (aW rfl (aB (aj (aN (aK (aT (.inl rfl) results70 rfl ?_)))))))
   exact ⟨by rw [show (l1 == l2) = false from beq_eq_false_iff_ne.2 (by rintro rfl; exact h1 rfl)], lS.refl _⟩
 ·(try simp only [aG] at h1)
  try (exfalso; first | contradiction | omega)
  all_goals
   refine aQ (aj (ay (ay (ah (aP rfl (aU (iU underlying23 rfl) (aP rfl (aB (aj (aY ?_))))))))))
   refine eP [(0, _), (1, _), (12, _)] (fun (k : Nat) => [(13, .int .i64 (k : Int))]) (fun (k : Nat) W => k ≤ l1.length ∧ l1.length = l2.length ∧ l1.take k = l2.take k ∧ lS w W) (fun (k : Nat) => l1.length - k) (0) (Sub.cons rfl (Sub.cons rfl (Sub.cons rfl (Sub.nil _)))) (Sub.cons rfl (Sub.nil _)) ⟨by omega, by omega, by simp, lS.refl _⟩ ?_
   rintro k w1 ⟨hk, hl, ht, hD⟩
   dsimp only [List.cons_append, List.nil_append]
   refine ay (ah (aU (dV rfl rfl) (aB (aj (ay (aO rfl (fun h2 => ?_) (fun h2 => ?_)))))))
   ·(try simp only [aG] at h2)
    try (exfalso; first | contradiction | omega)
    all_goals
     refine aQ (aj (ay (aY (ay (ah (aP rfl (aW rfl (aB (aj (ay ?_))))))))))
     obtain ⟨b1, o1, rfl, hq1⟩ := hr1 (by omega)
     obtain ⟨b2, o2, rfl, hq2⟩ := hr2 (by omega)
     have hc1 := hq1 k (by omega)
     have hc2 := hq2 k (by omega)
     refine kX (n := 9) [0, 1, 2, 3, 4, 5, 6, 7, 8] (fun W => W.heap = w1.heap) (by kernel_rfl) (by kernel_rfl) rfl ?_
     have hS0 : (fun W => W.heap = w1.heap) (w1.drew) := rfl
     refine fU 0 rfl hS0 rfl (fU 1 rfl hS0 rfl (gZ 2 rfl hS0 (fun _ => bV underlying23 sizeOf21 rfl rfl (by omega)) ?_))
     refine gG 3 rfl hS0 (fun W hW => dB (bG underlying21 rfl) rfl (by rw [oO (hW.trans hD.heap)]; simpa using hc1)) ?_
     refine fU 4 rfl hS0 rfl (fU 5 rfl hS0 rfl (gZ 6 rfl hS0 (fun _ => bV underlying23 sizeOf21 rfl rfl (by omega)) ?_))
     refine gG 7 rfl hS0 (fun W hW => dB (bG underlying21 rfl) rfl (by rw [oO (hW.trans hD.heap)]; simpa using hc2)) ?_
     refine gZ 8 rfl hS0 (fun _ => dG rfl rfl) (mD (aj (aO rfl (fun h3 => ?_) (fun h3 => ?_))))
     ·(try simp only [aG] at h3)
      try (exfalso; first | contradiction | omega)
      all_goals
       refine ay (ah (aW rfl (aB (aj (aN (aX (aK (aK (aX (aK (aT (.inl rfl) results70 rfl ?_)))))))))))
       exact ⟨by rw [show (l1 == l2) = false from beq_eq_false_iff_ne.2 (by rintro rfl; exact h3 rfl)], hD.drew⟩
     ·(try simp only [aG] at h3)
      try (exfalso; first | contradiction | omega)
      all_goals
       refine aQ (aH (aj (ah (aU (dR rfl rfl (by omega)) (aP rfl (aB ?_))))))
       refine bZ (k + 1) ?_ ?_ ?_ ?_
       ·exact (Sub.cons rfl (Sub.nil _))
       ·exact (Sub.cons rfl (Sub.cons rfl (Sub.cons rfl (Sub.nil _))))
       ·(try dsimp only)
        first | done | exact ⟨by omega, by omega, vX (by omega) (by omega) ht (by simpa using h3), hD.drew⟩
       ·(try dsimp only); omega
   ·(try simp only [aG] at h2)
    try (exfalso; first | contradiction | omega)
    all_goals
     refine dK (aV (aV (bD (aj (ay (ah (aW rfl (aB (aj (aN (aT (.inl rfl) results70 rfl ?_)))))))))))
     exact ⟨by rw [show (l1 == l2) = true from beq_iff_eq.2 (by rw [List.take_of_length_le (by omega), List.take_of_length_le (by omega)] at ht; exact ht)], hD⟩
end Go.Proofs.YtddekefihgejoaaGreatDoor
end
section
namespace Go.Proofs.YtddekefihgejoaaGreatDoor
open Go.RowKit
open _root_.Go.Proofs.Tryz
theorem zC : (prog.info? 21).map (fun i => (i.zero, i.size, i.bytes)) = some (some (.int .i32 0), 1, 4) := by kernel_rfl
theorem kH {w0 w : World} {F : HP} {v : Value} {l : List Int} (H : aA w0 w F) (hr : gV w0 F .i32 v l) (hb : l.length * 4 ≤ 140737488355328) :
    fQ prog 59 #[v] w fun v' w' => aA w0 w' (gW 21 .i32 v' l • F) := by
  obtain ⟨a, c, rfl, h1, h2, h3⟩ := (hr w H).open
  refine iw func59 ntmps59 ?_
  dsimp only [aZ, Nat.reduceAdd]
  refine ay (ah (aW rfl (aB (aj (ay (ay (ah (aP rfl (aU (pV underlying23 rfl rfl) (aB (aj (aO rfl (fun h1 => ?_) (fun h1 => ?_)))))))))))))
  · (try simp only [aG] at h1)
    try (exfalso; first | contradiction | omega)
    all_goals
      refine ay (ah (aW rfl (aB (aj (aN (aK (aT (.inl rfl) results59 rfl ?_)))))))
      obtain rfl : a = none := by simpa using h1
      obtain rfl : l = [] := by
        cases l with
        | nil => rfl
        | cons x l => obtain ⟨b, o, e, _⟩ := h3 (by simp); cases e
      exact H.iH none
  · (try simp only [aG] at h1)
    try (exfalso; first | contradiction | omega)
    all_goals
      refine aQ (aj (ay (ah (gB (jv (vs := []) H underlying23 sizeOf21 zeroValue21 rfl rfl rfl (by decide) (by simp)) ?_))))
      rintro _ w1 H1
      refine aP rfl (gB (dM (l := []) H1 (hr.under _ H1) underlying23 zC rfl rfl (by simp; omega) (by simpa using hb)) ?_)
      rintro _ w2 H2
      refine aW rfl (aB (aj (aN (aT (.inl rfl) results59 rfl ?_))))
      exact H2
theorem QE {w0 w : World} {F : HP} {n : Int} (H : aA w0 w F) (h0 : 0 ≤ n) (hb : n ≤ 70368744177664) :
  fQ prog 120 #[.slice none 0 0, .int .i64 n] w fun v' w' => aA w0 w' (gW 21 .i32 v' [] • F) := by
 refine iw func120 ntmps120 ?_
 dsimp only [aZ, Nat.reduceAdd]
 refine ay (ah (aW rfl (aB (aj (ay (ay (ah (aP rfl (aU (dV rfl rfl) (aB (aj (aO rfl (fun h => by exfalso; (try simp only [aG] at h); first | contradiction | omega | (simp at h <;> omega)) (fun h1 => ?_)))))))))))))
 (try simp only [aG] at h1)
 refine aQ (aj (ay (ay (ah (aP rfl (aP rfl (aU (Vl underlying23 rfl) (aP rfl (aU (iU underlying23 rfl) (aU (je rfl rfl (by omega)) (aU (je rfl rfl (by omega)) (aW rfl (aB (aj (ay (ah (aP rfl (aU (gU rfl rfl) (aB (aj (aO rfl (fun h2 => ?_) (fun h2 => ?_))))))))))))))))))))))
 ·(try simp only [aG] at h2)
  try (exfalso; first | contradiction | omega)
  all_goals
   refine ah (aP rfl (aP rfl (aU (Vl underlying23 rfl) (aU (pG underlying23 sizeOf21 rfl rfl rfl (by omega)) (aP rfl (gB (DL H underlying23 underlying3 zC rfl rfl (by omega) (by omega) (by omega)) ?_))))))
   rintro _ w1 ⟨g, c, cur, rfl, hc1, hc2, hc3, H1⟩
   refine aP rfl (aU (iU underlying23 rfl) (aU (pG underlying23 sizeOf21 rfl rfl rfl (by omega)) (aW rfl (aB (aj (ay (ah (aP rfl (aW rfl (aB (aj (aN (aT (.inl rfl) results120 rfl ?_)))))))))))))
   exact H1.uf (o := 0) (by simp) (FW 1 0 g 0 _ c) (by simp) hc2 (by simpa using hc3) (by simp)
 ·(try simp only [aG] at h2)
  try (exfalso; first | contradiction | omega)
  all_goals
   refine aQ (aj (ay (ah (aP rfl (aW rfl (aB (aj (aN (aT (.inl rfl) results120 rfl ?_)))))))))
   exact H.iH none
theorem DY {w0 w : World} {F : HP} {v : Value} {vs : List Value} {ls : List (List Int)} (H : aA w0 w F) (hv : Aq w0 F 1 v ls.length vs) (hls : ∀ k, k < ls.length → gV w0 F .i32 (vs.getD k undef) (ls.getD k [])) (hb : ls.flatten.length * 4 ≤ 140737488355328) :
  fQ prog 62 #[v] w fun v' w' => aA w0 w' (gW 21 .i32 v' ls.flatten • F) := by
 obtain ⟨_, a, c, rfl, hc1, hc2, _⟩ := hv w H
 refine iw func62 ntmps62 ?_
 dsimp only [aZ, Nat.reduceAdd]
 refine ay (ah (aW rfl (aB (aj (ay (ah (aW rfl (aB (aj (ay (ay (ah (aP rfl (aU (iU underlying22 rfl) (aP rfl (aB (aj (aY ?_))))))))))))))))))
 refine eP [(0, _), (9, _), (10, _)] (fun (k : Nat) => [(3, .int .i64 ((ls.take k).flatten.length : Int)), (11, .int .i64 (k : Int))]) (fun (k : Nat) W => k ≤ ls.length ∧ aA w0 W F) (fun (k : Nat) => ls.length - k) (0) (Sub.cons rfl (Sub.cons rfl (Sub.cons rfl (Sub.nil _)))) (Sub.iP rfl (by simp) (Sub.iP rfl (rfl) (Sub.nil _))) ⟨by omega, H⟩ ?_
 rintro k w1 ⟨hk, HL⟩
 dsimp only [List.cons_append, List.nil_append]
 refine ay (ah (aU (dV rfl rfl) (aB (aj (ay (aO rfl (fun h1 => ?_) (fun h1 => ?_)))))))
 ·(try simp only [aG] at h1)
  try (exfalso; first | contradiction | omega)
  all_goals
   refine aQ (aj (ay (aY (ay ?_))))
   have hk1 : k < ls.length := by omega
   obtain ⟨b, o, rfl, hc⟩ := hv.cell HL (j := k) (by omega)
   obtain ⟨ak, ck, ek, hk2, hk3, _⟩ := (hls k hk1 _ HL).open
   rw [ek] at hc
   have hfl := GU ls (k + 1)
   rw [xP ls hk1, List.length_append] at hfl
   refine ah (aU (bV underlying22 sizeOf23 rfl rfl (by omega)) ?_)
   refine aU (dB (bG underlying23 rfl) rfl (by rw [show ((k : Int).toNat * 1) = k from by omega]; exact hc)) ?_
   refine aW rfl (aB (aj (ay (ah (aP rfl (aP rfl (aU (iU underlying23 rfl) (aU (dR rfl rfl (by omega)) (aW rfl (aB (aj (ay (ah (aP rfl (aU (dV rfl rfl) (aB (aj (aO rfl (fun h => by exfalso; (try simp only [aG] at h); first | contradiction | omega | (simp at h <;> omega)) (fun h2 => ?_)))))))))))))))))))
   (try simp only [aG] at h2)
   refine aQ (aH (aj (ah (aU (dR rfl rfl (by omega)) (aP rfl (aB ?_))))))
   refine bZ (k + 1) ?_ ?_ ?_ ?_
   ·exact (Sub.iP rfl (by rw [xP ls hk1, List.length_append, Int.natCast_add]) (Sub.cons rfl (Sub.nil _)))
   ·exact (Sub.cons rfl (Sub.cons rfl (Sub.cons rfl (Sub.nil _))))
   ·(try dsimp only)
    first | done | exact ⟨by omega, HL⟩
   ·(try dsimp only); omega
 ·(try simp only [aG] at h1)
  try (exfalso; first | contradiction | omega)
  all_goals
   refine dK (aV (aV (bD (aj (ay (ah (aP rfl (dD rfl func120 (QE HL (by omega) (by have := GU ls k; omega)) ?_))))))))
   rintro vg w2 H2
   refine aW rfl (aB (aj (ay (ay (ah (aP rfl (aU (iU underlying22 rfl) (aP rfl (aB (aj (aY ?_)))))))))))
   refine eP [(25, _), (26, _)] (fun (⟨k, u⟩ : Nat × Value) => [(6, u), (27, .int .i64 (k : Int))]) (fun (⟨k, u⟩ : Nat × Value) W => k ≤ ls.length ∧ aA w0 W (gW 21 .i32 u (ls.take k).flatten • F)) (fun (⟨k, u⟩ : Nat × Value) => ls.length - k) ((0, vg)) (Sub.cons rfl (Sub.cons rfl (Sub.nil _))) (Sub.cons rfl (Sub.cons rfl (Sub.nil _))) ⟨by omega, H2⟩ ?_
   rintro ⟨k, u⟩ w3 ⟨hk, HM⟩
   dsimp only [List.cons_append, List.nil_append]
   refine ay (ah (aU (dV rfl rfl) (aB (aj (ay (aO rfl (fun h3 => ?_) (fun h3 => ?_)))))))
   ·(try simp only [aG] at h3)
    try (exfalso; first | contradiction | omega)
    all_goals
     refine aQ (aj (ay (aY (ay ?_))))
     have hk1 : k < ls.length := by omega
     obtain ⟨b, o, rfl, hc⟩ := hv.cell HM.right (j := k) (by omega)
     have hrk := hls k hk1
     have hfl := GU ls (k + 1)
     rw [xP ls hk1, List.length_append] at hfl
     refine ah (aU (bV underlying22 sizeOf23 rfl rfl (by omega)) ?_)
     refine aU (dB (bG underlying23 rfl) rfl (by rw [show ((k : Int).toNat * 1) = k from by omega]; exact hc)) ?_
     refine aW rfl (aB (aj (ah (aP rfl (aP rfl (gB (dM HM (hrk _ HM.right) underlying23 zC rfl rfl (by omega) (by omega)) ?_))))))
     rintro va w4 H4
     refine aW rfl (aB (aH (aj (ah (aU (dR rfl rfl (by omega)) (aP rfl (aB ?_)))))))
     refine bZ ((k + 1, va)) ?_ ?_ ?_ ?_
     ·exact (Sub.cons rfl (Sub.cons rfl (Sub.nil _)))
     ·exact (Sub.cons rfl (Sub.cons rfl (Sub.nil _)))
     ·(try dsimp only)
      first | done | exact ⟨by omega, by rw [xP ls hk1]; exact H4⟩
     ·(try dsimp only); omega
   ·(try simp only [aG] at h3)
    try (exfalso; first | contradiction | omega)
    all_goals
     refine dK (aV (aV (bD (aj (ay (ah (aP rfl (aW rfl (aB (aj (aN (aT (.inl rfl) results62 rfl ?_))))))))))))
     rw [List.take_of_length_le (by omega)] at HM; exact HM
theorem Jl {w0 w : World} {F : HP} {b : Nat} {T : TypeId} {u1 u2 : Value} {l1 l2 : List Int} (H : aA w0 w (cO b (.cells #[u1, u2] T (0, 0)) • F)) (h1 : gV w0 (cO b (.cells #[u1, u2] T (0, 0)) • F) .i32 u1 l1) (h2 : gV w0 (cO b (.cells #[u1, u2] T (0, 0)) • F) .i32 u2 l2)
    (hb : (l1.length + l2.length) * 4 ≤ 140737488355328) :
    fQ prog 62 #[.slice (some ⟨b, 0, none⟩) 2 2] w fun v' w' => aA w0 w' (gW 21 .i32 v' (l1 ++ l2) • cO b (.cells #[u1, u2] T (0, 0)) • F) := by
  have := DY (ls := [l1, l2]) (vs := [u1, u2]) (v := .slice (some ⟨b, 0, none⟩) 2 2) H (fun W HW => ⟨rfl, _, 2, rfl, by simp, by decide, fun _ => ⟨b, 0, rfl, fun j hj => ?_⟩⟩) (fun k hk => ?_) (by simpa using hb)
  · simpa using this
  · refine dH HW.get.2 ?_
    simp at hj
    match j, hj with
    | 0, _ => rfl
    | 1, _ => rfl
  · simp at hk
    match k, hk with
    | 0, _ => exact h1
    | 1, _ => exact h2
end Go.Proofs.YtddekefihgejoaaGreatDoor
end
section
namespace Go.Proofs.YtddekefihgejoaaGreatDoor
open Go.RowKit
def sG (I : Hp) (k : IntKind) (vs : List Value) (ls : List (List Int)) : Prop := vs.length = ls.length ∧ ∀ j, j < ls.length → yj I k (vs.getD j undef) (ls.getD j [])
def sH (k : IntKind) (vs : List Value) (ls : List (List Int)) : HP := know (fun I => sG I k vs ls) fun _ _ hl h => ⟨h.1, fun j hj => (h.2 j hj).mono hl⟩
def LL (e : TypeId) (k : IntKind) (v : Value) (ls : List (List Int)) : HP := qC fun vs => Row e 1 v ls.length vs • sH k vs ls
theorem kJ {α : Type _} {l m : List α} {j : Nat} {d : α} (h : j < l.length) : (l ++ m).getD j d = l.getD j d := by simp [List.getD_eq_getElem?_getD, List.getElem?_append_left h]
theorem jR {α : Type _} {l m : List α} {j : Nat} {d : α} (h : l.length ≤ j) : (l ++ m).getD j d = m.getD (j - l.length) d := by simp [List.getD_eq_getElem?_getD, List.getElem?_append_right h]
theorem F7 {α : Type _} {l : List α} {i j : Nat} {d : α} : (l.drop i).getD j d = l.getD (i + j) d := by simp [List.getD_eq_getElem?_getD]
theorem uK {α : Type _} {l : List α} {i j : Nat} {d : α} (h : j < i) : (l.take i).getD j d = l.getD j d := by simp [List.getD_eq_getElem?_getD, List.getElem?_take, h]
theorem uM {α : Type _} {l : List α} {j : Nat} {d : α} (h : j < l.length) : l.getD j d ∈ l := by rw [List.getD_eq_getElem?_getD, List.getElem?_eq_getElem h]; exact List.getElem_mem h
theorem sG.app {I : Hp} {k : IntKind} {vs us : List Value} {ls ms : List (List Int)} (h : sG I k vs ls) (g : sG I k us ms) : sG I k (vs ++ us) (ls ++ ms) := by
  refine ⟨by simp [h.1, g.1], fun j hj => ?_⟩
  by_cases hl : j < ls.length
  · rw [kJ (by rw [h.1]; exact hl), kJ hl]; exact h.2 j hl
  · have hj' : j - ls.length < ms.length := by simp at hj; omega
    rw [jR (by rw [h.1]; omega), jR (by omega), h.1]; exact g.2 _ hj'
theorem sG.drop {I : Hp} {k : IntKind} {vs : List Value} {ls : List (List Int)} (h : sG I k vs ls) (i : Nat) : sG I k (vs.drop i) (ls.drop i) := by
  refine ⟨by simp [h.1], fun j hj => ?_⟩
  rw [F7, F7]
  exact h.2 _ (by simp at hj; omega)
theorem sG.take {I : Hp} {k : IntKind} {vs : List Value} {ls : List (List Int)} (h : sG I k vs ls) (i : Nat) : sG I k (vs.take i) (ls.take i) := by
  refine ⟨by simp [h.1], fun j hj => ?_⟩
  simp at hj
  rw [uK (by omega), uK (by omega)]
  exact h.2 _ (by omega)
theorem yj.one {I : Hp} {k : IntKind} {v : Value} {l : List Int} (h : yj I k v l) : sG I k [v] [l] := ⟨rfl, fun j hj => by
  obtain rfl : j = 0 := by simp at hj; omega
  exact h⟩
theorem yj.QF {I : Hp} {k : IntKind} {v : Value} {l : List Int} (h : yj I k v l) : v.oneCell' = true := by obtain ⟨a, c, rfl, _⟩ := h; rfl
section
variable {w0 w : World} {F : HP} {e : TypeId} {k : IntKind} {v : Value} {vs us : List Value} {ls ms : List (List Int)} {l : List Int}
theorem aA.Ny (H : aA w0 w (sH k vs ls • F)) {j : Nat} (hj : j < ls.length) : iI w k (vs.getD j undef) (ls.getD j []) := let ⟨I, h, hI⟩ := H.qU; (h.2 j hj).rd hI
theorem aA.QG (H : aA w0 w F) : aA w0 w (sH k [] [] • F) := H.xR fun I => ⟨rfl, fun j hj => by simp at hj⟩
theorem aA.F8 (H : aA w0 w (sH k vs ls • nY k v l • F)) : aA w0 w (sH k (vs ++ [v]) (ls ++ [l]) • F) := H.Dh (rZ (fun I h g => h.app g.one) F)
theorem Rd.Vs {n : Nat} {xs : List Value} (hr : Rd w 1 v n xs) {i : Nat} (h : i ≤ n) : Rd w 1 (nV 1 0 i v) i (xs.take i) := by
  have h1 := hr.cut (Nat.zero_le i) h
  simpa using h1
end
end Go.Proofs.YtddekefihgejoaaGreatDoor
end
section
namespace Go.Proofs.YtddekefihgejoaaGreatDoor
open Go.RowKit
theorem QH {α : Type _} {enc : α → List Value} {sz : Nat} (he : ∀ a, (enc a).length = sz) (l : List α) : (l.flatMap enc).length = l.length * sz := by
  induction l with
  | nil => simp
  | cons a l ih => simp [he, ih, Nat.add_mul, Nat.add_comm]
theorem jw {α : Type _} {enc : α → List Value} {sz : Nat} (he : ∀ a, (enc a).length = sz) {l : List α} {k : Nat} (hk : k < l.length) (d : α) : ((l.flatMap enc).drop (k * sz)).take sz = enc (l.getD k d) := by
  have h1 : l = l.take k ++ l.getD k d :: l.drop (k + 1) := by
    rw [List.getD_eq_getElem?_getD, List.getElem?_eq_getElem hk]
    simp
  have h2 : ((l.take k).flatMap enc).length = k * sz := by rw [QH he, List.length_take, Nat.min_eq_left (by omega)]
  conv => lhs; rw [h1]
  rw [List.flatMap_append, List.drop_append, h2]
  simp [h2, List.take_append, he]
theorem Us {α : Type _} [Inhabited α] {sz n : Nat} {enc : α → List Value} {xs : List Value} {p : α → Prop} (hx : xs.length = n * sz) (h : ∀ k, k < n → ∃ a, (xs.drop (k * sz)).take sz = enc a ∧ p a) : ∃ l : List α, l.length = n ∧ xs = l.flatMap enc ∧ ∀ k, k < n → p (l.getD k default) := by
  induction n generalizing xs with
  | zero => exact ⟨[], rfl, by simpa using List.eq_nil_of_length_eq_zero (by simpa using hx), fun k hk => by omega⟩
  | succ n ih =>
    obtain ⟨a, h1, h2⟩ := h 0 (by omega)
    rw [Nat.zero_mul, List.drop_zero] at h1
    obtain ⟨l, g1, g2, g3⟩ := ih (xs := xs.drop sz) (by rw [List.length_drop, hx, Nat.succ_mul]; omega) (fun k hk => by
      obtain ⟨b, h3, h4⟩ := h (k + 1) (by omega)
      exact ⟨b, by rw [← h3, List.drop_drop, Nat.succ_mul, Nat.add_comm], h4⟩)
    refine ⟨a :: l, by simp [g1], ?_, fun k hk => ?_⟩
    · rw [List.flatMap_cons, ← g2, ← h1, List.take_append_drop]
    · cases k with
      | zero => exact h2
      | succ k => exact g3 k (by omega)
theorem iG {P : Program} {L : List (Nat × Value)} {w : World} {ty : TypeId} {x : Operand} {t : TypeId} {d : TypeDesc} {b o n c sz n' k : Nat} {xs ys : List Value} (hr : Rd w sz (.slice (some ⟨b, o, none⟩) n c) n' xs) (hk : k < n') (hu : P.underlying t = some d) (hd : GZ d = true) (hs : ∀ w, (sizeOf t).run P w = .ok sz w)
    (hx : ev L x = some (.pointer (some ⟨b, o + (k : Int).toNat * sz, none⟩))) (hy : (xs.drop (k * sz)).take sz = ys) (hl : ys.length = sz) : Val P L (.load t x) ty w (.agg ys.toArray) w :=
  vP (by rw [hu]; rfl) (FX hu hd) hs hl hx (fun j u hj => by
    have hjl : j < sz := by rw [← hl]; exact (List.getElem?_eq_some_iff.1 hj).1
    rw [hr.atS hk hjl, List.getD_eq_getElem?_getD]
    rw [← hy, List.getElem?_take, if_pos hjl, List.getElem?_drop] at hj
    rw [hj]; rfl)
end Go.Proofs.YtddekefihgejoaaGreatDoor
end
section
namespace Go.Proofs.YtddekefihgejoaaGreatDoor
open Go.RowKit
open _root_.Go.Proofs.Tryz
theorem DZ (w : World) (v1 v2 : Value) (l1 l2 : List Int) (h1 : iI w .i32 v1 l1) (h2 : iI w .i32 v2 l2) :
  fQ prog 22 #[v1, v2] w fun v w' => v = .bool (l1 == l2) ∧ lS w w' := by
 obtain ⟨a1, c1, rfl, hc1, hm1, hr1⟩ := h1.open
 obtain ⟨a2, c2, rfl, hc2, hm2, hr2⟩ := h2.open
 clear h1 h2
 refine iw func22 ntmps22 ?_
 dsimp only [aZ, Nat.reduceAdd]
 refine ay (ah (aW rfl (aB (aj (ay (ay (ah (aP rfl (aU (iU underlying23 rfl) (aP rfl (aU (iU underlying23 rfl) (aU (dG rfl rfl) (aB (aj (aO rfl (fun h1 => ?_) (fun h1 => ?_))))))))))))))))
 ·(try simp only [aG] at h1)
  try (exfalso; first | contradiction | omega)
  all_goals
   refine ay (ah (aW rfl (aB (aj (aN (aK (aT (.inl rfl) results22 rfl ?_)))))))
   exact ⟨by rw [show (l1 == l2) = false from beq_eq_false_iff_ne.2 (by rintro rfl; exact h1 rfl)], lS.refl _⟩
 ·(try simp only [aG] at h1)
  try (exfalso; first | contradiction | omega)
  all_goals
   refine aQ (aj (ay (ay (ah (aW rfl (aB (aj (aY ?_))))))))
   refine eP [(0, _), (1, _)] (fun (k : Nat) => [(5, .int .i64 (k : Int))]) (fun (k : Nat) W => k ≤ l1.length ∧ l1.length = l2.length ∧ l1.take k = l2.take k ∧ lS w W) (fun (k : Nat) => l1.length - k) (0) (Sub.cons rfl (Sub.cons rfl (Sub.nil _))) (Sub.cons rfl (Sub.nil _)) ⟨by omega, by omega, by simp, lS.refl _⟩ ?_
   rintro k w1 ⟨hk, hl, ht, hD⟩
   dsimp only [List.cons_append, List.nil_append]
   refine ay (ay (ah (aP rfl (aP rfl (aU (iU underlying23 rfl) (aU (dV rfl rfl) (aB (aj (aO rfl (fun h2 => ?_) (fun h2 => ?_))))))))))
   ·(try simp only [aG] at h2)
    try (exfalso; first | contradiction | omega)
    all_goals
     refine aQ (aj (ay (aY (ay ?_))))
     obtain ⟨b1, o1, rfl, hq1⟩ := hr1 (by omega)
     obtain ⟨b2, o2, rfl, hq2⟩ := hr2 (by omega)
     have hc1 := hq1 k (by omega)
     have hc2 := hq2 k (by omega)
     refine kX (n := 9) [0, 1, 2, 3, 4, 5, 6, 7, 8] (fun W => W.heap = w1.heap) (by kernel_rfl) (by kernel_rfl) rfl ?_
     have hS0 : (fun W => W.heap = w1.heap) (w1.drew) := rfl
     refine fU 0 rfl hS0 rfl (fU 1 rfl hS0 rfl (gZ 2 rfl hS0 (fun _ => bV underlying23 sizeOf21 rfl rfl (by omega)) ?_))
     refine gG 3 rfl hS0 (fun W hW => dB (bG underlying21 rfl) rfl (by rw [oO (hW.trans hD.heap)]; simpa using hc1)) ?_
     refine fU 4 rfl hS0 rfl (fU 5 rfl hS0 rfl (gZ 6 rfl hS0 (fun _ => bV underlying23 sizeOf21 rfl rfl (by omega)) ?_))
     refine gG 7 rfl hS0 (fun W hW => dB (bG underlying21 rfl) rfl (by rw [oO (hW.trans hD.heap)]; simpa using hc2)) ?_
     refine gZ 8 rfl hS0 (fun _ => dG rfl rfl) (mD (aj (aO rfl (fun h3 => ?_) (fun h3 => ?_))))
     ·(try simp only [aG] at h3)
      try (exfalso; first | contradiction | omega)
      all_goals
       refine ay (ah (aW rfl (aB (aj (aN (aX (aK (aK (aX (aK (aT (.inl rfl) results22 rfl ?_)))))))))))
       exact ⟨by rw [show (l1 == l2) = false from beq_eq_false_iff_ne.2 (by rintro rfl; exact h3 rfl)], hD.drew⟩
     ·(try simp only [aG] at h3)
      try (exfalso; first | contradiction | omega)
      all_goals
       refine aQ (aH (aj (ah (aP rfl (aU (dR rfl rfl (by omega)) (aW rfl (aB ?_)))))))
       refine bZ (k + 1) ?_ ?_ ?_ ?_
       ·exact (Sub.cons rfl (Sub.nil _))
       ·exact (Sub.cons rfl (Sub.cons rfl (Sub.nil _)))
       ·(try dsimp only)
        first | done | exact ⟨by omega, by omega, vX (by omega) (by omega) ht (by simpa using h3), hD.drew⟩
       ·(try dsimp only); omega
   ·(try simp only [aG] at h2)
    try (exfalso; first | contradiction | omega)
    all_goals
     refine dK (aV (aV (bD (aj (ay (ah (aW rfl (aB (aj (aN (aT (.inl rfl) results22 rfl ?_)))))))))))
     exact ⟨by rw [show (l1 == l2) = true from beq_iff_eq.2 (by rw [List.take_of_length_le (by omega), List.take_of_length_le (by omega)] at ht; exact ht)], hD⟩
theorem yC (w : World) (v1 v2 : Value) (l : List Int) (h1 : iI w .i32 v1 l) (h2 : iI w .i32 v2 l) : fQ prog 22 #[v1, v2] w fun v w' => v = .bool true ∧ lS w w' := by
  have := DZ w v1 v2 l l h1 h2
  simpa using this
section
variable {w0 w : World} {F : HP} {v d s z d2 z2 u1 u2 u3 : Value} {L dl il Xy X5 l1 l2 l3 : List Int} {a a2 : Int}
theorem Jm (H : aA w0 w F) (hv : Aq w0 F 1 v 2 [u1, u2]) (h1 : gV w0 F .i32 u1 l1) (h2 : gV w0 F .i32 u2 l2) (hb : l1.length + l2.length ≤ 35184372088832) :
    fQ prog 62 #[v] w fun v' w' => aA w0 w' (gW 21 .i32 v' (l1 ++ l2) • F) := by
  have := DY (ls := [l1, l2]) (vs := [u1, u2]) H hv (fun k hk => ?_) (by simp; omega)
  · simpa using this
  · simp at hk
    match k, hk with
    | 0, _ => exact h1
    | 1, _ => exact h2
def aag (L : List Int) (a : Int) (dl : List Int) : Bool := decide (0 ≤ a ∧ a + dl.length ≤ L.length) && ((L.drop a.toNat).take dl.length == dl)
def uE (L : List Int) (a : Int) (dl il : List Int) : Int := if aag L a dl then (if 1024 < (L.length : Int) - dl.length + il.length then 3 else 0) else 1
def uL (L : List Int) (a : Int) (dl il : List Int) : List Int := if uE L a dl il = 0 then L.take a.toNat ++ il ++ L.drop (a.toNat + dl.length) else []
abbrev X6 (a : Int) (d z : Value) : Value := .agg #[.int .i64 a, d, z]
theorem qV (H : aA w0 w F) (hd : gV w0 F .i32 d dl) (hi : gV w0 F .i32 z il) (b2 : dl.length ≤ 35184372087808) (b3 : il.length ≤ 35184372087808) :
  fQ prog 168 #[X6 a d z] w fun v' w' => ∃ d' s', v' = X6 a d' s' ∧ aA w0 w' (gW 21 .i32 d' dl • gW 21 .i32 s' il • F) := by
 refine iw func168 ntmps168 ?_
 dsimp only [aZ, Nat.reduceAdd]
 refine ay (ah (gB (ig (l := [_, _, _]) H rfl rfl) ?_))
 rintro _ w1 ⟨b1, rfl, H1⟩
 refine gB (bW (l := [_, _, _]) H1 zeroValue202 rfl) ?_
 rintro _ w2 ⟨b2, rfl, H2⟩
 refine aB (aj (ay ?_))
 have QI := H2.drew
 have uN := aA.kp (QI.f2.f2)
 refine vJ [1, 3, 6] uN rfl (dU 0 rfl uN 0 underlying202 rfl sizeOf3 rfl (gG 1 rfl uN (fun W hW => iF underlying3 rfl ((Kp.h hW).f2).get.2 rfl) (dU 2 rfl uN 1 underlying202 rfl sizeOf23 rfl (gG 3 rfl uN (fun W hW => iF underlying23 rfl ((Kp.h hW).f2).get.2 rfl) (dU 5 rfl uN 2 underlying202 rfl sizeOf23 rfl (gG 6 rfl uN (fun W hW => iF underlying23 rfl ((Kp.h hW).f2).get.2 rfl) (jm 4 rfl (rX rfl func59 (kH QI (fun W HW => hd _ (HW.right.right)) (by omega))) ?_)))))))
 rintro u3 w3 H3
 have CS := aA.kp (H3.f3.f3.f3)
 refine bU CS (fun W hW => (Kp.h hW).right.f2.f2) ?_
 refine jm 7 rfl (rX rfl func59 (kH H3 (fun W HW => hi _ (HW.right.right.right)) (by omega))) ?_
 rintro u4 w4 H4
 have uO := aA.kp (H4.f4.f4.f4.f4)
 refine bU uO (fun W hW => (Kp.h hW).right.f3.f3.f3) ?_
 obtain ⟨au3, cu3, X7, -⟩ := iI.open ((H4.f2).aJ)
 subst X7
 obtain ⟨au4, cu4, eu4, -⟩ := iI.open ((H4).aJ)
 subst eu4
 refine gZ 8 rfl uO (fun _ => fJ (pl := #[(0, 1), (1, 1), (2, 1)]) (#[_, _, _]) underlying202 zeroValue202 (fun w => by kernel_rfl) rfl (rfl)) ?_
 refine dO 9 rfl (by kernel_rfl) (bC 0 (l' := [_, _, _]) (us := [_, _, _]) H4.f3 sizeOf202 rfl rfl rfl (aC (by first | rfl | assumption) (aC (by first | rfl | exact Rd.one ((H4.f2).aJ)) (aC (by first | rfl | exact Rd.one ((H4).aJ)) bg))) rfl rfl) ?_
 rintro _ w7 H7
 have vY := aA.kp (H7.f4.f4.f4.f4)
 refine dS vY (by kernel_rfl) ?_
 refine mD (aj (aN ?_))
 refine kM (.inl rfl) (Fq results168 rfl underlying202 rfl (by rw [show (prog.info? 202).map (·.size) = some 3 from by kernel_rfl]; rfl) (H7).get.2) ?_
 exact ⟨_, _, rfl, H7.right.f3.right.f2⟩
theorem AP (H : aA w0 w F) (hd : gV w0 F .i32 d dl) (hi : gV w0 F .i32 z il) (b2 : dl.length ≤ 35184372087808) (b3 : il.length ≤ 35184372087808) :
  fQ prog 178 #[X6 a d z] w fun v' w' => ∃ d' s', v' = X6 a d' s' ∧ aA w0 w' (gW 21 .i32 d' il • gW 21 .i32 s' dl • F) := by
 refine iw func178 ntmps178 ?_
 dsimp only [aZ, Nat.reduceAdd]
 refine ay (ah (gB (ig (l := [_, _, _]) H rfl rfl) ?_))
 rintro _ w1 ⟨b1, rfl, H1⟩
 refine gB (bW (l := [_, _, _]) H1 zeroValue202 rfl) ?_
 rintro _ w2 ⟨b2, rfl, H2⟩
 refine aB (aj (ay (ah (bf 0 underlying202 rfl sizeOf3 rfl (dA underlying3 rfl (H2.f2).get.2 rfl (bf 2 underlying202 rfl sizeOf23 rfl (dA underlying23 rfl (H2.f2).get.2 rfl (bf 1 underlying202 rfl sizeOf23 rfl (dA underlying23 rfl (H2.f2).get.2 rfl ?_)))))))))
 obtain ⟨az, cz, ez, -⟩ := iI.open (hi _ (H2.right.right))
 subst ez
 obtain ⟨ad, cd, ed, -⟩ := iI.open (hd _ (H2.right.right))
 subst ed
 refine aU (fJ (pl := #[(0, 1), (1, 1), (2, 1)]) (#[_, _, _]) underlying202 zeroValue202 (fun w => by kernel_rfl) rfl (rfl)) (dD rfl func168 (qV H2 (fun W HW => hi _ (HW.right.right)) (fun W HW => hd _ (HW.right.right)) (by omega) (by omega)) ?_)
 rintro _ w5 ⟨d5, s5, rfl, H5⟩
 refine aI (bC 0 (l' := [_, _, _]) (us := [_, _, _]) H5.f3 sizeOf202 rfl rfl rfl (aC (by first | rfl | assumption) (aC (by first | rfl | exact Rd.one ((H5).aJ)) (aC (by first | rfl | exact Rd.one ((H5.f2).aJ)) bg))) rfl rfl) ?_
 rintro _ w6 H6
 refine aB (aj (aN ?_))
 refine kM (.inl rfl) (Fq results178 rfl underlying202 rfl (by rw [show (prog.info? 202).map (·.size) = some 3 from by kernel_rfl]; rfl) (H6).get.2) ?_
 exact ⟨_, _, rfl, H6.right.f3.right.f2.f2⟩
end
end Go.Proofs.YtddekefihgejoaaGreatDoor
end
section
namespace Go.Proofs.YtddekefihgejoaaGreatDoor
open Go.RowKit
section
variable {w0 w : World} {F : HP} {v d s z d2 z2 u1 u2 u3 : Value} {L dl il Xy X5 l1 l2 l3 : List Int} {a a2 : Int}
def jK (a a2 : Int) (dl il Xy X5 : List Int) : Nat := if Xy.length = 0 ∧ a2 = a + il.length then 1 else if il.length = 0 ∧ X5.length = 0 ∧ a = a2 + Xy.length then 2 else 0
def jA (k : Nat) (a a2 : Int) : Int := if k = 1 then a else if k = 2 then a2 else 0
def jD (k : Nat) (dl Xy : List Int) : List Int := if k = 1 then dl else if k = 2 then Xy ++ dl else []
def jI (k : Nat) (il X5 : List Int) : List Int := if k = 1 then il ++ X5 else []
end
end Go.Proofs.YtddekefihgejoaaGreatDoor
end
section
namespace Go.Proofs.YtddekefihgejoaaGreatDoor
open Go.RowKit
section
variable {P : Program} {L : List (Nat × Value)} {w0 w : World} {F : HP} {ty : TypeId}
theorem LM (l : List Value) : ∀ (i : Nat) (cells : Array Value), cells.size = i + l.length → (l.zipIdx i).foldl (fun cs (x : Value × Nat) => cs.setIfInBounds (0 + x.2) x.1) cells = (cells.toList.take i ++ l).toArray := by
  induction l with
  | nil => intro i cells hs; simp [List.take_of_length_le (show cells.toList.length ≤ i by simp; simp at hs; omega)]
  | cons v r ih =>
    intro i cells hs
    rw [List.zipIdx_cons, List.foldl_cons]
    rw [ih (i + 1) _ (by simp at hs ⊢; omega)]
    congr 1
    have hi : i < cells.toList.length := by simp at hs ⊢; omega
    rw [Array.toList_setIfInBounds, Nat.zero_add, List.take_succ_eq_append_getElem (by simpa using hi), List.take_set_of_le (Nat.le_refl _)]
    simp
theorem mP {t e sz : Nat} {x : Operand} {cs : Array Value} {z : Value} (H : aA w0 w F) (ht : P.underlying t = some (.slice e)) (hs : ∀ w, (sizeOf e).run P w = .ok sz w) (hz : ∀ w, (zeroValue e).run P w = .ok z w) (hz1 : z.cells.size = sz)
    (hx : ev L x = some (.agg cs)) (hn : cs.size = sz) (h0 : 0 < sz) (OI : sz ≤ 16777216) :
    rU P L (.buildSlice t 1 #[(0, x)]) ty w fun v w' => aA w0 w' (Row e sz v 1 cs.toList • F) := by
  refine nR (v := .slice (some ⟨w.heap.size, 0, none⟩) 1 1) (w' := w.alloc (.cells cs e)) ?_ ?_
  · intro ρ hρ d pos lM g
    simp only [execOp, Instr.buildSlice, Sem.run_bind, run_underlying ht, Result.andThen_ok, hs]
    rw [if_neg (by omega), if_neg (by omega)]
    have hf : ∀ q : Array Value, q.size = sz → Instr.fill (fun i => some (i * sz, sz)) q [(0, .agg cs)] = some cs := fun q hq => by
      simp only [Instr.fill, Value.cells, hn]
      rw [if_neg (by simp [hq])]
      have := LM cs.toList 0 q (by simp [hn, hq])
      simp only [Nat.zero_mul]
      rw [← Array.foldl_toList, Array.toList_zipIdx]
      simpa using this
    have hf1 := hf ((Array.range sz).map (z.cells[· % z.cells.size]!)) (by simp)
    simp [hz, hρ _ _ hx, hf1, newRow]
  · refine (H.alloc _).uf (by simp [hn]) rfl (Nat.le_refl _) (by omega) (by simp [hn]) fun j hj => ?_
    rw [Nat.zero_add, List.getD_eq_getElem?_getD]
    have : j < cs.size := by omega
    simp [this]
theorem D5 (l : List Value) : ∀ (o i : Nat) (cells : Array Value), o + i + l.length ≤ cells.size → (l.zipIdx i).foldl (fun cs (x : Value × Nat) => cs.setIfInBounds (o + x.2) x.1) cells = (cells.toList.take (o + i) ++ l ++ cells.toList.drop (o + i + l.length)).toArray := by
  induction l with
  | nil => intro o i cells hs; simp
  | cons v r ih =>
    intro o i cells hs
    rw [List.zipIdx_cons, List.foldl_cons]
    rw [ih o (i + 1) _ (by simp at hs ⊢; omega)]
    congr 1
    simp only [List.length_cons] at hs ⊢
    have hi : o + i < cells.toList.length := by rw [Array.length_toList]; omega
    rw [Array.toList_setIfInBounds, show o + (i + 1) = o + i + 1 from by omega, List.take_succ_eq_append_getElem (by simpa using hi), List.take_set_of_le (Nat.le_refl _), List.drop_set_of_lt (by omega)]
    simp
    omega
theorem OU {t e sz : Nat} {x y : Operand} {cs ds : Array Value} {z : Value} (H : aA w0 w F) (ht : P.underlying t = some (.slice e)) (hs : ∀ w, (sizeOf e).run P w = .ok sz w) (hz : ∀ w, (zeroValue e).run P w = .ok z w) (hz1 : z.cells.size = sz)
    (hx : ev L x = some (.agg cs)) (hy : ev L y = some (.agg ds)) (hn : cs.size = sz) (hm : ds.size = sz) (h0 : 0 < sz) (OI : sz ≤ 8388608) :
    rU P L (.buildSlice t 2 #[(0, x), (1, y)]) ty w fun v w' => aA w0 w' (Row e sz v 2 (cs.toList ++ ds.toList) • F) := by
  refine nR (v := .slice (some ⟨w.heap.size, 0, none⟩) 2 2) (w' := w.alloc (.cells (cs ++ ds) e)) ?_ ?_
  · intro ρ hρ d pos lM g
    simp only [execOp, Instr.buildSlice, Sem.run_bind, run_underlying ht, Result.andThen_ok, hs]
    rw [if_neg (by omega), if_neg (by omega)]
    have hf : ∀ q : Array Value, q.size = 2 * sz → Instr.fill (fun i => some (i * sz, sz)) q [(0, .agg cs), (1, .agg ds)] = some (cs ++ ds) := fun q hq => by
      have f1 := D5 cs.toList 0 0 q (by simp [hn, hq]; omega)
      have f2 := D5 ds.toList sz 0 ((q.toList.take 0 ++ cs.toList ++ q.toList.drop (0 + cs.toList.length)).toArray) (by simp [hn, hm, hq]; omega)
      simp only [Instr.fill, Value.cells, hn, hm]
      simp only [Nat.zero_mul, Nat.one_mul]
      rw [if_neg (by simp [hq]; omega), ← Array.foldl_toList, Array.toList_zipIdx]
      simp only [Nat.zero_add] at f1 f2 ⊢
      rw [f1]
      rw [if_neg (by simp [hn, hq]; omega), ← Array.foldl_toList, Array.toList_zipIdx]
      rw [f2]
      congr 1
      apply Array.ext'
      simp [hn, hm, hq]
      omega
    have hf1 := hf ((Array.range (2 * sz)).map (z.cells[· % z.cells.size]!)) (by simp)
    simp [hz, hρ _ _ hx, hρ _ _ hy, hf1, newRow]
  · refine (H.alloc _).uf (by simp [hn, hm]; omega) rfl (Nat.le_refl _) (by omega) (by simp [hn, hm]; omega) fun j hj => ?_
    rw [Nat.zero_add, List.getD_eq_getElem?_getD]
    have h1 : j < (cs ++ ds).size := by simp [hn, hm]; omega
    rw [← Array.getElem?_toList, Array.toList_append, List.getElem?_eq_getElem (by simpa using h1)]
    rfl
theorem zD {t e sz n n' : Nat} {x y : Operand} {b o c : Nat} {i : Int} (off : Nat) {xs : List Value} {u : Value} (H : aA w0 w (Row e sz (.slice (some ⟨b, o, none⟩) n' c) n xs • F)) (hs : ∀ w, (sizeOf t).run P w = .ok 1 w)
    (hx : ev L x = some (.pointer (some ⟨b, o + i.toNat * sz + off, none⟩))) (hy : ev L y = some u) (h1 : u.oneCell' = true) (hi : i.toNat < n) (ho : off < sz) :
    rU P L (.store t x y) ty w fun _ w' => aA w0 w' (Row e sz (.slice (some ⟨b, o, none⟩) n' c) n (xs.set (i.toNat * sz + off) u) • F) := by
  have hlen := H.vU
  rcases H.rY with ⟨a, hv, hn, hxs, H1⟩ | ⟨g, o', c', cur, hv, h2, h3, h4, h5, H1⟩
  · omega
  cases hv
  have hlt : i.toNat * sz + off < n * sz := Nat.lt_of_lt_of_le (by omega : i.toNat * sz + off < i.toNat * sz + sz) (by rw [← Nat.succ_mul]; exact Nat.mul_le_mul_right _ hi)
  have hle : n * sz ≤ c * sz := Nat.mul_le_mul_right _ h2
  refine (fH H1 hs hx hy h1 (by omega)).mono fun v w' H2 => ?_
  refine H2.uf (o := o) (by simpa using hlen) rfl h2 h3 (by simp; omega) fun q hq => ?_
  rw [Array.getElem?_setIfInBounds]
  by_cases e1 : q = i.toNat * sz + off
  · subst e1
    rw [if_pos (by omega), if_pos (by omega)]
    simp [List.getD_eq_getElem?_getD, show i.toNat * sz + off < xs.length from by omega]
  · rw [if_neg (by omega), h5 q hq]
    simp only [List.getD_eq_getElem?_getD]
    rw [List.getElem?_set_ne (by omega)]
end
section
variable {w0 w : World} {F : HP}
end
end Go.Proofs.YtddekefihgejoaaGreatDoor
end
section
namespace Go.Proofs.YtddekefihgejoaaGreatDoor
open Go.RowKit
structure dw where
  a : Int
  d : Value
  dl : List Int
  i : Value
  il : List Int
instance : Inhabited dw := ⟨⟨0, .slice none 0 0, [], .slice none 0 0, []⟩⟩
def dw.enc (e : dw) : List Value := [.int .i64 e.a, e.d, e.i]
theorem dw.zF (e : dw) : e.enc.length = 3 := rfl
def dw.Xz (I : Hp) (e : dw) : Prop := yj I .i32 e.d e.dl ∧ yj I .i32 e.i e.il
theorem dw.Xz.mono {I I' : Hp} {e : dw} (hl : Hp.le I I') (h : e.Xz I) : e.Xz I' := ⟨h.1.mono hl, h.2.mono hl⟩
def dw.says (e : dw) : Int × List Int × List Int := (e.a, e.dl, e.il)
def CU (I : Hp) (es : List dw) : Prop := ∀ k, k < es.length → (es.getD k default).Xz I
theorem CU.mono {I I' : Hp} {es : List dw} (hl : Hp.le I I') (h : CU I es) : CU I' es := fun k hk => (h k hk).mono hl
theorem CU.app {I : Hp} {es fs : List dw} (h : CU I es) (g : CU I fs) : CU I (es ++ fs) := fun k hk => by
  by_cases hl : k < es.length
  · rw [kJ hl]; exact h k hl
  · rw [jR (by omega)]; exact g _ (by simp at hk; omega)
theorem CU.one {I : Hp} {e : dw} (h : e.Xz I) : CU I [e] := fun k hk => by
  obtain rfl : k = 0 := by simp at hk; omega
  exact h
def jq (es : List dw) : HP := know (fun I => CU I es) fun _ _ hl h => h.mono hl
def edK (e : dw) : HP := know (fun I => e.Xz I) fun _ _ hl h => h.mono hl
def Fv (v : Value) (es : List dw) : HP := Row 202 3 v es.length (es.flatMap dw.enc) • jq es
def Jo (I : Hp) (sz : Nat) (v : Value) (n : Nat) (xs : List Value) : Prop := xs.length = n * sz ∧ ∃ a c, v = .slice a n c ∧ n ≤ c ∧ (c : Int) ≤ 9223372036854775807 ∧
  (0 < n → ∃ b o cs e fr, a = some ⟨b, o, none⟩ ∧ I b = some (.cells cs e fr) ∧ ∀ j, j < n * sz → cs[o + j]? = some (xs.getD j undef))
theorem Jo.mono {I I' : Hp} {sz n : Nat} {v : Value} {xs : List Value} (hl : Hp.le I I') (h : Jo I sz v n xs) : Jo I' sz v n xs := by
  obtain ⟨h0, a, c, h1, h2, h3, h4⟩ := h
  exact ⟨h0, a, c, h1, h2, h3, fun hp => let ⟨b, o, cs, e, fr, e1, e2, e3⟩ := h4 hp; ⟨b, o, cs, e, fr, e1, hl _ _ e2, e3⟩⟩
theorem Jo.rd {w : World} {m : Nat} {I : Hp} {sz n : Nat} {v : Value} {xs : List Value} (h : Jo I sz v n xs) (hI : ∀ k o, I k = some o → m ≤ k ∧ w.heap[k]? = some o) : Rd w sz v n xs := by
  obtain ⟨h0, a, c, h1, h2, h3, h4⟩ := h
  exact ⟨h0, a, c, h1, h2, h3, fun hp => let ⟨b, o, cs, e, fr, e1, e2, e3⟩ := h4 hp; ⟨b, o, e1, fun j hj => dH (hI _ _ e2).2 (e3 j hj)⟩⟩
theorem Jo.QF {I : Hp} {sz n : Nat} {v : Value} {xs : List Value} (h : Jo I sz v n xs) : v.oneCell' = true := by obtain ⟨_, a, c, rfl, _⟩ := h; rfl
def XA (I : Hp) (v : Value) (es : List dw) : Prop := Jo I 3 v es.length (es.flatMap dw.enc) ∧ CU I es
theorem XA.mono {I I' : Hp} {v : Value} {es : List dw} (hl : Hp.le I I') (h : XA I v es) : XA I' v es := ⟨h.1.mono hl, h.2.mono hl⟩
def Ar (v : Value) (es : List dw) : HP := know (fun I => XA I v es) fun _ _ hl h => h.mono hl
def zG (I : Hp) (gs : List (Value × List dw)) : Prop := ∀ k, k < gs.length → XA I (gs.getD k default).1 (gs.getD k default).2
theorem zG.mono {I I' : Hp} {gs : List (Value × List dw)} (hl : Hp.le I I') (h : zG I gs) : zG I' gs := fun k hk => (h k hk).mono hl
theorem zG.app {I : Hp} {es fs : List (Value × List dw)} (h : zG I es) (g : zG I fs) : zG I (es ++ fs) := fun k hk => by
  by_cases hl : k < es.length
  · rw [kJ hl]; exact h k hl
  · rw [jR (by omega)]; exact g _ (by simp at hk; omega)
theorem zG.one {I : Hp} {v : Value} {es : List dw} (h : XA I v es) : zG I [(v, es)] := fun k hk => by
  obtain rfl : k = 0 := by simp at hk; omega
  exact h
theorem zG.take {I : Hp} {gs : List (Value × List dw)} (h : zG I gs) (n : Nat) : zG I (gs.take n) := fun k hk => by
  simp at hk
  rw [uK (by omega)]
  exact h k (by omega)
def nZ (gs : List (Value × List dw)) : HP := know (fun I => zG I gs) fun _ _ hl h => h.mono hl
def zH (v : Value) (gs : List (Value × List dw)) : HP := Row 67 1 v gs.length (gs.map (·.1)) • nZ gs
section
variable {w0 w : World} {F : HP} {v u : Value} {es fs : List dw} {e : dw} {gs : List (Value × List dw)} {a : Int} {d i : Value} {dl il : List Int}
theorem aA.D6 (H : aA w0 w F) : aA w0 w (jq [] • F) := H.xR fun I k hk => by simp at hk
theorem aA.Jp (H : aA w0 w F) : aA w0 w (nZ [] • F) := H.xR fun I k hk => by simp at hk
theorem aA.pI (H : aA w0 w F) (a : Option Addr) : aA w0 w (Fv (.slice a 0 0) [] • F) := (H.D6.iH (e := 202) (sz := 3) a).deep
theorem aA.zI (H : aA w0 w F) (a : Option Addr) : aA w0 w (zH (.slice a 0 0) [] • F) := (H.Jp.iH (e := 67) (sz := 1) a).deep
theorem aA.XB (H : aA w0 w (Fv v es • F)) : aA w0 w (Row 202 3 v es.length (es.flatMap dw.enc) • jq es • F) := H.flat
theorem aA.Wh (H : aA w0 w (zH v gs • F)) : aA w0 w (Row 67 1 v gs.length (gs.map (·.1)) • nZ gs • F) := H.flat
theorem aA.uP (H : aA w0 w (Row 202 3 v (es.length + 1) (es.flatMap dw.enc ++ [.int .i64 a, d, i]) • nY .i32 d dl • nY .i32 i il • jq es • F)) : aA w0 w (Fv v (es ++ [⟨a, d, dl, i, il⟩]) • F) := by
  have h1 : aA w0 w (nY .i32 d dl • nY .i32 i il • jq es • Row 202 3 v (es.length + 1) (es.flatMap dw.enc ++ [.int .i64 a, d, i]) • F) := H.of_eq (by ac_rfl)
  have h2 : aA w0 w (edK ⟨a, d, dl, i, il⟩ • jq es • Row 202 3 v (es.length + 1) (es.flatMap dw.enc ++ [.int .i64 a, d, i]) • F) := h1.Dh (rZ (fun I h g => ⟨h, g⟩) _)
  have h3 : aA w0 w (jq (es ++ [⟨a, d, dl, i, il⟩]) • Row 202 3 v (es.length + 1) (es.flatMap dw.enc ++ [.int .i64 a, d, i]) • F) := h2.Dh (rZ (fun I h g => g.app (CU.one h)) _)
  refine aA.deep (h3.swap.of_eq ?_)
  rw [List.length_append, List.flatMap_append]
  simp [dw.enc]
theorem aA.sJ (H : aA w0 w (Fv v es • F)) : aA w0 w (Ar v es • F) := by
  have hl := H.XB.vU
  have H := H.XB
  rcases H.rY with ⟨a, rfl, h1, h2, H1⟩ | ⟨g, o, c, cur, rfl, h2, h3, h4, h5, H1⟩
  · refine H1.Dh (pY (fun I hI => ⟨⟨hl, a, 0, by rw [h1], by omega, by decide, fun h => by omega⟩, hI⟩) F)
  · exact H1.freeze.Dh (rZ (fun I hI hE => ⟨⟨hl, _, c, rfl, h2, h3, fun _ => ⟨g, o, cur, _, (0, 0), rfl, hI, h5⟩⟩, hE⟩) F)
theorem aA.yP (H : aA w0 w (Ar v es • F)) : Rd w 3 v es.length (es.flatMap dw.enc) := let ⟨I, h, hI⟩ := H.qU; h.1.rd hI
theorem aA.X8 (H : aA w0 w (Ar v es • F)) {k : Nat} (hk : k < es.length) : iI w .i32 (es.getD k default).d (es.getD k default).dl := let ⟨I, h, hI⟩ := H.qU; (h.2 k hk).1.rd hI
theorem aA.X9 (H : aA w0 w (Ar v es • F)) {k : Nat} (hk : k < es.length) : iI w .i32 (es.getD k default).i (es.getD k default).il := let ⟨I, h, hI⟩ := H.qU; (h.2 k hk).2.rd hI
theorem aA.Jq (H : aA w0 w (nZ gs • F)) {k : Nat} (hk : k < gs.length) : aA w0 w (Ar (gs.getD k default).1 (gs.getD k default).2 • nZ gs • F) := H.zn.Dh (pY (fun I h => h k hk) _)
theorem aA.QJ (H : aA w0 w (nZ gs • F)) (n : Nat) : aA w0 w (nZ (gs.take n) • F) := H.Dh (pY (fun I h => h.take n) _)
theorem aA.uQ (H : aA w0 w (Row 67 1 v (gs.length + 1) (gs.map (·.1) ++ [u]) • Ar u es • nZ gs • F)) : aA w0 w (zH v (gs ++ [(u, es)]) • F) := by
  have h1 : aA w0 w (Ar u es • nZ gs • Row 67 1 v (gs.length + 1) (gs.map (·.1) ++ [u]) • F) := H.of_eq (by ac_rfl)
  have h3 : aA w0 w (nZ (gs ++ [(u, es)]) • Row 67 1 v (gs.length + 1) (gs.map (·.1) ++ [u]) • F) := h1.Dh (rZ (fun I h g => g.app (zG.one h)) _)
  refine aA.deep (h3.swap.of_eq ?_)
  rw [List.length_append, List.map_append]
  rfl
theorem aA.Jr (H : aA w0 w (jq es • F)) : ∀ x ∈ es.flatMap dw.enc, x.oneCell' = true := by
  obtain ⟨I, h, hI⟩ := H.qU
  intro x hx
  obtain ⟨e, he, hx⟩ := List.mem_flatMap.1 hx
  obtain ⟨k, hk, rfl⟩ := List.getElem_of_mem he
  have := h k hk
  rw [List.getD_eq_getElem?_getD, List.getElem?_eq_getElem hk] at this
  simp [dw.enc] at hx
  rcases hx with rfl | rfl | rfl
  · rfl
  · exact this.1.QF
  · exact this.2.QF
end
end Go.Proofs.YtddekefihgejoaaGreatDoor
end
