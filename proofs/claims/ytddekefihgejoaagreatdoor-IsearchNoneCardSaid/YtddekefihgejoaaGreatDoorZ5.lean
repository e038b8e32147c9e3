import Derived.Test.YtddekefihgejoaaGreatDoorZ2
import Derived.Test.YtddekefihgejoaaGreatDoorZ3
import Derived.Test.YtddekefihgejoaaGreatDoorZ4
import Derived.Test.YtddekefihgejoaaGreatDoorProg
set_option linter.unusedSimpArgs false
set_option linter.unusedVariables false
/- Texts of mine, joined, their names in short: ELaidU Equal Slices Buf Buf2. -/
section
set_option maxRecDepth 100000
namespace Go.Proofs.YtddekefihgejoaaGreatDoor
open Go.ChangeShapes Go.WideShapes Go.ChangeAt Go.RowKit
theorem Vl : Tryz.prog.globalNamed "unicode/utf8.first" = some 0 := by kernel_rfl
theorem Zg : Tryz.prog.globalNamed "unicode/utf8.acceptRanges" = some 1 := by kernel_rfl
theorem Vm : (Tryz.prog.globals[0]?).map (·.type) = some 245 := by kernel_rfl
theorem Zh : (Tryz.prog.globals[1]?).map (·.type) = some 248 := by kernel_rfl
def EU : List (Int × Int) := [(128, 191), (160, 191), (128, 159), (144, 191), (128, 143), (0, 0), (0, 0), (0, 0), (0, 0), (0, 0), (0, 0), (0, 0), (0, 0), (0, 0), (0, 0), (0, 0)]
def Md (x : Int × Int) : DataW Unit := .agg [.lit (.int .u8 x.1), .lit (.int .u8 x.2)]
def oU (T : List (Int × Int)) : List Value := T.flatMap fun x => [.int .u8 x.1, .int .u8 x.2]
theorem EW (T : List (Int × Int)) (k : Nat) (h : k < T.length) : (oU T).getD (k * 2) undef = .int .u8 (T.getD k (0, 0)).1 ∧ (oU T).getD (k * 2 + 1) undef = .int .u8 (T.getD k (0, 0)).2 := by
  induction T generalizing k with
  | nil => simp at h
  | cons x r ih =>
    cases k with
    | zero => exact ⟨rfl, rfl⟩
    | succ k =>
      have := ih k (by simpa using h)
      rw [show (k + 1) * 2 = k * 2 + 2 from by omega, show k * 2 + 2 + 1 = (k * 2 + 1) + 2 from by omega]
      simpa [oU, List.getD_eq_getElem?_getD] using this
theorem Ir (T : List (Int × Int)) : (oU T).length = T.length * 2 := by
  induction T with
  | nil => rfl
  | cons x r ih => simp only [oU, List.flatMap_cons, List.length_append] at *; simp [ih]; omega
section
variable {enc : TypeId × Value → Unit} {w : World} {base : Nat} {spare : Nat → Bool} {held : Bool} {fuel : Nat} {ps : List MemPlace}
theorem Tq {cs : List Value} {x : Int × Int} (h : DataW.trod enc Tryz.prog w base spare held fuel 247 cs = some (Md x, ps)) : cs = [.int .u8 x.1, .int .u8 x.2] := by
  obtain ⟨xs, n, -, hx, hl, hl2, hf⟩ := DataW.trod_struct Tryz.underlying247 h
  rw [show Tryz.prog.cellsOf 247 = 2 from by kernel_rfl] at hl
  simp only [Prod.mk.injEq, Md, DataW.agg.injEq] at hx
  match xs, hl2, hx, cs, hl with
  | [y0, y1], _, hx, [c0, c1], _ =>
    have h0 : DataW.trod enc Tryz.prog w base spare held n 5 (([c0, c1].drop 0).take (Tryz.prog.cellsOf 5)) = some y0 := hf 0 _ rfl
    have h1 : DataW.trod enc Tryz.prog w base spare held n 5 (([c0, c1].drop 1).take (Tryz.prog.cellsOf 5)) = some y1 := hf 1 _ rfl
    simp only [List.map_cons, List.map_nil, List.cons.injEq] at hx
    obtain ⟨n0, e0, d0, -⟩ := DataW.trod_int Tryz.underlying5 h0
    obtain ⟨n1, e1, d1, -⟩ := DataW.trod_int Tryz.underlying5 h1
    rw [show Tryz.prog.cellsOf 5 = 1 from by kernel_rfl] at e0 e1
    simp at e0 e1
    rw [d0, d1] at hx
    simp at hx
    subst e0; subst e1
    rw [hx.1.1, hx.1.2]
theorem Tt {t n : Nat} {cs : List Value} {T : List (Int × Int)} (ht : Tryz.prog.underlying t = some (.array n 247)) (hc : Tryz.prog.cellsOf t = n * 2) (h : DataW.trod enc Tryz.prog w base spare held fuel t cs = some (.agg (T.map Md), ps)) : cs = oU T := by
  obtain ⟨xs, m, -, hx, hl, hl2, hel⟩ := DataW.trod_array ht h
  simp only [Prod.mk.injEq, DataW.agg.injEq] at hx
  rw [hc] at hl
  have hTn : T.length = n := by have := congrArg List.length hx.1; simpa [hl2] using this
  have hv := Ir T
  apply List.ext_getElem?
  intro j
  by_cases hj : j < n * 2
  · have hk : j / 2 < n := by omega
    have h1 := hel (j / 2) hk
    rw [show Tryz.prog.cellsOf 247 = 2 from by kernel_rfl, List.getElem?_eq_getElem (by omega)] at h1
    have h2 : xs[j / 2].1 = Md (T.getD (j / 2) (0, 0)) := by
      have := congrArg (fun l => l[j / 2]?) hx.1
      simp [List.getElem?_eq_getElem (show j / 2 < T.length by omega), List.getElem?_eq_getElem (show j / 2 < xs.length by omega)] at this
      rw [List.getD_eq_getElem?_getD, List.getElem?_eq_getElem (show j / 2 < T.length by omega), Option.getD_some, this]
    have h3 := Tq (x := T.getD (j / 2) (0, 0)) (ps := xs[j / 2].2) (by rw [h1, ← h2])
    obtain ⟨e0, e1⟩ := EW T (j / 2) (by omega)
    have hq : (oU T)[j]? = some ((oU T).getD j undef) := by rw [List.getD_eq_getElem?_getD, List.getElem?_eq_getElem (by omega)]; rfl
    rw [hq]
    rcases (show j = j / 2 * 2 ∨ j = j / 2 * 2 + 1 by omega) with hj2 | hj2
    · have := congrArg (fun l => l[0]?) h3
      simp [List.getElem?_drop] at this
      rw [show j / 2 * 2 = j from by omega] at this e0
      rw [this, e0]; simp [List.getD_eq_getElem?_getD]
    · have := congrArg (fun l => l[1]?) h3
      simp [List.getElem?_take, List.getElem?_drop] at this
      rw [show j / 2 * 2 + 1 = j from by omega] at this e1
      rw [this, e1]; simp [List.getD_eq_getElem?_getD]
  · rw [List.getElem?_eq_none (by omega), List.getElem?_eq_none (by omega)]
theorem PU {t n : Nat} {cs : List Value} {Z : List Nat} (ht : Tryz.prog.underlying t = some (.array n 5)) (h : DataW.trod enc Tryz.prog w base spare held fuel t cs = some (.agg (Z.map fun (q : Nat) => .lit (.int .u8 q)), ps)) {r : Nat} (hr : r < n) : cs[r]? = some (.int .u8 (Z.getD r 0 : Nat)) := by
  obtain ⟨xs, m, _, ex, _, hl, hel⟩ := DataW.trod_array ht h
  have c5 : Tryz.prog.cellsOf 5 = 1 := by kernel_rfl
  have hE := hel r hr
  rw [c5, Nat.mul_one, List.getElem?_eq_getElem (by omega)] at hE
  obtain ⟨z, e1, e2, _⟩ := DataW.trod_int Tryz.underlying5 hE
  have e3 : (xs.map (·.1)) = Z.map fun (q : Nat) => .lit (.int .u8 q) := (DataW.agg.inj (Prod.mk.inj ex).1).symm
  have hzl : Z.length = n := by have := congrArg List.length e3; simpa [hl] using this.symm
  have e4 : (xs.map (·.1))[r]? = (Z.map fun (q : Nat) => (DataW.lit (.int .u8 q) : DataW Unit))[r]? := by rw [e3]
  rw [List.getElem?_map, List.getElem?_map, List.getElem?_eq_getElem (by omega : r < xs.length), List.getElem?_eq_getElem (by omega : r < Z.length), e2] at e4
  have hz : z = (Z.getD r 0 : Nat) := by
    simp only [Option.map_some, Option.some.injEq, DataW.lit.injEq, Lit.int.injEq, true_and] at e4
    rw [e4, List.getD_eq_getElem?_getD, List.getElem?_eq_getElem (by omega : r < Z.length)]; rfl
  have : cs[r]? = some (.int .u8 z) := by
    have h0 : ((cs.drop r).take 1)[0]? = some (.int .u8 z) := by rw [e1]; rfl
    simpa using h0
  rw [this, hz]
end
theorem PV {W : World} (h : laidMetH Tryz.prog CW W) : tZ W := by
  rw [MakeChecks.laidMetH_plain _ _ _ (by kernel_rfl)] at h
  obtain ⟨ps, ⟨g3, t3, cs3, f3, p3, q3, hg3, ht3, hv3, hd3, ⟨g2, t2, cs2, f2, p2, q2, hg2, ht2, hv2, hd2, _, _⟩, _⟩, _, _⟩ := h
  obtain rfl := Option.some.inj (Vl.symm.trans hg2)
  obtain rfl := Option.some.inj (Zg.symm.trans hg3)
  obtain rfl := Option.some.inj (Vm.symm.trans ht2)
  obtain rfl := Option.some.inj (Zh.symm.trans ht3)
  have e3 := Tt (T := EU) Tryz.underlying248 (by kernel_rfl) hd3
  refine ⟨fun x hx => ?_, fun i hi => ?_⟩
  · rw [World.var?_cell hg2 hv2 x, ← Array.getElem?_toList, PU (Z := Go.Pinned.utf8FirstZ) Tryz.underlying245 hd2 hx]; rfl
  · have hp := EW EU i (by simp [EU]; omega)
    have ha : EU.getD i (0, 0) = NS.getD i (0, 0) := by
      match i, hi with
      | 0, _ => rfl
      | 1, _ => rfl
      | 2, _ => rfl
      | 3, _ => rfl
      | 4, _ => rfl
    rw [ha] at hp
    have hl := Ir EU
    have hl2 : EU.length = 16 := rfl
    constructor
    · rw [World.var?_cell hg3 hv3 _, ← Array.getElem?_toList, e3, ← hp.1, List.getD_eq_getElem?_getD, List.getElem?_eq_getElem (by omega)]; rfl
    · rw [World.var?_cell hg3 hv3 _, ← Array.getElem?_toList, e3, ← hp.2, List.getD_eq_getElem?_getD, List.getElem?_eq_getElem (by omega)]; rfl
end Go.Proofs.YtddekefihgejoaaGreatDoor
end
section
namespace Go.Proofs.YtddekefihgejoaaGreatDoor
open Go.RowKit
open _root_.Go.Proofs.Tryz
theorem FZ {l m : List Int} {i : Nat} (h1 : i < l.length) (h2 : i < m.length) (h : l.take i = m.take i) (e : l.getD i 0 = m.getD i 0) : l.take (i + 1) = m.take (i + 1) := by
  rw [List.take_succ_eq_append_getElem h1, List.take_succ_eq_append_getElem h2, h]
  simp [List.getD_eq_getElem?_getD, h1, h2] at e
  rw [e]
theorem zK (w : World) (v1 v2 : Value) (l1 l2 : List Int) (h1 : iV w .i32 v1 l1) (h2 : iV w .i32 v2 l2) :
  fE prog 70 #[v1, v2] w fun v w' => v = .bool (l1 == l2) ∧ rJ w w' := by
 obtain ⟨a1, c1, rfl, hc1, hm1, hr1⟩ := h1.open
 obtain ⟨a2, c2, rfl, hc2, hm2, hr2⟩ := h2.open
 clear h1 h2
 refine gy func70 ntmps70 ?_
 dsimp only [aY, Nat.reduceAdd]
 refine ay (ah (aV rfl (aA (aj (ay (ay (ah (aN rfl (aU (iZ underlying23 rfl) (aN rfl (aU (iZ underlying23 rfl) (aU (dZ rfl rfl) (aA (aj (aP rfl (fun h1 => ?_) (fun h1 => ?_))))))))))))))))
 ·(try simp only [aI] at h1)
  try (exfalso; first | contradiction | omega)
  all_goals
   refine ay (ah (aV rfl (aA (aj (aJ (aK (aQ (.inl rfl) results70 rfl ?_)))))))
   exact ⟨by rw [show (l1 == l2) = false from beq_eq_false_iff_ne.2 (by rintro rfl; exact h1 rfl)], rJ.refl _⟩
 ·(try simp only [aI] at h1)
  try (exfalso; first | contradiction | omega)
  all_goals
   refine aT (aj (ay (ay (ah (aN rfl (aU (iZ underlying23 rfl) (aN rfl (aA (aj (bf ?_))))))))))
   refine fH [(0, _), (1, _), (12, _)] (fun (k : Nat) => [(13, .int .i64 (k : Int))]) (fun (k : Nat) W => k ≤ l1.length ∧ l1.length = l2.length ∧ l1.take k = l2.take k ∧ rJ w W) (fun (k : Nat) => l1.length - k) (0) (Sub.cons rfl (Sub.cons rfl (Sub.cons rfl (Sub.nil _)))) (Sub.cons rfl (Sub.nil _)) ⟨by omega, by omega, by simp, rJ.refl _⟩ ?_
   rintro k w1 ⟨hk, hl, ht, hD⟩
   dsimp only [List.cons_append, List.nil_append]
   refine ay (ah (aU (eu rfl rfl) (aA (aj (ay (aP rfl (fun h2 => ?_) (fun h2 => ?_)))))))
   ·(try simp only [aI] at h2)
    try (exfalso; first | contradiction | omega)
    all_goals
     refine aT (aj (ay (bf (ay (ah (aN rfl (aV rfl (aA (aj (ay ?_))))))))))
     obtain ⟨b1, o1, rfl, hq1⟩ := hr1 (by omega)
     obtain ⟨b2, o2, rfl, hq2⟩ := hr2 (by omega)
     have hc1 := hq1 k (by omega)
     have hc2 := hq2 k (by omega)
     refine nD (n := 9) [0, 1, 2, 3, 4, 5, 6, 7, 8] (fun W => W.heap = w1.heap) (by kernel_rfl) (by kernel_rfl) rfl ?_
     have hS0 : (fun W => W.heap = w1.heap) (w1.drew) := rfl
     refine gQ 0 rfl hS0 rfl (gQ 1 rfl hS0 rfl (iJ 2 rfl hS0 (fun _ => cZ underlying23 sizeOf21 rfl rfl (by omega)) ?_))
     refine gY 3 rfl hS0 (fun W hW => fJ (bW underlying21 rfl) rfl (by rw [zD (hW.trans hD.heap)]; simpa using hc1)) ?_
     refine gQ 4 rfl hS0 rfl (gQ 5 rfl hS0 rfl (iJ 6 rfl hS0 (fun _ => cZ underlying23 sizeOf21 rfl rfl (by omega)) ?_))
     refine gY 7 rfl hS0 (fun W hW => fJ (bW underlying21 rfl) rfl (by rw [zD (hW.trans hD.heap)]; simpa using hc2)) ?_
     refine iJ 8 rfl hS0 (fun _ => dZ rfl rfl) (nT (aj (aP rfl (fun h3 => ?_) (fun h3 => ?_))))
     ·(try simp only [aI] at h3)
      try (exfalso; first | contradiction | omega)
      all_goals
       refine ay (ah (aV rfl (aA (aj (aJ (aX (aK (aK (aX (aK (aQ (.inl rfl) results70 rfl ?_)))))))))))
       exact ⟨by rw [show (l1 == l2) = false from beq_eq_false_iff_ne.2 (by rintro rfl; exact h3 rfl)], hD.drew⟩
     ·(try simp only [aI] at h3)
      try (exfalso; first | contradiction | omega)
      all_goals
       refine aT (aH (aj (ah (aU (dS rfl rfl (by omega)) (aN rfl (aA ?_))))))
       refine dA (k + 1) ?_ ?_ ?_ ?_
       ·exact (Sub.cons rfl (Sub.nil _))
       ·exact (Sub.cons rfl (Sub.cons rfl (Sub.cons rfl (Sub.nil _))))
       ·(try dsimp only)
        first | done | exact ⟨by omega, by omega, FZ (by omega) (by omega) ht (by simpa using h3), hD.drew⟩
       ·(try dsimp only); omega
   ·(try simp only [aI] at h2)
    try (exfalso; first | contradiction | omega)
    all_goals
     refine dL (aW (aW (bD (aj (ay (ah (aV rfl (aA (aj (aJ (aQ (.inl rfl) results70 rfl ?_)))))))))))
     exact ⟨by rw [show (l1 == l2) = true from beq_iff_eq.2 (by rw [List.take_of_length_le (by omega), List.take_of_length_le (by omega)] at ht; exact ht)], hD⟩
end Go.Proofs.YtddekefihgejoaaGreatDoor
end
section
namespace Go.Proofs.YtddekefihgejoaaGreatDoor
open Go.RowKit
open _root_.Go.Proofs.Tryz
theorem yP : (prog.info? 21).map (fun i => (i.zero, i.size, i.bytes)) = some (some (.int .i32 0), 1, 4) := by kernel_rfl
theorem kS {w0 w : World} {F : HP} {v : Value} {l : List Int} (H : aB w0 w F) (hr : iT w0 F .i32 v l) (hb : l.length * 4 ≤ 140737488355328) :
    fE prog 59 #[v] w fun v' w' => aB w0 w' (gZ 21 .i32 v' l • F) := by
  obtain ⟨a, c, rfl, h1, h2, h3⟩ := (hr w H).open
  refine gy func59 ntmps59 ?_
  dsimp only [aY, Nat.reduceAdd]
  refine ay (ah (aV rfl (aA (aj (ay (ay (ah (aN rfl (aU (jm underlying23 rfl rfl) (aA (aj (aP rfl (fun h1 => ?_) (fun h1 => ?_)))))))))))))
  · (try simp only [aI] at h1)
    try (exfalso; first | contradiction | omega)
    all_goals
      refine ay (ah (aV rfl (aA (aj (aJ (aK (aQ (.inl rfl) results59 rfl ?_)))))))
      obtain rfl : a = none := by simpa using h1
      obtain rfl : l = [] := by
        cases l with
        | nil => rfl
        | cons x l => obtain ⟨b, o, e, _⟩ := h3 (by simp); cases e
      exact H.ig none
  · (try simp only [aI] at h1)
    try (exfalso; first | contradiction | omega)
    all_goals
      refine aT (aj (ay (ah (gq (iK (vs := []) H underlying23 sizeOf21 zeroValue21 rfl rfl rfl (by decide) (by simp)) ?_))))
      rintro _ w1 H1
      refine aN rfl (gq (dG (l := []) H1 (hr.under _ H1) underlying23 yP rfl rfl (by simp; omega) (by simpa using hb)) ?_)
      rintro _ w2 H2
      refine aV rfl (aA (aj (aJ (aQ (.inl rfl) results59 rfl ?_))))
      exact H2
theorem PW {w0 w : World} {F : HP} {n : Int} (H : aB w0 w F) (h0 : 0 ≤ n) (hb : n ≤ 70368744177664) :
  fE prog 120 #[.slice none 0 0, .int .i64 n] w fun v' w' => aB w0 w' (gZ 21 .i32 v' [] • F) := by
 refine gy func120 ntmps120 ?_
 dsimp only [aY, Nat.reduceAdd]
 refine ay (ah (aV rfl (aA (aj (ay (ay (ah (aN rfl (aU (eu rfl rfl) (aA (aj (aP rfl (fun h => by exfalso; (try simp only [aI] at h); first | contradiction | omega | (simp at h <;> omega)) (fun h1 => ?_)))))))))))))
 (try simp only [aI] at h1)
 refine aT (aj (ay (ay (ah (aN rfl (aN rfl (aU (Uy underlying23 rfl) (aN rfl (aU (iZ underlying23 rfl) (aU (iW rfl rfl (by omega)) (aU (iW rfl rfl (by omega)) (aV rfl (aA (aj (ay (ah (aN rfl (aU (fZ rfl rfl) (aA (aj (aP rfl (fun h2 => ?_) (fun h2 => ?_))))))))))))))))))))))
 ·(try simp only [aI] at h2)
  try (exfalso; first | contradiction | omega)
  all_goals
   refine ah (aN rfl (aN rfl (aU (Uy underlying23 rfl) (aU (oK underlying23 sizeOf21 rfl rfl rfl (by omega)) (aN rfl (gq (CU H underlying23 underlying3 yP rfl rfl (by omega) (by omega) (by omega)) ?_))))))
   rintro _ w1 ⟨g, c, cur, rfl, hc1, hc2, hc3, H1⟩
   refine aN rfl (aU (iZ underlying23 rfl) (aU (oK underlying23 sizeOf21 rfl rfl rfl (by omega)) (aV rfl (aA (aj (ay (ah (aN rfl (aV rfl (aA (aj (aJ (aQ (.inl rfl) results120 rfl ?_)))))))))))))
   exact H1.sQ (o := 0) (by simp) (EP 1 0 g 0 _ c) (by simp) hc2 (by simpa using hc3) (by simp)
 ·(try simp only [aI] at h2)
  try (exfalso; first | contradiction | omega)
  all_goals
   refine aT (aj (ay (ah (aN rfl (aV rfl (aA (aj (aJ (aQ (.inl rfl) results120 rfl ?_)))))))))
   exact H.ig none
theorem Dh {w0 w : World} {F : HP} {v : Value} {vs : List Value} {ls : List (List Int)} (H : aB w0 w F) (hv : Ie w0 F 1 v ls.length vs) (hls : ∀ k, k < ls.length → iT w0 F .i32 (vs.getD k undef) (ls.getD k [])) (hb : ls.flatten.length * 4 ≤ 140737488355328) :
  fE prog 62 #[v] w fun v' w' => aB w0 w' (gZ 21 .i32 v' ls.flatten • F) := by
 obtain ⟨_, a, c, rfl, hc1, hc2, _⟩ := hv w H
 refine gy func62 ntmps62 ?_
 dsimp only [aY, Nat.reduceAdd]
 refine ay (ah (aV rfl (aA (aj (ay (ah (aV rfl (aA (aj (ay (ay (ah (aN rfl (aU (iZ underlying22 rfl) (aN rfl (aA (aj (bf ?_))))))))))))))))))
 refine fH [(0, _), (9, _), (10, _)] (fun (k : Nat) => [(3, .int .i64 ((ls.take k).flatten.length : Int)), (11, .int .i64 (k : Int))]) (fun (k : Nat) W => k ≤ ls.length ∧ aB w0 W F) (fun (k : Nat) => ls.length - k) (0) (Sub.cons rfl (Sub.cons rfl (Sub.cons rfl (Sub.nil _)))) (Sub.iG rfl (by simp) (Sub.iG rfl (rfl) (Sub.nil _))) ⟨by omega, H⟩ ?_
 rintro k w1 ⟨hk, HL⟩
 dsimp only [List.cons_append, List.nil_append]
 refine ay (ah (aU (eu rfl rfl) (aA (aj (ay (aP rfl (fun h1 => ?_) (fun h1 => ?_)))))))
 ·(try simp only [aI] at h1)
  try (exfalso; first | contradiction | omega)
  all_goals
   refine aT (aj (ay (bf (ay ?_))))
   have hk1 : k < ls.length := by omega
   obtain ⟨b, o, rfl, hc⟩ := hv.cell HL (j := k) (by omega)
   obtain ⟨ak, ck, ek, hk2, hk3, _⟩ := (hls k hk1 _ HL).open
   rw [ek] at hc
   have hfl := FU ls (k + 1)
   rw [wQ ls hk1, List.length_append] at hfl
   refine ah (aU (cZ underlying22 sizeOf23 rfl rfl (by omega)) ?_)
   refine aU (fJ (bW underlying23 rfl) rfl (by rw [show ((k : Int).toNat * 1) = k from by omega]; exact hc)) ?_
   refine aV rfl (aA (aj (ay (ah (aN rfl (aN rfl (aU (iZ underlying23 rfl) (aU (dS rfl rfl (by omega)) (aV rfl (aA (aj (ay (ah (aN rfl (aU (eu rfl rfl) (aA (aj (aP rfl (fun h => by exfalso; (try simp only [aI] at h); first | contradiction | omega | (simp at h <;> omega)) (fun h2 => ?_)))))))))))))))))))
   (try simp only [aI] at h2)
   refine aT (aH (aj (ah (aU (dS rfl rfl (by omega)) (aN rfl (aA ?_))))))
   refine dA (k + 1) ?_ ?_ ?_ ?_
   ·exact (Sub.iG rfl (by rw [wQ ls hk1, List.length_append, Int.natCast_add]) (Sub.cons rfl (Sub.nil _)))
   ·exact (Sub.cons rfl (Sub.cons rfl (Sub.cons rfl (Sub.nil _))))
   ·(try dsimp only)
    first | done | exact ⟨by omega, HL⟩
   ·(try dsimp only); omega
 ·(try simp only [aI] at h1)
  try (exfalso; first | contradiction | omega)
  all_goals
   refine dL (aW (aW (bD (aj (ay (ah (aN rfl (dw rfl func120 (PW HL (by omega) (by have := FU ls k; omega)) ?_))))))))
   rintro vg w2 H2
   refine aV rfl (aA (aj (ay (ay (ah (aN rfl (aU (iZ underlying22 rfl) (aN rfl (aA (aj (bf ?_)))))))))))
   refine fH [(25, _), (26, _)] (fun (⟨k, u⟩ : Nat × Value) => [(6, u), (27, .int .i64 (k : Int))]) (fun (⟨k, u⟩ : Nat × Value) W => k ≤ ls.length ∧ aB w0 W (gZ 21 .i32 u (ls.take k).flatten • F)) (fun (⟨k, u⟩ : Nat × Value) => ls.length - k) ((0, vg)) (Sub.cons rfl (Sub.cons rfl (Sub.nil _))) (Sub.cons rfl (Sub.cons rfl (Sub.nil _))) ⟨by omega, H2⟩ ?_
   rintro ⟨k, u⟩ w3 ⟨hk, HM⟩
   dsimp only [List.cons_append, List.nil_append]
   refine ay (ah (aU (eu rfl rfl) (aA (aj (ay (aP rfl (fun h3 => ?_) (fun h3 => ?_)))))))
   ·(try simp only [aI] at h3)
    try (exfalso; first | contradiction | omega)
    all_goals
     refine aT (aj (ay (bf (ay ?_))))
     have hk1 : k < ls.length := by omega
     obtain ⟨b, o, rfl, hc⟩ := hv.cell HM.right (j := k) (by omega)
     have hrk := hls k hk1
     have hfl := FU ls (k + 1)
     rw [wQ ls hk1, List.length_append] at hfl
     refine ah (aU (cZ underlying22 sizeOf23 rfl rfl (by omega)) ?_)
     refine aU (fJ (bW underlying23 rfl) rfl (by rw [show ((k : Int).toNat * 1) = k from by omega]; exact hc)) ?_
     refine aV rfl (aA (aj (ah (aN rfl (aN rfl (gq (dG HM (hrk _ HM.right) underlying23 yP rfl rfl (by omega) (by omega)) ?_))))))
     rintro va w4 H4
     refine aV rfl (aA (aH (aj (ah (aU (dS rfl rfl (by omega)) (aN rfl (aA ?_)))))))
     refine dA ((k + 1, va)) ?_ ?_ ?_ ?_
     ·exact (Sub.cons rfl (Sub.cons rfl (Sub.nil _)))
     ·exact (Sub.cons rfl (Sub.cons rfl (Sub.nil _)))
     ·(try dsimp only)
      first | done | exact ⟨by omega, by rw [wQ ls hk1]; exact H4⟩
     ·(try dsimp only); omega
   ·(try simp only [aI] at h3)
    try (exfalso; first | contradiction | omega)
    all_goals
     refine dL (aW (aW (bD (aj (ay (ah (aN rfl (aV rfl (aA (aj (aJ (aQ (.inl rfl) results62 rfl ?_))))))))))))
     rw [List.take_of_length_le (by omega)] at HM; exact HM
theorem Iu {w0 w : World} {F : HP} {b : Nat} {T : TypeId} {u1 u2 : Value} {l1 l2 : List Int} (H : aB w0 w (bY b (.cells #[u1, u2] T (0, 0)) • F)) (h1 : iT w0 (bY b (.cells #[u1, u2] T (0, 0)) • F) .i32 u1 l1) (h2 : iT w0 (bY b (.cells #[u1, u2] T (0, 0)) • F) .i32 u2 l2)
    (hb : (l1.length + l2.length) * 4 ≤ 140737488355328) :
    fE prog 62 #[.slice (some ⟨b, 0, none⟩) 2 2] w fun v' w' => aB w0 w' (gZ 21 .i32 v' (l1 ++ l2) • bY b (.cells #[u1, u2] T (0, 0)) • F) := by
  have := Dh (ls := [l1, l2]) (vs := [u1, u2]) (v := .slice (some ⟨b, 0, none⟩) 2 2) H (fun W HW => ⟨rfl, _, 2, rfl, by simp, by decide, fun _ => ⟨b, 0, rfl, fun j hj => ?_⟩⟩) (fun k hk => ?_) (by simpa using hb)
  · simpa using this
  · refine gX HW.get.2 ?_
    simp at hj
    match j, hj with
    | 0, _ => rfl
    | 1, _ => rfl
  · simp at hk
    match k, hk with
    | 0, _ => exact h1
    | 1, _ => exact h2
end Go.Proofs.YtddekefihgejoaaGreatDoor
end
section
namespace Go.Proofs.YtddekefihgejoaaGreatDoor
open Go.RowKit
open _root_.Go.Proofs.Tryz
theorem Iw {s i j : Nat} {v : Value} (h : v.oneCell' = true) : (nG s i j v).oneCell' = true := by cases v <;> simp_all [nG, Value.oneCell']
def dP (v : Value) (f t pt mk : Int) : Array Value := #[.bool true, v, .int .i64 f, .int .i64 t, .int .i64 pt, .int .i64 mk]
theorem Tv {a b : Value} (h : a.oneCell' = true) (k : b.oneCell' = true) : ∀ u ∈ [a, b], u.oneCell' = true := by
  intro u hu; simp at hu; rcases hu with rfl | rfl
  · exact h
  · exact k
section
variable {v u : Value} {f t pt mk x : Int}
theorem iP : (dP v f t pt mk).size = 6 := rfl
theorem NW : (dP v f t pt mk).setIfInBounds 1 u = dP u f t pt mk := rfl
theorem uX : (dP v f t pt mk).setIfInBounds 2 (.int .i64 x) = dP v x t pt mk := rfl
theorem xR : (dP v f t pt mk).setIfInBounds 3 (.int .i64 x) = dP v f x pt mk := rfl
theorem sS : (dP v f t pt mk).setIfInBounds 4 (.int .i64 x) = dP v f t x mk := rfl
theorem kT : (dP v f t pt mk).setIfInBounds 5 (.int .i64 x) = dP v f t pt x := rfl
end
def dI (p : Nat) (L : List Int) (pt mk : Int) : HP := qJ fun (x : Value × List Int × Nat × Nat) =>
  fact (x.2.2.1 ≤ x.2.2.2 ∧ x.2.2.2 ≤ x.2.1.length ∧ L = x.2.1.take x.2.2.1 ++ x.2.1.drop x.2.2.2 ∧ L.length ≤ 1024 ∧ x.2.1.length ≤ 4096 ∧ (0 ≤ pt ∧ pt ≤ L.length) ∧ (-1 ≤ mk ∧ mk ≤ L.length)) •
    bY p (.cells (dP x.1 x.2.2.1 x.2.2.2 pt mk) 208 (0, 0)) • gZ 21 .i32 x.1 x.2.1
section
variable {w0 w : World} {F : HP} {p : Nat} {L : List Int} {pt mk : Int}
theorem aB.buf (H : aB w0 w (dI p L pt mk • F)) : ∃ (a : Option Addr) (c : Nat) (xs : List Int) (f t : Nat), f ≤ t ∧ t ≤ xs.length ∧ L = xs.take f ++ xs.drop t ∧ L.length ≤ 1024 ∧ xs.length ≤ 4096 ∧ (0 ≤ pt ∧ pt ≤ L.length) ∧ (-1 ≤ mk ∧ mk ≤ L.length) ∧ xs.length ≤ c ∧ (c : Int) ≤ 9223372036854775807 ∧ L.length + t = xs.length + f ∧
    aB w0 w (bY p (.cells (dP (.slice a xs.length c) f t pt mk) 208 (0, 0)) • gZ 21 .i32 (.slice a xs.length c) xs • F) := by
  obtain ⟨⟨v, xs, f, t⟩, H⟩ := H.lg
  obtain ⟨⟨h1, h2, h3, h4, h5, h6, h7⟩, H⟩ := H.flat.fact
  have H := H.flat
  obtain ⟨a, c, hv, hc1, hc2, _⟩ := (H.swap.aO).form
  dsimp only at *
  subst hv
  refine ⟨a, c, xs, f, t, h1, h2, h3, h4, h5, h6, h7, hc1, hc2, ?_, H⟩
  rw [h3]; simp; omega
theorem aB.kD {v : Value} {xs : List Int} {f t : Nat} (h1 : f ≤ t) (h2 : t ≤ xs.length) (h3 : L = xs.take f ++ xs.drop t) (h4 : L.length ≤ 1024) (h5 : xs.length ≤ 4096) (h6 : 0 ≤ pt ∧ pt ≤ L.length) (h7 : -1 ≤ mk ∧ mk ≤ L.length)
    (H : aB w0 w (bY p (.cells (dP v f t pt mk) 208 (0, 0)) • gZ 21 .i32 v xs • F)) : aB w0 w (dI p L pt mk • F) :=
  aB.gJ (v, xs, f, t) (aB.deep (aB.jL ⟨h1, h2, h3, h4, h5, h6, h7⟩ (aB.deep H)))
theorem nI (t : TypeId) {cs : Array Value} {fr : Nat × Nat} {m : Bool} (hb : w.heap[p]? = some (.cells cs t fr)) (h0 : cs[0]? = some (.bool m)) :
  fE prog 139 #[.pointer (some ⟨p, 0, none⟩)] w fun v w' => v = .bool (!m) ∧ w = w' := by
 refine gy func139 ntmps139 ?_
 dsimp only [aY, Nat.reduceAdd]
 refine ay (ah (aV rfl (aA (aj (ay (ah (aN rfl (aU (eF underlying59 rfl rfl) (jy rfl (fun h => by exfalso; (try simp only [aI] at h); simp at h) (fun h1 => ?_))))))))))
 (try simp only [aI] at h1)
 refine bC (aN rfl (bC (bP rfl (bC (bg 0 underlying208 rfl sizeOf4 rfl (bC (dO underlying4 rfl hb h0 (bC (aU (kJ rfl) (iU rfl rfl (aV rfl (aA (aj (aJ (aQ (.inl rfl) results139 rfl ?_)))))))))))))))
 exact ⟨rfl, rfl⟩
theorem rU (H : aB w0 w (dI p L pt mk • F)) : fE prog 140 #[.pointer (some ⟨p, 0, none⟩)] w fun v w' => v = .int .i64 L.length ∧ rJ w w' := by
 obtain ⟨a, c, xs, f, t, h1, h2, h3, h4, h5, h6, h7, hc1, hc2, hl, H1⟩ := H.buf
 have hb := H1.get.2
 refine gy func140 ntmps140 ?_
 dsimp only [aY, Nat.reduceAdd]
 refine ay (ah (aV rfl (aA (aj (ay (ay (ah (aN rfl (dw rfl func139 (nI _ hb rfl) ?_)))))))))
 rintro _ _ ⟨rfl, rfl⟩
 refine aA (aj (pJ (aT (aj (ay ?_)))))
 refine nD (n := 16) [0, 1, 2, 3, 4, 5, 6, 7, 8, 9, 10, 11, 12, 13, 14, 15] (fun W => W.heap = w.heap) (by kernel_rfl) (by kernel_rfl) rfl ?_
 have hS0 : (fun W => W.heap = w.heap) (w.drew) := rfl
 have H3d := H1.drew
 refine gQ 0 rfl hS0 rfl (iQ 1 rfl hS0 rfl (dR 2 rfl hS0 1 underlying208 rfl sizeOf23 rfl ?_))
 refine gY 3 rfl hS0 (fun W hW => iH underlying23 rfl (by rw [hW]; exact hb) rfl) ?_
 refine iJ 4 rfl hS0 (fun _ => iZ underlying23 rfl) (gQ 5 rfl hS0 rfl (iQ 6 rfl hS0 rfl (dR 7 rfl hS0 3 underlying208 rfl sizeOf3 rfl ?_)))
 refine gY 8 rfl hS0 (fun W hW => iH underlying3 rfl (by rw [hW]; exact hb) rfl) ?_
 refine gQ 9 rfl hS0 rfl (iQ 10 rfl hS0 rfl (dR 11 rfl hS0 2 underlying208 rfl sizeOf3 rfl ?_))
 refine gY 12 rfl hS0 (fun W hW => iH underlying3 rfl (by rw [hW]; exact hb) rfl) ?_
 refine iJ 13 rfl hS0 (fun _ => iW rfl rfl (by omega)) (iJ 14 rfl hS0 (fun _ => iW rfl rfl (by omega)) (iJ 15 rfl hS0 (fun _ => eP rfl) (nT (aj (aJ (aQ (.inl rfl) results140 rfl ?_))))))
 exact ⟨by congr 1; omega, rJ.refl _ |>.drew⟩
theorem sU (H : aB w0 w (dI p L pt mk • F)) : fE prog 89 #[.pointer (some ⟨p, 0, none⟩)] w fun v w' => v = .int .i64 pt ∧ w = w' := by
 obtain ⟨a, c, xs, f, t, h1, h2, h3, h4, h5, h6, h7, hc1, hc2, hl, H1⟩ := H.buf
 have hb := H1.get.2
 refine gy func89 ntmps89 ?_
 dsimp only [aY, Nat.reduceAdd]
 refine ay (ah (aV rfl (aA (aj (ay (ay (ah (aN rfl (dw rfl func139 (nI _ hb rfl) ?_)))))))))
 rintro _ _ ⟨rfl, rfl⟩
 refine aA (aj (pJ (aT (aj (ay (ah (aN rfl (bP rfl (bg 4 underlying208 rfl sizeOf3 rfl (dO underlying3 rfl hb rfl (aV rfl (aA (aj (aJ (aQ (.inl rfl) results89 rfl ?_)))))))))))))))
 exact ⟨rfl, rfl⟩
theorem F5 (H : aB w0 w (dI p L pt mk • F)) : fE prog 122 #[.pointer (some ⟨p, 0, none⟩)] w fun v w' => v = .int .i64 mk ∧ w = w' := by
 obtain ⟨a, c, xs, f, t, h1, h2, h3, h4, h5, h6, h7, hc1, hc2, hl, H1⟩ := H.buf
 have hb := H1.get.2
 refine gy func122 ntmps122 ?_
 dsimp only [aY, Nat.reduceAdd]
 refine ay (ah (aV rfl (aA (aj (ay (ay (ah (aN rfl (dw rfl func139 (nI _ hb rfl) ?_)))))))))
 rintro _ _ ⟨rfl, rfl⟩
 refine aA (aj (pJ (aT (aj (ay (ah (aN rfl (bP rfl (bg 5 underlying208 rfl sizeOf3 rfl (dO underlying3 rfl hb rfl (aV rfl (aA (aj (aJ (aQ (.inl rfl) results122 rfl ?_)))))))))))))))
 exact ⟨rfl, rfl⟩
theorem nJ (H : aB w0 w (dI p L pt mk • F)) : fE prog 121 #[.pointer (some ⟨p, 0, none⟩)] w fun v w' => aB w0 w' (gZ 21 .i32 v L • dI p L pt mk • F) := by
 obtain ⟨a, c, xs, f, t, h1, h2, h3, h4, h5, h6, h7, hc1, hc2, hl, H1⟩ := H.buf
 have hb := H1.get.2
 refine gy func121 ntmps121 ?_
 dsimp only [aY, Nat.reduceAdd]
 refine ay (ah (aV rfl (aA (aj (ay (ay (ah (aN rfl (dw rfl func139 (nI _ hb rfl) ?_)))))))))
 rintro _ _ ⟨rfl, rfl⟩
 refine aA (aj (pJ (aT (aj (ay ?_)))))
 refine nD (n := 21) [0, 1, 2, 3, 4, 5, 6, 7, 8, 9, 10, 11, 12, 13, 14, 15, 16, 17, 18, 19, 20] (fun W => W.heap[p]? = some (.cells (dP (.slice a xs.length c) f t pt mk) 208 (0, 0))) (by kernel_rfl) (by kernel_rfl) rfl ?_
 have hS0 : (fun W => W.heap[p]? = some (.cells (dP (.slice a xs.length c) f t pt mk) 208 (0, 0))) (w.drew) := hb
 have H3d := H1.drew
 refine gQ 0 rfl hS0 rfl (iQ 1 rfl hS0 rfl (dR 2 rfl hS0 1 underlying208 rfl sizeOf23 rfl (gY 3 rfl hS0 (fun W hW => iH underlying23 rfl hW rfl) (gQ 4 rfl hS0 rfl (iQ 5 rfl hS0 rfl (dR 6 rfl hS0 2 underlying208 rfl sizeOf3 rfl (gY 7 rfl hS0 (fun W hW => iH underlying3 rfl hW rfl) (iJ 8 rfl hS0 (fun _ => oK underlying23 sizeOf21 rfl rfl rfl (by omega)) (gQ 9 rfl hS0 rfl (iQ 10 rfl hS0 rfl (dR 11 rfl hS0 1 underlying208 rfl sizeOf23 rfl (gY 12 rfl hS0 (fun W hW => iH underlying23 rfl hW rfl) (gQ 13 rfl hS0 rfl (iQ 14 rfl hS0 rfl (dR 15 rfl hS0 3 underlying208 rfl sizeOf3 rfl (gY 16 rfl hS0 (fun W hW => iH underlying3 rfl hW rfl) (iJ 17 rfl hS0 (fun _ => oK underlying23 sizeOf21 rfl rfl rfl (by omega)) (jk 18 rfl (UA (vs := [nG 1 0 f (.slice a xs.length c), nG 1 t xs.length (.slice a xs.length c)]) H3d underlying22 sizeOf23 zeroValue23 rfl rfl rfl (by decide) (Tv (Iw rfl) (Iw rfl))) ?_))))))))))))))))))
 rintro _ w2 ⟨b2, rfl, H2⟩
 have hS2 : (fun W => W.heap[p]? = some (.cells (dP (.slice a xs.length c) f t pt mk) 208 (0, 0))) w2 := H2.swap.get.2
 refine Uz hS2 ?_
 refine jk 19 rfl (rP rfl func62 (Iu (l1 := xs.take f) (l2 := xs.drop t) H2 (fun W HW => iV.upto HW.Hu.aO (by omega)) (fun W HW => iV.from HW.Hu.aO (by omega)) (by simp; omega))) ?_
 rintro u w3 H3
 have hS3 : (fun W => W.heap[p]? = some (.cells (dP (.slice a xs.length c) f t pt mk) 208 (0, 0))) w3 := H3.Hu.get.2
 refine Uz hS3 ?_
 refine iJ 20 rfl hS3 (fun _ => eP rfl) (nT (aj (aJ (aQ (.inl rfl) results121 rfl ?_))))
 rw [← h3] at H3
 exact (aB.kD h1 h2 h3 h4 h5 h6 h7 H3.swap.right.d3).swap
theorem AA {v : Value} {l : List Int} (H : aB w0 w F) (hr : iT w0 F .i32 v l) (hl : l.length ≤ 1024) : fE prog 87 #[v] w fun v' w' => ∃ p, v' = .tuple #[.pointer (some ⟨p, 0, none⟩), .int .i64 0] ∧ aB w0 w' (dI p l l.length (-1) • F) := by
 obtain ⟨a, c, rfl, _, _, _⟩ := (hr w H).open
 refine gy func87 ntmps87 ?_
 dsimp only [aY, Nat.reduceAdd]
 refine ay (ah (aV rfl (aV rfl (aA (aj (ay (ay (ah (aN rfl (aU (iZ underlying23 rfl) (aU (fZ rfl rfl) (aA (aj (aP rfl (fun h => by exfalso; (try simp only [aI] at h); first | contradiction | omega | (simp at h <;> omega)) (fun h1 => ?_)))))))))))))))
 (try simp only [aI] at h1)
 refine aT (aj (ay (ah (aN rfl (dw rfl func59 (kS H hr (by omega)) ?_)))))
 rintro u w1 H1
 obtain ⟨au, cu, hu, _⟩ := (H1.aO).form
 subst hu
 refine aN rfl (aU (iZ underlying23 rfl) (aU (fD (pl := #[(0, 1), (1, 1), (2, 1), (3, 1), (4, 1), (5, 1)]) (dP (.slice au l.length cu) 0 0 l.length (-1)) underlying208 zeroValue208 (fun w => by kernel_rfl) rfl (by kernel_rfl)) (gq (Pm H1 rfl) ?_)))
 rintro _ w2 ⟨b2, rfl, H2⟩
 refine aV rfl (aA (aj (ay ?_)))
 have HB : aB w0 w2 (bY b2 (.cells (dP (.slice au l.length cu) 0 0 l.length (-1)) 208 (0, 0)) • gZ 21 .i32 (.slice au l.length cu) l • F) := H2
 refine ah (aN rfl (aN rfl (aN rfl (aU (iZ underlying23 rfl) (aN rfl (aU (iZ underlying23 rfl) (bP rfl (bg 2 underlying208 rfl sizeOf3 rfl (aG (fC HB sizeOf3 rfl rfl rfl (by rw [iP]; decide)) ?_)))))))))
 rintro _ w3 HB1
 rw [uX] at HB1
 refine bP rfl (bg 3 underlying208 rfl sizeOf3 rfl (aG (fC HB1 sizeOf3 rfl rfl rfl (by rw [iP]; decide)) ?_))
 rintro _ w4 HB2
 rw [xR] at HB2
 refine aA (aj (ay (ah (aN rfl (aV rfl (aV rfl (aA (aj (aJ (fV (.inl rfl) results87 rfl rfl ?_))))))))))
 exact ⟨_, rfl, aB.kD (f := l.length) (t := l.length) (Nat.le_refl _) (Nat.le_refl _) (by simp) hl (by omega) (by omega) (by omega) HB2⟩
end
end Go.Proofs.YtddekefihgejoaaGreatDoor
end
section
namespace Go.Proofs.YtddekefihgejoaaGreatDoor
open Go.RowKit
open _root_.Go.Proofs.Tryz
def fA (L : List Int) (i r : Nat) : List Int := dH (dH (List.replicate (L.length + r + 16) 0) 0 (L.take i)) (i + r + 16) (L.drop i)
theorem Kv {L : List Int} {i r : Nat} (h : i ≤ L.length) : (fA L i r).length = L.length + r + 16 := by
  unfold fA
  rw [bM, bM] <;> simp [bM] <;> first | omega | (rw [bM] <;> simp <;> omega)
theorem AB {l ys : List Int} {i : Nat} (h : i + ys.length ≤ l.length) : (dH l i ys).take (i + ys.length) = l.take i ++ ys := by
  unfold dH
  rw [List.take_append_of_le_length (by simp; omega), List.take_of_length_le (by simp; omega)]
theorem Iy {l ys : List Int} {i j : Nat} (h : i + ys.length ≤ j) (h2 : j ≤ l.length) : (dH l i ys).drop j = l.drop j := by
  unfold dH
  rw [List.drop_append, List.drop_eq_nil_of_le (by simp; omega), List.nil_append, List.drop_drop]
  congr 1
  simp
  omega
theorem Di {l ys : List Int} {i j : Nat} (h : j ≤ i) (h2 : i ≤ l.length) : (dH l i ys).take j = l.take j := by
  unfold dH
  rw [List.append_assoc, List.take_append_of_le_length (by simp; omega), List.take_take, Nat.min_eq_left h]
theorem Dj {l ys : List Int} {i : Nat} (h : i + ys.length = l.length) : (dH l i ys).drop i = ys := by
  unfold dH
  rw [List.append_assoc, List.drop_append, List.drop_eq_nil_of_le (by simp; omega), List.nil_append]
  simp [show i - min i l.length = 0 from by omega, show l.length ≤ i + ys.length from by omega]
theorem Iz {L : List Int} {i r : Nat} (h : i ≤ L.length) : (fA L i r).take i = L.take i := by
  have h1 : (dH (List.replicate (L.length + r + 16) (0 : Int)) 0 (L.take i)).length = L.length + r + 16 := by rw [bM] <;> simp; omega
  unfold fA
  rw [Di (by omega) (by rw [h1]; omega)]
  have := AB (l := List.replicate (L.length + r + 16) (0 : Int)) (ys := L.take i) (i := 0) (by simp; omega)
  rw [show 0 + (L.take i).length = i from by simp; omega] at this
  simpa using this
theorem IB {L : List Int} {i r : Nat} (h : i ≤ L.length) : (fA L i r).drop (i + r + 16) = L.drop i := by
  have h1 : (dH (List.replicate (L.length + r + 16) (0 : Int)) 0 (L.take i)).length = L.length + r + 16 := by rw [bM] <;> simp; omega
  exact Dj (by rw [h1]; simp; omega)
section
variable {w0 w : World} {F : HP} {p : Nat} {L : List Int} {pt mk : Int}
theorem F6 {i r : Nat} (H : aB w0 w (dI p L pt mk • F)) (hi : i ≤ L.length) (hr : r ≤ 1024) :
  fE prog 171 #[.pointer (some ⟨p, 0, none⟩), .int .i64 i, .int .i64 r] w fun _ w' => ∃ v, aB w0 w' (bY p (.cells (dP v i (i + r + 16 : Nat) pt mk) 208 (0, 0)) • gZ 21 .i32 v (fA L i r) • F) := by
 have hL4 : L.length ≤ 1024 := by obtain ⟨a, c, xs, f, t, h1, h2, h3, h4, h5, h6, h7, hc1, hc2, hl, H1⟩ := H.buf; exact h4
 have e1 : ((L.length : Int) + r + 16).toNat = L.length + r + 16 := by omega
 refine gy func171 ntmps171 ?_
 dsimp only [aY, Nat.reduceAdd]
 refine ay (ah (aN rfl (dw rfl func121 (nJ H) ?_)))
 rintro u w1 H1
 obtain ⟨au, cu, hu, hcu, abP, _⟩ := (H1.aO).form
 subst hu
 obtain ⟨a, c, xs, f, t, h1, h2, h3, h4, h5, h6, h7, hc1, hc2, hl, HB⟩ := H1.swap.buf
 refine aV rfl (aA (aj (ay (ah (aN rfl (aN rfl (aU (iZ underlying23 rfl) (aN rfl (aU (dS rfl rfl (by omega)) (aU (dS rfl rfl (by omega)) (gq (Ij HB underlying23 yP rfl rfl (by omega) (by omega) (by omega)) ?_)))))))))))
 rintro v w2 H2
 rw [e1] at H2
 have hm : (List.replicate (L.length + r + 16) (0 : Int)).length = L.length + r + 16 := by simp
 obtain ⟨av, cv, hv, hcv, hcv2, _⟩ := (H2.aO).form
 rw [hm] at hv hcv
 subst hv
 refine bP rfl (bg 1 underlying208 rfl sizeOf23 rfl (aG (fC H2.swap sizeOf23 rfl rfl rfl (by rw [iP]; decide)) ?_))
 rintro _ w3 H3
 rw [NW] at H3
 refine aA (aj (ay (ah (aN rfl (aN rfl (bP rfl (bg 2 underlying208 rfl sizeOf3 rfl (aG (fC H3 sizeOf3 rfl rfl rfl (by rw [iP]; decide)) ?_))))))))
 rintro _ w4 H4
 rw [uX] at H4
 refine aA (aj (ay (ah (aN rfl (aN rfl (bP rfl (bg 1 underlying208 rfl sizeOf23 rfl (dO underlying23 rfl H4.get.2 rfl (aU (iZ underlying23 rfl) (aN rfl (aU (iZ underlying23 rfl) (aN rfl (aU (iW rfl rfl (by omega)) (aU (iW rfl rfl (by omega)) (bP rfl (bg 3 underlying208 rfl sizeOf3 rfl (aG (fC H4 sizeOf3 rfl rfl rfl (by rw [iP]; decide)) ?_)))))))))))))))))
 rintro _ w5 H5
 rw [xR, show (((L.length + r + 16 : Nat) : Int) - ((L.length : Int) - (i : Int))) = ((i + r + 16 : Nat) : Int) from by omega] at H5
 have hb3 := H5.get.2
 refine aA (aj (ay ?_))
 refine nD (n := 8) [0, 1, 2, 3, 4, 5, 6, 7] (fun W => W.heap[p]? = some (.cells (dP (.slice av (L.length + r + 16) cv) i (i + r + 16 : Nat) pt mk) 208 (0, 0))) (by kernel_rfl) (by kernel_rfl) rfl ?_
 have hS0 : (fun W => W.heap[p]? = some (.cells (dP (.slice av (L.length + r + 16) cv) i (i + r + 16 : Nat) pt mk) 208 (0, 0))) (w5.drew) := hb3
 have H4d := H5.drew
 refine gQ 0 rfl hS0 rfl (iQ 1 rfl hS0 rfl (dR 2 rfl hS0 1 underlying208 rfl sizeOf23 rfl (gY 3 rfl hS0 (fun W hW => iH underlying23 rfl hW rfl) (gQ 4 rfl hS0 rfl (gQ 5 rfl hS0 rfl (iJ 6 rfl hS0 (fun _ => oK underlying23 sizeOf21 rfl rfl rfl (by omega)) (jk 7 rfl (wB (i := 0) (m := L.take i) H4d.swap (iV.upto H4d.r4.aO (by omega)) underlying23 (by kernel_rfl) (by rw [hm, Ko]; rfl) rfl (by simp; omega)) ?_)))))))
 rintro _ w6 ⟨rfl, H6⟩
 have hm2 : (dH (List.replicate (L.length + r + 16) (0 : Int)) 0 (L.take i)).length = L.length + r + 16 := by rw [bM] <;> simp; omega
 refine L6 (by kernel_rfl) ?_
 refine nT (aj ?_)
 refine nD (n := 13) [0, 1, 2, 3, 4, 5, 6, 7, 8, 9, 10, 11, 12] (fun W => W.heap[p]? = some (.cells (dP (.slice av (L.length + r + 16) cv) i (i + r + 16 : Nat) pt mk) 208 (0, 0))) (by kernel_rfl) (by kernel_rfl) rfl ?_
 have hS0 : (fun W => W.heap[p]? = some (.cells (dP (.slice av (L.length + r + 16) cv) i (i + r + 16 : Nat) pt mk) 208 (0, 0))) (w6.drew) := H6.swap.get.2
 have YM := H6.drew
 refine gQ 0 rfl hS0 rfl (iQ 1 rfl hS0 rfl (dR 2 rfl hS0 1 underlying208 rfl sizeOf23 rfl (gY 3 rfl hS0 (fun W hW => iH underlying23 rfl hW rfl) (gQ 4 rfl hS0 rfl (iQ 5 rfl hS0 rfl (dR 6 rfl hS0 3 underlying208 rfl sizeOf3 rfl (gY 7 rfl hS0 (fun W hW => iH underlying3 rfl hW rfl) (iJ 8 rfl hS0 (fun _ => oK underlying23 sizeOf21 rfl rfl rfl (by omega)) (gQ 9 rfl hS0 rfl (gQ 10 rfl hS0 rfl (iJ 11 rfl hS0 (fun _ => oK underlying23 sizeOf21 rfl rfl rfl (by omega)) (jk 12 rfl (wB (i := i + r + 16) (m := L.drop i) YM (iV.from YM.r4.aO (by omega)) underlying23 (by kernel_rfl) (by rw [hm2]; rfl) rfl (by rw [hm2]; simp; omega)) ?_))))))))))))
 rintro _ w7 ⟨rfl, H7⟩
 refine L6 (by kernel_rfl) ?_
 refine nT (fU (.inr rfl) results171 ?_)
 exact ⟨_, H7.swap.Hu.right.Hu.right⟩
theorem nK (H : aB w0 w (dI p L pt mk • F)) : fE prog 139 #[.pointer (some ⟨p, 0, none⟩)] w fun v w' => v = .bool false ∧ w = w' := by
  obtain ⟨a, c, xs, f, t, h1, h2, h3, h4, h5, h6, h7, hc1, hc2, hl, H1⟩ := H.buf
  exact nI _ H1.get.2 rfl
def bI (pt i j n : Int) : Int := if j < pt then pt + (n - (j - i)) else if i ≤ pt then i + n else pt
def bJ (mk i j n : Int) : Int := if j < mk then mk + (n - (j - i)) else if i < mk then i else mk
def fK (at_ : Int) (d i : Value) : Array Value := #[.int .i64 at_, d, i]
theorem jO {at_ : Int} {d i : Value} (hd : d.oneCell' = true) (hi : i.oneCell' = true) : ∀ v ∈ (fK at_ d i).toList, v.oneCell' = true := by
  intro v hv
  simp [fK] at hv
  rcases hv with rfl | rfl | rfl <;> first | rfl | assumption
variable {v : Value} {l : List Int} {i j : Int}
theorem Bv (H : aB w0 w (dI p L pt mk • F)) (hr : iT w0 F .i32 v l) (hb : i < 0 ∨ L.length < i ∨ j < i ∨ L.length < j) :
  fE prog 136 #[.pointer (some ⟨p, 0, none⟩), .int .i64 i, .int .i64 j, v] w fun v' w' => v' = .tuple #[.agg (fK 0 (.slice none 0 0) (.slice none 0 0)), .int .i64 70] ∧ aB w0 w' (dI p L pt mk • F) := by
 obtain ⟨a, c, rfl, _, _, _⟩ := (hr w H.right).open
 refine gy func136 ntmps136 ?_
 dsimp only [aY, Nat.reduceAdd]
 refine ay (ah (gq (uU H zeroValue202) ?_))
 rintro _ w1 ⟨b1, rfl, H1⟩
 refine aV rfl (aA (aj (ay (ah (aN rfl (dw rfl func140 (rU H1.right) ?_))))))
 rintro _ w2 ⟨rfl, hD⟩
 have HL := H1.Aj hD
 refine aV rfl (aA (aj (ay (bf (ay (ah (aN rfl (dw rfl func139 (nK HL.right) ?_))))))))
 rintro _ _ ⟨rfl, rfl⟩
 refine aV rfl (aA (aj (aP rfl (fun h1 => ?_) (fun h1 => ?_))))
 ·(try simp only [aI] at h1)
  try (exfalso; first | contradiction | omega)
  all_goals
   refine ay (ah (aU (fD (pl := #[(0, 1), (1, 1), (2, 1)]) (_) underlying202 zeroValue202 (fun w => by kernel_rfl) rfl (rfl)) (aG (fC HL sizeOf202 rfl rfl rfl (by decide)) ?_)))
   rintro _ w4 H4
   refine aV rfl (aA (aj (aJ (aX (aK ?_)))))
   refine fG (.inl rfl) results136 rfl rfl underlying202 rfl (by rw [show (prog.info? 202).map (·.size) = some 3 from by kernel_rfl]; rfl) H4.get.2 ?_
   exact ⟨rfl, H4.right⟩
 ·(try simp only [aI] at h1)
  try (exfalso; first | contradiction | omega)
  all_goals
   refine ay (ah (aN rfl (aU (eu rfl rfl) (jy rfl (fun h2 => ?_) (fun h2 => ?_)))))
   ·(try simp only [aI] at h2)
    try (exfalso; first | contradiction | omega)
    all_goals
     refine bF (bF (bF (jw rfl rfl (aN rfl (bF (bF (bF (jw rfl rfl (aN rfl (bF (bF (bF (jw rfl rfl (aV rfl (aA (aj (xg (ay (ah (aU (fD (pl := #[(0, 1), (1, 1), (2, 1)]) (fK 0 (.slice none 0 0) (.slice none 0 0)) underlying202 zeroValue202 (fun w => by kernel_rfl) rfl (by kernel_rfl)) (aG (dD (cs := fK 0 (.slice none 0 0) (.slice none 0 0)) HL sizeOf202 rfl rfl rfl rfl (jO rfl rfl)) ?_)))))))))))))))))))))
     rintro _ w5 H5
     refine aV rfl (aA (aj (aJ (aX (aK ?_)))))
     refine fG (.inl rfl) results136 rfl rfl underlying202 rfl (by rw [show (prog.info? 202).map (·.size) = some 3 from by kernel_rfl]; rfl) H5.get.2 ?_
     exact ⟨rfl, H5.right⟩
   ·(try simp only [aI] at h2)
    try (exfalso; first | contradiction | omega)
    all_goals
     refine bC (aN rfl (bC (aN rfl (bC (aU (fZ rfl rfl) (iU rfl rfl (jy rfl (fun h3 => ?_) (fun h3 => ?_))))))))
     ·(try simp only [aI] at h3)
      try (exfalso; first | contradiction | omega)
      all_goals
       refine bF (bF (bF (jw rfl rfl (aN rfl (bF (bF (bF (jw rfl rfl (aV rfl (aA (aj (xg (ay (ah (aU (fD (pl := #[(0, 1), (1, 1), (2, 1)]) (fK 0 (.slice none 0 0) (.slice none 0 0)) underlying202 zeroValue202 (fun w => by kernel_rfl) rfl (by kernel_rfl)) (aG (dD (cs := fK 0 (.slice none 0 0) (.slice none 0 0)) HL sizeOf202 rfl rfl rfl rfl (jO rfl rfl)) ?_))))))))))))))))
       rintro _ w6 H6
       refine aV rfl (aA (aj (aJ (aX (aK ?_)))))
       refine fG (.inl rfl) results136 rfl rfl underlying202 rfl (by rw [show (prog.info? 202).map (·.size) = some 3 from by kernel_rfl]; rfl) H6.get.2 ?_
       exact ⟨rfl, H6.right⟩
     ·(try simp only [aI] at h3)
      try (exfalso; first | contradiction | omega)
      all_goals
       refine bC (aN rfl (bC (aN rfl (bC (aU (eu rfl rfl) (iU rfl rfl (jy rfl (fun h4 => ?_) (fun h4 => ?_))))))))
       ·(try simp only [aI] at h4)
        try (exfalso; first | contradiction | omega)
        all_goals
         refine bF (bF (bF (jw rfl rfl (aV rfl (aA (aj (xg (ay (ah (aU (fD (pl := #[(0, 1), (1, 1), (2, 1)]) (fK 0 (.slice none 0 0) (.slice none 0 0)) underlying202 zeroValue202 (fun w => by kernel_rfl) rfl (by kernel_rfl)) (aG (dD (cs := fK 0 (.slice none 0 0) (.slice none 0 0)) HL sizeOf202 rfl rfl rfl rfl (jO rfl rfl)) ?_)))))))))))
         rintro _ w7 H7
         refine aV rfl (aA (aj (aJ (aX (aK ?_)))))
         refine fG (.inl rfl) results136 rfl rfl underlying202 rfl (by rw [show (prog.info? 202).map (·.size) = some 3 from by kernel_rfl]; rfl) H7.get.2 ?_
         exact ⟨rfl, H7.right⟩
       ·(try simp only [aI] at h4)
        try (exfalso; first | contradiction | omega)
        all_goals
         refine bC (aN rfl (bC (aN rfl (bC (aU (fZ rfl rfl) (iU rfl rfl (aV rfl (aA (aj (aP rfl (fun h5 => ?_) (fun h => by exfalso; (try simp only [aI] at h); first | contradiction | omega | (simp at h <;> omega))))))))))))
         (try simp only [aI] at h5)
         refine ay (ah (aU (fD (pl := #[(0, 1), (1, 1), (2, 1)]) (fK 0 (.slice none 0 0) (.slice none 0 0)) underlying202 zeroValue202 (fun w => by kernel_rfl) rfl (by kernel_rfl)) (aG (dD (cs := fK 0 (.slice none 0 0) (.slice none 0 0)) HL sizeOf202 rfl rfl rfl rfl (jO rfl rfl)) ?_)))
         rintro _ w8 H8
         refine aV rfl (aA (aj (aJ (aX (aK ?_)))))
         refine fG (.inl rfl) results136 rfl rfl underlying202 rfl (by rw [show (prog.info? 202).map (·.size) = some 3 from by kernel_rfl]; rfl) H8.get.2 ?_
         exact ⟨rfl, H8.right⟩
theorem zL (H : aB w0 w (dI p L pt mk • F)) (hr : iT w0 F .i32 v l) (hb : 0 ≤ i ∧ i ≤ j ∧ j ≤ L.length) (hl : 1024 < L.length - (j - i) + l.length) :
  fE prog 136 #[.pointer (some ⟨p, 0, none⟩), .int .i64 i, .int .i64 j, v] w fun v' w' => v' = .tuple #[.agg (fK 0 (.slice none 0 0) (.slice none 0 0)), .int .i64 3] ∧ aB w0 w' (dI p L pt mk • F) := by
 obtain ⟨a, c, rfl, _, _, _⟩ := (hr w H.right).open
 have hL4 : L.length ≤ 1024 := by obtain ⟨a, c, xs, f, t, h1, h2, h3, h4, h5, h6, h7, hc1, hc2, hl, H1⟩ := H.buf; exact h4
 refine gy func136 ntmps136 ?_
 dsimp only [aY, Nat.reduceAdd]
 refine ay (ah (gq (uU H zeroValue202) ?_))
 rintro _ w1 ⟨b1, rfl, H1⟩
 refine aV rfl (aA (aj (ay (ah (aN rfl (dw rfl func140 (rU H1.right) ?_))))))
 rintro _ w2 ⟨rfl, hD⟩
 have HL := H1.Aj hD
 refine aV rfl (aA (aj (ay (bf (ay (ah (aN rfl (dw rfl func139 (nK HL.right) ?_))))))))
 rintro _ _ ⟨rfl, rfl⟩
 refine aV rfl (aA (aj (aP rfl (fun h1 => ?_) (fun h1 => ?_))))
 ·(try simp only [aI] at h1)
  try (exfalso; first | contradiction | omega)
  all_goals
   refine ay (ah (aU (fD (pl := #[(0, 1), (1, 1), (2, 1)]) (_) underlying202 zeroValue202 (fun w => by kernel_rfl) rfl (rfl)) (aG (fC HL sizeOf202 rfl rfl rfl (by decide)) ?_)))
   rintro _ w4 H4
   refine aV rfl (aA (aj (aJ (aX (aK ?_)))))
   refine fG (.inl rfl) results136 rfl rfl underlying202 rfl (by rw [show (prog.info? 202).map (·.size) = some 3 from by kernel_rfl]; rfl) H4.get.2 ?_
   exact ⟨rfl, H4.right⟩
 ·(try simp only [aI] at h1)
  try (exfalso; first | contradiction | omega)
  all_goals
   refine ay (ah (aN rfl (aU (eu rfl rfl) (jy rfl (fun h2 => ?_) (fun h2 => ?_)))))
   ·(try simp only [aI] at h2)
    try (exfalso; first | contradiction | omega)
    all_goals
     refine bF (bF (bF (jw rfl rfl (aN rfl (bF (bF (bF (jw rfl rfl (aN rfl (bF (bF (bF (jw rfl rfl (aV rfl (aA (aj (xg (ay (ah (aU (fD (pl := #[(0, 1), (1, 1), (2, 1)]) (_) underlying202 zeroValue202 (fun w => by kernel_rfl) rfl (rfl)) (aG (fC HL sizeOf202 rfl rfl rfl (by decide)) ?_)))))))))))))))))))))
     rintro _ w5 H5
     refine aV rfl (aA (aj (aJ (aX (aK ?_)))))
     refine fG (.inl rfl) results136 rfl rfl underlying202 rfl (by rw [show (prog.info? 202).map (·.size) = some 3 from by kernel_rfl]; rfl) H5.get.2 ?_
     exact ⟨rfl, H5.right⟩
   ·(try simp only [aI] at h2)
    try (exfalso; first | contradiction | omega)
    all_goals
     refine bC (aN rfl (bC (aN rfl (bC (aU (fZ rfl rfl) (iU rfl rfl (jy rfl (fun h3 => ?_) (fun h3 => ?_))))))))
     ·(try simp only [aI] at h3)
      try (exfalso; first | contradiction | omega)
      all_goals
       refine bF (bF (bF (jw rfl rfl (aN rfl (bF (bF (bF (jw rfl rfl (aV rfl (aA (aj (xg (ay (ah (aU (fD (pl := #[(0, 1), (1, 1), (2, 1)]) (_) underlying202 zeroValue202 (fun w => by kernel_rfl) rfl (rfl)) (aG (fC HL sizeOf202 rfl rfl rfl (by decide)) ?_))))))))))))))))
       rintro _ w6 H6
       refine aV rfl (aA (aj (aJ (aX (aK ?_)))))
       refine fG (.inl rfl) results136 rfl rfl underlying202 rfl (by rw [show (prog.info? 202).map (·.size) = some 3 from by kernel_rfl]; rfl) H6.get.2 ?_
       exact ⟨rfl, H6.right⟩
     ·(try simp only [aI] at h3)
      try (exfalso; first | contradiction | omega)
      all_goals
       refine bC (aN rfl (bC (aN rfl (bC (aU (eu rfl rfl) (iU rfl rfl (jy rfl (fun h4 => ?_) (fun h4 => ?_))))))))
       ·(try simp only [aI] at h4)
        try (exfalso; first | contradiction | omega)
        all_goals
         refine bF (bF (bF (jw rfl rfl (aV rfl (aA (aj (xg (ay (ah (aU (fD (pl := #[(0, 1), (1, 1), (2, 1)]) (_) underlying202 zeroValue202 (fun w => by kernel_rfl) rfl (rfl)) (aG (fC HL sizeOf202 rfl rfl rfl (by decide)) ?_)))))))))))
         rintro _ w7 H7
         refine aV rfl (aA (aj (aJ (aX (aK ?_)))))
         refine fG (.inl rfl) results136 rfl rfl underlying202 rfl (by rw [show (prog.info? 202).map (·.size) = some 3 from by kernel_rfl]; rfl) H7.get.2 ?_
         exact ⟨rfl, H7.right⟩
       ·(try simp only [aI] at h4)
        try (exfalso; first | contradiction | omega)
        all_goals
         refine bC (aN rfl (bC (aN rfl (bC (aU (fZ rfl rfl) (iU rfl rfl (aV rfl (aA (aj (aP rfl (fun h => by exfalso; (try simp only [aI] at h); first | contradiction | omega | (simp at h <;> omega)) (fun h5 => ?_)))))))))))
         (try simp only [aI] at h5)
         refine ay (ah (aN rfl (aU (iZ underlying23 rfl) (aN rfl (aN rfl (aN rfl (aU (iW rfl rfl (by omega)) (aU (iW rfl rfl (by omega)) (aU (iW rfl rfl (by omega)) (aU (fZ rfl rfl) (aV rfl (aA (aj (aP rfl (fun h6 => ?_) (fun h => by exfalso; (try simp only [aI] at h); first | contradiction | omega | (simp at h <;> omega))))))))))))))))
         (try simp only [aI] at h6)
         refine ay (ah (aU (fD (pl := #[(0, 1), (1, 1), (2, 1)]) (fK 0 (.slice none 0 0) (.slice none 0 0)) underlying202 zeroValue202 (fun w => by kernel_rfl) rfl (by kernel_rfl)) (aG (dD (cs := fK 0 (.slice none 0 0) (.slice none 0 0)) HL sizeOf202 rfl rfl rfl rfl (jO rfl rfl)) ?_)))
         rintro _ w8 H8
         refine aV rfl (aA (aj (aJ (aX (aK ?_)))))
         refine fG (.inl rfl) results136 rfl rfl underlying202 rfl (by rw [show (prog.info? 202).map (·.size) = some 3 from by kernel_rfl]; rfl) H8.get.2 ?_
         exact ⟨rfl, H8.right⟩
end
end Go.Proofs.YtddekefihgejoaaGreatDoor
end
