import Derived.Test.YtgndbccogcofjaaGreatDoorZ2
import Derived.Test.YtgndbccogcofjaaGreatDoorZ3
import Derived.Test.YtgndbccogcofjaaGreatDoorZ7
import Derived.Test.YtgndbccogcofjaaGreatDoorZ9
import Derived.Test.YtgndbccogcofjaaGreatDoorZ4
set_option linter.unusedSimpArgs false
set_option linter.unusedVariables false
/- Texts of mine, joined, their names in short: Undo1 Undo2 LitS Eds UList Range. -/
section
namespace Go.Proofs.YtgndbccogcofjaaGreatDoor
open Go.RowKit
open _root_.Go.Proofs.Tryz
theorem iE (w : World) (v1 v2 : Value) (l1 l2 : List Int) (h1 : kD w .i32 v1 l1) (h2 : kD w .i32 v2 l2) :
  fO prog 22 #[v1, v2] w fun v w' => v = .bool (l1 == l2) ∧ qF w w' := by
 obtain ⟨a1, c1, rfl, hc1, hm1, hr1⟩ := h1.open
 obtain ⟨a2, c2, rfl, hc2, hm2, hr2⟩ := h2.open
 clear h1 h2
 refine gB func22 ntmps22 ?_
 dsimp only [bf, Nat.reduceAdd]
 refine ay (ah (aV rfl (aA (aj (ay (ay (ah (aN rfl (aX (fJ underlying22 rfl) (aN rfl (aX (fJ underlying22 rfl) (aX (dU rfl rfl) (aA (aj (aO rfl (fun h1 => ?_) (fun h1 => ?_))))))))))))))))
 ·(try simp only [aH] at h1)
  try (exfalso; first | contradiction | omega)
  all_goals
   refine ay (ah (aV rfl (aA (aj (aJ (aK (aI (.inl rfl) results22 rfl ?_)))))))
   exact ⟨by rw [show (l1 == l2) = false from beq_eq_false_iff_ne.2 (by rintro rfl; exact h1 rfl)], qF.refl _⟩
 ·(try simp only [aH] at h1)
  try (exfalso; first | contradiction | omega)
  all_goals
   refine aP (aj (ay (ay (ah (aV rfl (aA (aj (bC ?_))))))))
   refine iw [(0, _), (1, _)] (fun (k : Nat) => [(5, .int .i64 (k : Int))]) (fun (k : Nat) W => k ≤ l1.length ∧ l1.length = l2.length ∧ l1.take k = l2.take k ∧ qF w W) (fun (k : Nat) => l1.length - k) (0) (Sub.cons rfl (Sub.cons rfl (Sub.nil _))) (Sub.cons rfl (Sub.nil _)) ⟨by omega, by omega, by simp, qF.refl _⟩ ?_
   rintro k w1 ⟨hk, hl, ht, hD⟩
   dsimp only [List.cons_append, List.nil_append]
   refine ay (ay (ah (aN rfl (aN rfl (aX (fJ underlying22 rfl) (aX (eu rfl rfl) (aA (aj (aO rfl (fun h2 => ?_) (fun h2 => ?_))))))))))
   ·(try simp only [aH] at h2)
    try (exfalso; first | contradiction | omega)
    all_goals
     refine aP (aj (ay (bC (ay ?_))))
     obtain ⟨b1, o1, rfl, hq1⟩ := hr1 (by omega)
     obtain ⟨b2, o2, rfl, hq2⟩ := hr2 (by omega)
     have hc1 := hq1 k (by omega)
     have hc2 := hq2 k (by omega)
     refine jT (n := 9) [0, 1, 2, 3, 4, 5, 6, 7, 8] (fun W => W.heap = w1.heap) (by kernel_rfl) (by kernel_rfl) rfl ?_
     have hS0 : (fun W => W.heap = w1.heap) (w1.drew) := rfl
     refine iF 0 rfl hS0 rfl (iF 1 rfl hS0 rfl (jg 2 rfl hS0 (fun _ => iV underlying22 sizeOf21 rfl rfl (by omega)) ?_))
     refine jk 3 rfl hS0 (fun W hW => nU (dK underlying21 rfl) rfl (by rw [y7 (hW.trans hD.heap)]; simpa using hc1)) ?_
     refine iF 4 rfl hS0 rfl (iF 5 rfl hS0 rfl (jg 6 rfl hS0 (fun _ => iV underlying22 sizeOf21 rfl rfl (by omega)) ?_))
     refine jk 7 rfl hS0 (fun W hW => nU (dK underlying21 rfl) rfl (by rw [y7 (hW.trans hD.heap)]; simpa using hc2)) ?_
     refine jg 8 rfl hS0 (fun _ => dU rfl rfl) (pO (aj (aO rfl (fun h3 => ?_) (fun h3 => ?_))))
     ·(try simp only [aH] at h3)
      try (exfalso; first | contradiction | omega)
      all_goals
       refine ay (ah (aV rfl (aA (aj (aJ (aW (aK (aK (aW (aK (aI (.inl rfl) results22 rfl ?_)))))))))))
       exact ⟨by rw [show (l1 == l2) = false from beq_eq_false_iff_ne.2 (by rintro rfl; exact h3 rfl)], hD.drew⟩
     ·(try simp only [aH] at h3)
      try (exfalso; first | contradiction | omega)
      all_goals
       refine aP (aQ (aj (ah (aN rfl (aX (gy rfl rfl (by omega)) (aV rfl (aA ?_)))))))
       refine fE (k + 1) ?_ ?_ ?_ ?_
       ·exact (Sub.cons rfl (Sub.nil _))
       ·exact (Sub.cons rfl (Sub.cons rfl (Sub.nil _)))
       ·(try dsimp only)
        first | done | exact ⟨by omega, by omega, FV (by omega) (by omega) ht (by simpa using h3), hD.drew⟩
       ·(try dsimp only); omega
   ·(try simp only [aH] at h2)
    try (exfalso; first | contradiction | omega)
    all_goals
     refine eX (aY (aY (bU (aj (ay (ah (aV rfl (aA (aj (aJ (aI (.inl rfl) results22 rfl ?_)))))))))))
     exact ⟨by rw [show (l1 == l2) = true from beq_iff_eq.2 (by rw [List.take_of_length_le (by omega), List.take_of_length_le (by omega)] at ht; exact ht)], hD⟩
section
variable {w0 w : World} {F : HP} {v d s z d2 z2 u1 u2 u3 : Value} {L dl il UQ VI l1 l2 l3 : List Int} {a a2 : Int}
def X5 (L : List Int) (a : Int) (dl : List Int) : Bool := decide (0 ≤ a ∧ a + dl.length ≤ L.length) && ((L.drop a.toNat).take dl.length == dl)
def uE (L : List Int) (a : Int) (dl il : List Int) : Int := if X5 L a dl then (if 1024 < (L.length : Int) - dl.length + il.length then 3 else 0) else 1
def uL (L : List Int) (a : Int) (dl il : List Int) : List Int := if uE L a dl il = 0 then L.take a.toNat ++ il ++ L.drop (a.toNat + dl.length) else []
abbrev VJ (a : Int) (d z : Value) : Value := .agg #[.int .i64 a, d, z]
theorem pK (H : aB w0 w F) (hd : gW w0 F .i32 d dl) (hi : gW w0 F .i32 z il) (b2 : dl.length ≤ 35184372087808) (b3 : il.length ≤ 35184372087808) :
  fO prog 220 #[VJ a d z] w fun v' w' => ∃ d' s', v' = VJ a d' s' ∧ aB w0 w' (iU 21 .i32 d' dl • iU 21 .i32 s' il • F) := by
 refine gB func220 ntmps220 ?_
 dsimp only [bf, Nat.reduceAdd]
 refine ay (ah (jh (iL (l := [_, _, _]) H rfl rfl) ?_))
 rintro _ w1 ⟨b1, rfl, H1⟩
 refine jh (gJ (l := [_, _, _]) H1 zeroValue101 rfl) ?_
 rintro _ w2 ⟨b2, rfl, H2⟩
 refine aA (aj (ay ?_))
 have Oz := H2.drew
 have sJ := aB.kp (Oz.f2.f2)
 refine yZ [1, 3, 6] sJ rfl (gV 0 rfl sJ 0 underlying101 rfl sizeOf3 rfl (jk 1 rfl sJ (fun W hW => jP underlying3 rfl ((Kp.h hW).f2).get.2 rfl) (gV 2 rfl sJ 1 underlying101 rfl sizeOf22 rfl (jk 3 rfl sJ (fun W hW => jP underlying22 rfl ((Kp.h hW).f2).get.2 rfl) (gV 5 rfl sJ 2 underlying101 rfl sizeOf22 rfl (jk 6 rfl sJ (fun W hW => jP underlying22 rfl ((Kp.h hW).f2).get.2 rfl) (kE 4 rfl (wW rfl func178 (lS Oz (fun W HW => hd _ (HW.right.right)) (by omega))) ?_)))))))
 rintro u3 w3 H3
 have Ef := aB.kp (H3.f3.f3.f3)
 refine dQ Ef (fun W hW => (Kp.h hW).right.f2.f2) ?_
 refine kE 7 rfl (wW rfl func178 (lS H3 (fun W HW => hi _ (HW.right.right.right)) (by omega))) ?_
 rintro u4 w4 H4
 have wR := aB.kp (H4.f4.f4.f4.f4)
 refine dQ wR (fun W hW => (Kp.h hW).right.f3.f3.f3) ?_
 obtain ⟨au3, cu3, X6, -⟩ := kD.open ((H4.f2).aT)
 subst X6
 obtain ⟨au4, cu4, eu4, -⟩ := kD.open ((H4).aT)
 subst eu4
 refine jg 8 rfl wR (fun _ => eF (pl := #[(0, 1), (1, 1), (2, 1)]) (#[_, _, _]) underlying101 zeroValue101 (fun w => by kernel_rfl) rfl (rfl)) ?_
 refine fU 9 rfl (by kernel_rfl) (cZ 0 (l' := [_, _, _]) (us := [_, _, _]) H4.f3 sizeOf101 rfl rfl rfl (aC (by first | rfl | assumption) (aC (by first | rfl | exact Rd.one ((H4.f2).aT)) (aC (by first | rfl | exact Rd.one ((H4).aT)) bV))) rfl rfl) ?_
 rintro _ w7 H7
 have zy := aB.kp (H7.f4.f4.f4.f4)
 refine fQ zy (by kernel_rfl) ?_
 refine pO (aj (aJ ?_))
 refine tK (.inl rfl) (Ob results220 rfl underlying101 rfl (by rw [show (prog.info? 101).map (·.size) = some 3 from by kernel_rfl]; rfl) (H7).get.2) ?_
 exact ⟨_, _, rfl, H7.right.f3.right.f2⟩
theorem zA (H : aB w0 w F) (hd : gW w0 F .i32 d dl) (hi : gW w0 F .i32 z il) (b2 : dl.length ≤ 35184372087808) (b3 : il.length ≤ 35184372087808) :
  fO prog 241 #[VJ a d z] w fun v' w' => ∃ d' s', v' = VJ a d' s' ∧ aB w0 w' (iU 21 .i32 d' il • iU 21 .i32 s' dl • F) := by
 refine gB func241 ntmps241 ?_
 dsimp only [bf, Nat.reduceAdd]
 refine ay (ah (jh (iL (l := [_, _, _]) H rfl rfl) ?_))
 rintro _ w1 ⟨b1, rfl, H1⟩
 refine jh (gJ (l := [_, _, _]) H1 zeroValue101 rfl) ?_
 rintro _ w2 ⟨b2, rfl, H2⟩
 refine aA (aj (ay (ah (bF 0 underlying101 rfl sizeOf3 rfl (dV underlying3 rfl (H2.f2).get.2 rfl (bF 2 underlying101 rfl sizeOf22 rfl (dV underlying22 rfl (H2.f2).get.2 rfl (bF 1 underlying101 rfl sizeOf22 rfl (dV underlying22 rfl (H2.f2).get.2 rfl ?_)))))))))
 obtain ⟨az, cz, ez, -⟩ := kD.open (hi _ (H2.right.right))
 subst ez
 obtain ⟨ad, cd, ed, -⟩ := kD.open (hd _ (H2.right.right))
 subst ed
 refine aX (eF (pl := #[(0, 1), (1, 1), (2, 1)]) (#[_, _, _]) underlying101 zeroValue101 (fun w => by kernel_rfl) rfl (rfl)) (bZ rfl func220 (pK H2 (fun W HW => hi _ (HW.right.right)) (fun W HW => hd _ (HW.right.right)) (by omega) (by omega)) ?_)
 rintro _ w5 ⟨d5, s5, rfl, H5⟩
 refine aG (cZ 0 (l' := [_, _, _]) (us := [_, _, _]) H5.f3 sizeOf101 rfl rfl rfl (aC (by first | rfl | assumption) (aC (by first | rfl | exact Rd.one ((H5).aT)) (aC (by first | rfl | exact Rd.one ((H5.f2).aT)) bV))) rfl rfl) ?_
 rintro _ w6 H6
 refine aA (aj (aJ ?_))
 refine tK (.inl rfl) (Ob results241 rfl underlying101 rfl (by rw [show (prog.info? 101).map (·.size) = some 3 from by kernel_rfl]; rfl) (H6).get.2) ?_
 exact ⟨_, _, rfl, H6.right.f3.right.f2.f2⟩
end
end Go.Proofs.YtgndbccogcofjaaGreatDoor
end
section
namespace Go.Proofs.YtgndbccogcofjaaGreatDoor
open Go.RowKit
section
variable {w0 w : World} {F : HP} {v d s z d2 z2 u1 u2 u3 : Value} {L dl il UQ VI l1 l2 l3 : List Int} {a a2 : Int}
def jK (a a2 : Int) (dl il UQ VI : List Int) : Nat := if UQ.length = 0 ∧ a2 = a + il.length then 1 else if il.length = 0 ∧ VI.length = 0 ∧ a = a2 + UQ.length then 2 else 0
def jA (k : Nat) (a a2 : Int) : Int := if k = 1 then a else if k = 2 then a2 else 0
def jD (k : Nat) (dl UQ : List Int) : List Int := if k = 1 then dl else if k = 2 then UQ ++ dl else []
def jI (k : Nat) (il VI : List Int) : List Int := if k = 1 then il ++ VI else []
end
end Go.Proofs.YtgndbccogcofjaaGreatDoor
end
section
namespace Go.Proofs.YtgndbccogcofjaaGreatDoor
open Go.RowKit
section
variable {P : Program} {L : List (Nat × Value)} {w0 w : World} {F : HP} {ty : TypeId}
theorem JF (l : List Value) : ∀ (i : Nat) (cells : Array Value), cells.size = i + l.length → (l.zipIdx i).foldl (fun cs (x : Value × Nat) => cs.setIfInBounds (0 + x.2) x.1) cells = (cells.toList.take i ++ l).toArray := by
  induction l with
  | nil => intro i cells hs; simp [List.take_of_length_le (show cells.toList.length ≤ i by simp; simp at hs; omega)]
  | cons v r ih =>
    intro i cells hs
    rw [List.zipIdx_cons, List.foldl_cons]
    rw [ih (i + 1) _ (by simp at hs ⊢; omega)]
    congr 1
    have hi : i < cells.toList.length := by simp at hs ⊢; omega
    rw [Array.toList_setIfInBounds, Nat.zero_add, List.take_succ_eq_append_getElem (by simpa using hi), List.take_set_of_le (Nat.le_refl _)]
    simp
theorem pU {t e sz : Nat} {x : Operand} {cs : Array Value} {z : Value} (H : aB w0 w F) (ht : P.underlying t = some (.slice e)) (hs : ∀ w, (sizeOf e).run P w = .ok sz w) (hz : ∀ w, (zeroValue e).run P w = .ok z w) (hz1 : z.cells.size = sz)
    (hx : ev L x = some (.agg cs)) (hn : cs.size = sz) (h0 : 0 < sz) (N7 : sz ≤ 16777216) :
    pX P L (.buildSlice t 1 #[(0, x)]) ty w fun v w' => aB w0 w' (Row e sz v 1 cs.toList • F) := by
  refine nM (v := .slice (some ⟨w.heap.size, 0, none⟩) 1 1) (w' := w.alloc (.cells cs e)) ?_ ?_
  · intro ρ hρ d pos lu g
    simp only [execOp, Instr.buildSlice, Sem.run_bind, run_underlying ht, Result.andThen_ok, hs]
    rw [if_neg (by omega), if_neg (by omega)]
    have hf : ∀ q : Array Value, q.size = sz → Instr.fill (fun i => some (i * sz, sz)) q [(0, .agg cs)] = some cs := fun q hq => by
      simp only [Instr.fill, Value.cells, hn]
      rw [if_neg (by simp [hq])]
      have := JF cs.toList 0 q (by simp [hn, hq])
      simp only [Nat.zero_mul]
      rw [← Array.foldl_toList, Array.toList_zipIdx]
      simpa using this
    have hf1 := hf ((Array.range sz).map (z.cells[· % z.cells.size]!)) (by simp)
    simp [hz, hρ _ _ hx, hf1, newRow]
  · refine (H.alloc _).tY (by simp [hn]) rfl (Nat.le_refl _) (by omega) (by simp [hn]) fun j hj => ?_
    rw [Nat.zero_add, List.getD_eq_getElem?_getD]
    have : j < cs.size := by omega
    simp [this]
theorem OA (l : List Value) : ∀ (o i : Nat) (cells : Array Value), o + i + l.length ≤ cells.size → (l.zipIdx i).foldl (fun cs (x : Value × Nat) => cs.setIfInBounds (o + x.2) x.1) cells = (cells.toList.take (o + i) ++ l ++ cells.toList.drop (o + i + l.length)).toArray := by
  induction l with
  | nil => intro o i cells hs; simp
  | cons v r ih =>
    intro o i cells hs
    rw [List.zipIdx_cons, List.foldl_cons]
    rw [ih o (i + 1) _ (by simp at hs ⊢; omega)]
    congr 1
    simp only [List.length_cons] at hs ⊢
    have hi : o + i < cells.toList.length := by rw [Array.length_toList]; omega
    rw [Array.toList_setIfInBounds, show o + (i + 1) = o + i + 1 from by omega, List.take_succ_eq_append_getElem (by simpa using hi), List.take_set_of_le (Nat.le_refl _), List.drop_set_of_lt (by omega)]
    simp
    omega
end
section
variable {w0 w : World} {F : HP}
end
end Go.Proofs.YtgndbccogcofjaaGreatDoor
end
section
namespace Go.Proofs.YtgndbccogcofjaaGreatDoor
open Go.RowKit
structure cO where
  a : Int
  d : Value
  dl : List Int
  i : Value
  il : List Int
instance : Inhabited cO := ⟨⟨0, .slice none 0 0, [], .slice none 0 0, []⟩⟩
def cO.enc (e : cO) : List Value := [.int .i64 e.a, e.d, e.i]
theorem cO.yG (e : cO) : e.enc.length = 3 := rfl
def cO.UR (I : Hp) (e : cO) : Prop := wO I .i32 e.d e.dl ∧ wO I .i32 e.i e.il
theorem cO.UR.mono {I I' : Hp} {e : cO} (hl : Hp.le I I') (h : e.UR I) : e.UR I' := ⟨h.1.mono hl, h.2.mono hl⟩
def cO.says (e : cO) : Int × List Int × List Int := (e.a, e.dl, e.il)
def AL (I : Hp) (es : List cO) : Prop := ∀ k, k < es.length → (es.getD k default).UR I
theorem AL.mono {I I' : Hp} {es : List cO} (hl : Hp.le I I') (h : AL I es) : AL I' es := fun k hk => (h k hk).mono hl
theorem AL.app {I : Hp} {es fs : List cO} (h : AL I es) (g : AL I fs) : AL I (es ++ fs) := fun k hk => by
  by_cases hl : k < es.length
  · rw [oI hl]; exact h k hl
  · rw [mM (by omega)]; exact g _ (by simp at hk; omega)
theorem AL.one {I : Hp} {e : cO} (h : e.UR I) : AL I [e] := fun k hk => by
  obtain rfl : k = 0 := by simp at hk; omega
  exact h
def je (es : List cO) : HP := know (fun I => AL I es) fun _ _ hl h => h.mono hl
def edK (e : cO) : HP := know (fun I => e.UR I) fun _ _ hl h => h.mono hl
def Eh (v : Value) (es : List cO) : HP := Row 101 3 v es.length (es.flatMap cO.enc) • je es
def Ik (I : Hp) (sz : Nat) (v : Value) (n : Nat) (xs : List Value) : Prop := xs.length = n * sz ∧ ∃ a c, v = .slice a n c ∧ n ≤ c ∧ (c : Int) ≤ 9223372036854775807 ∧
  (0 < n → ∃ b o cs e fr, a = some ⟨b, o, none⟩ ∧ I b = some (.cells cs e fr) ∧ ∀ j, j < n * sz → cs[o + j]? = some (xs.getD j undef))
theorem Ik.mono {I I' : Hp} {sz n : Nat} {v : Value} {xs : List Value} (hl : Hp.le I I') (h : Ik I sz v n xs) : Ik I' sz v n xs := by
  obtain ⟨h0, a, c, h1, h2, h3, h4⟩ := h
  exact ⟨h0, a, c, h1, h2, h3, fun hp => let ⟨b, o, cs, e, fr, e1, e2, e3⟩ := h4 hp; ⟨b, o, cs, e, fr, e1, hl _ _ e2, e3⟩⟩
theorem Ik.rd {w : World} {m : Nat} {I : Hp} {sz n : Nat} {v : Value} {xs : List Value} (h : Ik I sz v n xs) (hI : ∀ k o, I k = some o → m ≤ k ∧ w.heap[k]? = some o) : Rd w sz v n xs := by
  obtain ⟨h0, a, c, h1, h2, h3, h4⟩ := h
  exact ⟨h0, a, c, h1, h2, h3, fun hp => let ⟨b, o, cs, e, fr, e1, e2, e3⟩ := h4 hp; ⟨b, o, e1, fun j hj => fV (hI _ _ e2).2 (e3 j hj)⟩⟩
theorem Ik.Ox {I : Hp} {sz n : Nat} {v : Value} {xs : List Value} (h : Ik I sz v n xs) : v.oneCell' = true := by obtain ⟨_, a, c, rfl, _⟩ := h; rfl
def UU (I : Hp) (v : Value) (es : List cO) : Prop := Ik I 3 v es.length (es.flatMap cO.enc) ∧ AL I es
theorem UU.mono {I I' : Hp} {v : Value} {es : List cO} (hl : Hp.le I I') (h : UU I v es) : UU I' v es := ⟨h.1.mono hl, h.2.mono hl⟩
def y5 (v : Value) (es : List cO) : HP := know (fun I => UU I v es) fun _ _ hl h => h.mono hl
def yH (I : Hp) (gs : List (Value × List cO)) : Prop := ∀ k, k < gs.length → UU I (gs.getD k default).1 (gs.getD k default).2
theorem yH.mono {I I' : Hp} {gs : List (Value × List cO)} (hl : Hp.le I I') (h : yH I gs) : yH I' gs := fun k hk => (h k hk).mono hl
theorem yH.app {I : Hp} {es fs : List (Value × List cO)} (h : yH I es) (g : yH I fs) : yH I (es ++ fs) := fun k hk => by
  by_cases hl : k < es.length
  · rw [oI hl]; exact h k hl
  · rw [mM (by omega)]; exact g _ (by simp at hk; omega)
theorem yH.one {I : Hp} {v : Value} {es : List cO} (h : UU I v es) : yH I [(v, es)] := fun k hk => by
  obtain rfl : k = 0 := by simp at hk; omega
  exact h
theorem yH.take {I : Hp} {gs : List (Value × List cO)} (h : yH I gs) (n : Nat) : yH I (gs.take n) := fun k hk => by
  simp at hk
  rw [zx (by omega)]
  exact h k (by omega)
def mO (gs : List (Value × List cO)) : HP := know (fun I => yH I gs) fun _ _ hl h => h.mono hl
def yI (v : Value) (gs : List (Value × List cO)) : HP := Row 35 1 v gs.length (gs.map (·.1)) • mO gs
section
variable {w0 w : World} {F : HP} {v u : Value} {es fs : List cO} {e : cO} {gs : List (Value × List cO)} {a : Int} {d i : Value} {dl il : List Int}
theorem aB.CQ (H : aB w0 w F) : aB w0 w (je [] • F) := H.FH fun I k hk => by simp at hk
theorem aB.Il (H : aB w0 w F) : aB w0 w (mO [] • F) := H.FH fun I k hk => by simp at hk
theorem aB.oJ (H : aB w0 w F) (a : Option Addr) : aB w0 w (Eh (.slice a 0 0) [] • F) := (H.CQ.jo (e := 101) (sz := 3) a).deep
theorem aB.yJ (H : aB w0 w F) (a : Option Addr) : aB w0 w (yI (.slice a 0 0) [] • F) := (H.Il.jo (e := 35) (sz := 1) a).deep
theorem aB.UW (H : aB w0 w (Eh v es • F)) : aB w0 w (Row 101 3 v es.length (es.flatMap cO.enc) • je es • F) := H.flat
theorem aB.TP (H : aB w0 w (yI v gs • F)) : aB w0 w (Row 35 1 v gs.length (gs.map (·.1)) • mO gs • F) := H.flat
theorem aB.sK (H : aB w0 w (Row 101 3 v (es.length + 1) (es.flatMap cO.enc ++ [.int .i64 a, d, i]) • BN .i32 d dl • BN .i32 i il • je es • F)) : aB w0 w (Eh v (es ++ [⟨a, d, dl, i, il⟩]) • F) := by
  have h1 : aB w0 w (BN .i32 d dl • BN .i32 i il • je es • Row 101 3 v (es.length + 1) (es.flatMap cO.enc ++ [.int .i64 a, d, i]) • F) := H.of_eq (by ac_rfl)
  have h2 : aB w0 w (edK ⟨a, d, dl, i, il⟩ • je es • Row 101 3 v (es.length + 1) (es.flatMap cO.enc ++ [.int .i64 a, d, i]) • F) := h1.DX (oK (fun I h g => ⟨h, g⟩) _)
  have h3 : aB w0 w (je (es ++ [⟨a, d, dl, i, il⟩]) • Row 101 3 v (es.length + 1) (es.flatMap cO.enc ++ [.int .i64 a, d, i]) • F) := h2.DX (oK (fun I h g => g.app (AL.one h)) _)
  refine aB.deep (h3.swap.of_eq ?_)
  rw [List.length_append, List.flatMap_append]
  simp [cO.enc]
theorem aB.qj (H : aB w0 w (Eh v es • F)) : aB w0 w (y5 v es • F) := by
  have hl := H.UW.yu
  have H := H.UW
  rcases H.rW with ⟨a, rfl, h1, h2, H1⟩ | ⟨g, o, c, cur, rfl, h2, h3, h4, h5, H1⟩
  · refine H1.DX (rY (fun I hI => ⟨⟨hl, a, 0, by rw [h1], by omega, by decide, fun h => by omega⟩, hI⟩) F)
  · exact H1.freeze.DX (oK (fun I hI hE => ⟨⟨hl, _, c, rfl, h2, h3, fun _ => ⟨g, o, cur, _, (0, 0), rfl, hI, h5⟩⟩, hE⟩) F)
theorem aB.xI (H : aB w0 w (y5 v es • F)) : Rd w 3 v es.length (es.flatMap cO.enc) := let ⟨I, h, hI⟩ := H.tH; h.1.rd hI
theorem aB.VK (H : aB w0 w (y5 v es • F)) {k : Nat} (hk : k < es.length) : kD w .i32 (es.getD k default).d (es.getD k default).dl := let ⟨I, h, hI⟩ := H.tH; (h.2 k hk).1.rd hI
theorem aB.VL (H : aB w0 w (y5 v es • F)) {k : Nat} (hk : k < es.length) : kD w .i32 (es.getD k default).i (es.getD k default).il := let ⟨I, h, hI⟩ := H.tH; (h.2 k hk).2.rd hI
theorem aB.Io (H : aB w0 w (mO gs • F)) {k : Nat} (hk : k < gs.length) : aB w0 w (y5 (gs.getD k default).1 (gs.getD k default).2 • mO gs • F) := H.Bl.DX (rY (fun I h => h k hk) _)
theorem aB.OB (H : aB w0 w (mO gs • F)) (n : Nat) : aB w0 w (mO (gs.take n) • F) := H.DX (rY (fun I h => h.take n) _)
theorem aB.sN (H : aB w0 w (Row 35 1 v (gs.length + 1) (gs.map (·.1) ++ [u]) • y5 u es • mO gs • F)) : aB w0 w (yI v (gs ++ [(u, es)]) • F) := by
  have h1 : aB w0 w (y5 u es • mO gs • Row 35 1 v (gs.length + 1) (gs.map (·.1) ++ [u]) • F) := H.of_eq (by ac_rfl)
  have h3 : aB w0 w (mO (gs ++ [(u, es)]) • Row 35 1 v (gs.length + 1) (gs.map (·.1) ++ [u]) • F) := h1.DX (oK (fun I h g => g.app (yH.one h)) _)
  refine aB.deep (h3.swap.of_eq ?_)
  rw [List.length_append, List.map_append]
  rfl
theorem aB.CS (H : aB w0 w (je es • F)) : ∀ x ∈ es.flatMap cO.enc, x.oneCell' = true := by
  obtain ⟨I, h, hI⟩ := H.tH
  intro x hx
  obtain ⟨e, he, hx⟩ := List.mem_flatMap.1 hx
  obtain ⟨k, hk, rfl⟩ := List.getElem_of_mem he
  have := h k hk
  rw [List.getD_eq_getElem?_getD, List.getElem?_eq_getElem hk] at this
  simp [cO.enc] at hx
  rcases hx with rfl | rfl | rfl
  · rfl
  · exact this.1.Ox
  · exact this.2.Ox
end
end Go.Proofs.YtgndbccogcofjaaGreatDoor
end
section
namespace Go.Proofs.YtgndbccogcofjaaGreatDoor
open Go.RowKit
open _root_.Go.Proofs.Tryz
abbrev dX := Int × List Int × List Int
def dS (G : List (List dX)) (N : List dX) : Nat := (G.map List.length).sum + N.length
def EB (e : dX) : Prop := e.2.1.length ≤ 35184372087808 ∧ e.2.2.length ≤ 35184372087808
theorem QS {N : List dX} {x : dX} (h : ∀ e ∈ N, EB e) (hx : EB x) : ∀ e ∈ N ++ [x], EB e := fun e he => by
  rcases List.mem_append.1 he with he | he
  · exact h e he
  · rw [List.mem_singleton.1 he]; exact hx
theorem Ip {G : List (List dX)} {N : List dX} (h : ∀ g ∈ G, ∀ e ∈ g, EB e) (hx : ∀ e ∈ N, EB e) : ∀ g ∈ G ++ [N], ∀ e ∈ g, EB e := fun g hg => by
  rcases List.mem_append.1 hg with hg | hg
  · exact h g hg
  · rw [List.mem_singleton.1 hg]; exact hx
theorem KZ {G : List (List dX)} {N : List dX} (h : ∀ g ∈ G, g ≠ []) (hx : N ≠ []) : ∀ g ∈ G ++ [N], g ≠ [] := fun g hg => by
  rcases List.mem_append.1 hg with hg | hg
  · exact h g hg
  · rw [List.mem_singleton.1 hg]; exact hx
def QT (G : List (List dX)) (N : List dX) (op : Int) : Prop := (∀ g ∈ G, g ≠ []) ∧ dS G N ≤ 16384 ∧ 0 ≤ op ∧ op ≤ 4611686018427387904 ∧ (∀ g ∈ G, ∀ e ∈ g, EB e) ∧ ∀ e ∈ N, EB e
theorem JG {G : List (List dX)} (h : ∀ g ∈ G, g ≠ []) : G.length ≤ (G.map List.length).sum := by
  induction G with
  | nil => simp
  | cons g G ih =>
    have h1 := ih fun x hx => h x (by simp [hx])
    have h2 : 0 < g.length := List.length_pos_iff.2 (h g (by simp))
    simp; omega
theorem QT.len {G : List (List dX)} {N : List dX} {op : Int} (h : QT G N op) : G.length + N.length ≤ 16384 := by
  have := JG h.1
  have := h.2.1
  unfold dS at this
  omega
def dR (p : Nat) (G : List (List dX)) (N : List dX) (op : Int) : HP := rD fun (x : Value × Value × List (Value × List cO) × List cO) =>
  fact (QT G N op ∧ x.2.2.1.map (fun g => g.2.map cO.says) = G ∧ x.2.2.2.map cO.says = N) • dB p (.cells #[x.1, x.2.1, .int .i64 op, .int .i64 (dS G N : Nat), .bool true] 180 (0, 0)) • yI x.1 x.2.2.1 • Eh x.2.1 x.2.2.2
section
variable {w0 w : World} {F : HP} {p : Nat} {G : List (List dX)} {N : List dX} {op : Int} {gv nv : Value} {gs : List (Value × List cO)} {now : List cO} {a : Int} {d z : Value} {dl il : List Int}
theorem aB.sO (H : aB w0 w (dR p G N op • F)) : ∃ gv nv gs now, QT G N op ∧ gs.map (fun g => g.2.map cO.says) = G ∧ now.map cO.says = N ∧ gs.length = G.length ∧ now.length = N.length ∧ G.length + N.length ≤ 16384 ∧
    aB w0 w (dB p (.cells #[gv, nv, .int .i64 op, .int .i64 (dS G N : Nat), .bool true] 180 (0, 0)) • Row 35 1 gv gs.length (gs.map (·.1)) • mO gs • Row 101 3 nv now.length (now.flatMap cO.enc) • je now • F) := by
  obtain ⟨⟨gv, nv, gs, now⟩, H⟩ := H.lK
  obtain ⟨⟨h1, h2, h3⟩, H⟩ := H.flat.fact
  refine ⟨gv, nv, gs, now, h1, h2, h3, ?_, ?_, h1.len, ?_⟩
  · rw [← h2]; simp
  · rw [← h3]; simp
  · have := H.flat
    unfold yI Eh at this
    exact this.of_eq (by ac_rfl)
theorem aB.oP (h1 : QT G N op) (h2 : gs.map (fun g => g.2.map cO.says) = G) (h3 : now.map cO.says = N) {ed : Int} (he : ed = (dS G N : Nat))
    (H : aB w0 w (dB p (.cells #[gv, nv, .int .i64 op, .int .i64 ed, .bool true] 180 (0, 0)) • yI gv gs • Eh nv now • F)) : aB w0 w (dR p G N op • F) := by
  subst he
  exact aB.gY (gv, nv, gs, now) (aB.deep (aB.jF ⟨h1, h2, h3⟩ (H.of_eq (by ac_rfl))))
theorem aB.jw (h1 : QT G N op) (h2 : gs.map (fun g => g.2.map cO.says) = G) (h3 : now.map cO.says = N) {ed : Int} (he : ed = (dS G N : Nat))
    (H : aB w0 w (dB p (.cells #[gv, nv, .int .i64 op, .int .i64 ed, .bool true] 180 (0, 0)) • Row 35 1 gv gs.length (gs.map (·.1)) • mO gs • Row 101 3 nv now.length (now.flatMap cO.enc) • je now • F)) : aB w0 w (dR p G N op • F) :=
  aB.oP h1 h2 h3 he (H.of_eq (by unfold yI Eh; ac_rfl))
theorem iP (H : aB w0 w (dR p G N op • F)) : fO prog 181 #[.pointer (some ⟨p, 0, none⟩)] w fun v w' => v = .bool false ∧ w = w' := by
 refine gB func181 ntmps181 ?_
 dsimp only [bf, Nat.reduceAdd]
 refine ay (ah (aV rfl (aA (aj (ay ?_)))))
 obtain ⟨vO, sQ, jl, iZ, iI, pq, mX, CU, CV, F8, kT⟩ := (H).sO
 refine ah (aN rfl (aX (fA underlying117 rfl rfl) (fK rfl (fun h1 => ?_) (fun h1 => ?_))))
 ·(try simp only [aH] at h1)
  try (exfalso; first | contradiction | omega)
  all_goals
   refine bD (bD (bD (bD (bD (fG rfl rfl (aV rfl (aA (aj (aJ (aI (.inl rfl) results181 rfl ?_))))))))))
   exact ⟨rfl, rfl⟩
 ·(try simp only [aH] at h1)
  try (exfalso; first | contradiction | omega)
  all_goals
   refine aZ (aN rfl (aZ (bP rfl (aZ (bF 4 underlying180 rfl sizeOf4 rfl (aZ (dV underlying4 rfl (kT).get.2 rfl (aZ (aX (kF rfl) (eG rfl rfl (aV rfl (aA (aj (aJ (aI (.inl rfl) results181 rfl ?_)))))))))))))))
   exact ⟨rfl, rfl⟩
theorem F9 (H : aB w0 w F) : fO prog 215 #[] w fun v w' => ∃ p, v = .pointer (some ⟨p, 0, none⟩) ∧ aB w0 w' (dR p [] [] 0 • F) := by
 refine gB func215 ntmps215 ?_
 dsimp only [bf, Nat.reduceAdd]
 refine ay (ah (aV rfl (aA (aj (ay (ah (aX (eF (pl := #[(0, 4), (4, 1)]) (#[_, _, _, _, _]) underlying180 zeroValue180 (fun w => by kernel_rfl) rfl (rfl)) (jh (iL (l := [_, _, _, _, _]) H rfl rfl) ?_))))))))
 rintro _ w1 ⟨b1, rfl, H1⟩
 refine aV rfl (aA (aj (aJ (aI (.inl rfl) results215 rfl ?_))))
 refine ⟨_, rfl, aB.oP (gv := .slice none 0 0) (nv := .slice none 0 0) (gs := []) (now := []) ⟨by simp, by decide, by decide, by decide, by simp, by simp⟩ rfl rfl rfl ?_⟩
 exact (((H1).oJ none).yJ none).of_eq (by ac_rfl)
theorem CW (H : aB w0 w (dR p G N op • F)) : fO prog 194 #[.pointer (some ⟨p, 0, none⟩)] w fun v w' => v = .int .i64 (dS G N : Nat) ∧ aB w0 w' (dR p G N op • F) := by
 refine gB func194 ntmps194 ?_
 dsimp only [bf, Nat.reduceAdd]
 refine ay (ah (aV rfl (aA (aj (ay (ay (ah (aN rfl (bZ rfl func181 (iP H) ?_)))))))))
 rintro _ _ ⟨rfl, rfl⟩
 refine aA (aj (nN (aP (aj (ay ?_)))))
 obtain ⟨vO, sQ, jl, iZ, iI, pq, mX, CU, CV, F8, kT⟩ := (H).sO
 refine ah (aN rfl (bP rfl (bF 0 underlying180 rfl sizeOf178 rfl (bF 3 underlying178 rfl sizeOf3 rfl (dV underlying3 rfl (kT).get.2 rfl (aV rfl (aA (aj (aJ (aI (.inl rfl) results194 rfl ?_))))))))))
 have OC := kT.f5.f5.f5.f5.f5
 have OD := aB.jw iI pq mX rfl OC
 exact ⟨rfl, OD⟩
theorem ql (H : aB w0 w (dR p G N op • F)) (hb : op < 4611686018427387904) : fO prog 163 #[.pointer (some ⟨p, 0, none⟩)] w fun v w' => v = .int .i64 0 ∧ aB w0 w' (dR p G N (op + 1) • F) := by
 have hop : 0 ≤ op := by obtain ⟨gv, nv, gs, now, k1, _⟩ := H.sO; exact k1.2.2.1
 refine gB func163 ntmps163 ?_
 dsimp only [bf, Nat.reduceAdd]
 refine ay (ah (aV rfl (aA (aj (ay (ay (ah (aN rfl (bZ rfl func181 (iP H) ?_)))))))))
 rintro _ _ ⟨rfl, rfl⟩
 refine aA (aj (nN (aP (aj (ay ?_)))))
 obtain ⟨vO, sQ, jl, iZ, iI, pq, mX, CU, CV, F8, kT⟩ := (H).sO
 refine ah (aN rfl (bP rfl (bF 0 underlying180 rfl sizeOf178 rfl (bF 2 underlying178 rfl sizeOf3 rfl (dV underlying3 rfl (kT).get.2 rfl (aX (gy rfl rfl (by omega)) (bP rfl (bF 0 underlying180 rfl sizeOf178 rfl (bF 2 underlying178 rfl sizeOf3 rfl (aG (aS 2 (l' := [_, _, _, _, _]) kT sizeOf3 rfl rfl (by first | rfl | assumption) rfl rfl) ?_))))))))))
 rintro _ w3 H3
 refine aA (aj (ay (ah (aV rfl (aA (aj (aJ (aI (.inl rfl) results163 rfl ?_))))))))
 exact ⟨rfl, aB.jw ⟨iI.1, iI.2.1, by omega, by omega, iI.2.2.2.2⟩ pq mX rfl H3.f5.f5.f5.f5.f5⟩
def pz (G : List (List dX)) (N : List dX) (a : Int) (dl il : List Int) : Int := if dl.length + il.length = 0 ∨ a < 0 then 1 else if 16384 ≤ dS G N then 3 else 0
def JH (G : List (List dX)) (N : List dX) (op a : Int) (dl il : List Int) : List (List dX) := if pz G N a dl il = 0 then (if 0 < op then G else G ++ [[(a, dl, il)]]) else G
def JI (G : List (List dX)) (N : List dX) (op a : Int) (dl il : List Int) : List dX := if pz G N a dl il = 0 then (if 0 < op then N ++ [(a, dl, il)] else N) else N
theorem Gf {x : dX} : dS G (N ++ [x]) = dS G N + 1 := by simp [dS]; omega
theorem Iq {x : dX} : dS (G ++ [[x]]) N = dS G N + 1 := by simp [dS]; omega
theorem CX (h : pz G N a dl il ≠ 0) : JH G N op a dl il = G := by unfold JH; rw [if_neg h]
theorem CY (h : pz G N a dl il ≠ 0) : JI G N op a dl il = N := by unfold JI; rw [if_neg h]
theorem Ba (h : pz G N a dl il = 0) (ho : 0 < op) : JH G N op a dl il = G := by unfold JH; rw [if_pos h, if_pos ho]
theorem Bc (h : pz G N a dl il = 0) (ho : 0 < op) : JI G N op a dl il = N ++ [(a, dl, il)] := by unfold JI; rw [if_pos h, if_pos ho]
theorem OE (h : pz G N a dl il = 0) (ho : ¬ 0 < op) : JH G N op a dl il = G ++ [[(a, dl, il)]] := by unfold JH; rw [if_pos h, if_neg ho]
theorem OG (h : pz G N a dl il = 0) (ho : ¬ 0 < op) : JI G N op a dl il = N := by unfold JI; rw [if_pos h, if_neg ho]
theorem um (H : aB w0 w (dR p G N op • F)) (hd : gW w0 F .i32 d dl) (hi : gW w0 F .i32 z il) (b2 : dl.length ≤ 35184372087808) (b3 : il.length ≤ 35184372087808) :
  fO prog 164 #[.pointer (some ⟨p, 0, none⟩), VJ a d z] w fun v w' => v = .int .i64 (pz G N a dl il) ∧ aB w0 w' (dR p (JH G N op a dl il) (JI G N op a dl il) op • F) := by
 refine gB func164 ntmps164 ?_
 dsimp only [bf, Nat.reduceAdd]
 refine ay (ah (jh (iL (l := [_, _, _]) H rfl rfl) ?_))
 rintro _ w1 ⟨b1, rfl, H1⟩
 refine aV rfl (aA (aj (ay (ay (ah (aN rfl (bZ rfl func181 (iP H1.f2) ?_)))))))
 rintro _ _ ⟨rfl, rfl⟩
 refine aA (aj (nN (aP (aj (ay (ay (ah (bF 1 underlying101 rfl sizeOf22 rfl (dV underlying22 rfl (H1).get.2 rfl (aX (jr (hd _ (H1.right.right)) underlying22 rfl) (bF 2 underlying101 rfl sizeOf22 rfl (dV underlying22 rfl (H1).get.2 rfl (aX (jr (hi _ (H1.right.right)) underlying22 rfl) (aX (gy rfl rfl (by omega)) (aX (dO rfl rfl) (fK rfl (fun h1 => ?_) (fun h1 => ?_)))))))))))))))))
 ·(try simp only [aH] at h1)
  refine bD (bD (bD (fG rfl rfl (aA (aj (uX (ay (ah (aV rfl (aA (aj (aJ (aK (aI (.inl rfl) results164 rfl ?_))))))))))))))
  have e : pz G N a dl il = 1 := by unfold pz; rw [if_pos (by omega)]
  rw [CX (by rw [e]; decide), CY (by rw [e]; decide), e]
  exact ⟨rfl, H1.right⟩
 ·(try simp only [aH] at h1)
  refine aZ (bF 0 underlying101 rfl sizeOf3 rfl (aZ (dV underlying3 rfl (H1).get.2 rfl (aZ (aX (eu rfl rfl) (eG rfl rfl (aA (aj (aO rfl (fun h2 => ?_) (fun h2 => ?_))))))))))
  ·(try simp only [aH] at h2)
   refine ay (ah (aV rfl (aA (aj (aJ (aK (aI (.inl rfl) results164 rfl ?_)))))))
   have e : pz G N a dl il = 1 := by unfold pz; rw [if_pos (by omega)]
   rw [CX (by rw [e]; decide), CY (by rw [e]; decide), e]
   exact ⟨rfl, H1.right⟩
  ·(try simp only [aH] at h2)
   refine aP (aj (ay (ay ?_)))
   obtain ⟨vO, sQ, jl, iZ, iI, pq, mX, CU, CV, F8, kT⟩ := (H1.f2).sO
   refine ah (aN rfl (bP rfl (bF 0 underlying180 rfl sizeOf178 rfl (bF 3 underlying178 rfl sizeOf3 rfl (dV underlying3 rfl (kT).get.2 rfl (aX (jS rfl rfl) (aA (aj (aO rfl (fun h3 => ?_) (fun h3 => ?_))))))))))
   ·(try simp only [aH] at h3)
    refine ay (ah (aV rfl (aA (aj (aJ (aK (aI (.inl rfl) results164 rfl ?_)))))))
    have e : pz G N a dl il = 3 := by unfold pz; rw [if_neg (by omega), if_pos (by omega)]
    have Ho5 := kT.f5.f5.f5.f5.f5
    have Hc6 := aB.jw iI pq mX rfl Ho5
    rw [CX (by rw [e]; decide), CY (by rw [e]; decide), e]
    exact ⟨rfl, Hc6.f2.right⟩
   ·(try simp only [aH] at h3)
    refine aP (aj (ay (ah (aN rfl (bP rfl (bF 0 underlying180 rfl sizeOf178 rfl (bF 3 underlying178 rfl sizeOf3 rfl (dV underlying3 rfl (kT).get.2 rfl (aX (gy rfl rfl (by omega)) (bP rfl (bF 0 underlying180 rfl sizeOf178 rfl (bF 3 underlying178 rfl sizeOf3 rfl (aG (aS 3 (l' := [_, _, _, _, _]) kT sizeOf3 rfl rfl (by first | rfl | assumption) rfl rfl) ?_)))))))))))))
    rintro _ w7 H7
    refine aA (aj (ay (ay (ah (aN rfl (bP rfl (bF 0 underlying180 rfl sizeOf178 rfl (bF 2 underlying178 rfl sizeOf3 rfl (dV underlying3 rfl (H7).get.2 rfl (aX (dn rfl rfl) (aA (aj (aO rfl (fun h4 => ?_) (fun h4 => ?_))))))))))))))
    ·(try simp only [aH] at h4)
     have VN := H7.drew
     have Af := aB.kp (VN.f6.f6.f6.f6.f6.f6)
     refine yZ [5, 6] Af rfl (iF 0 rfl Af rfl (iF 1 rfl Af rfl (jQ 2 rfl Af rfl (gV 3 rfl Af 0 underlying180 rfl sizeOf178 rfl (gV 4 rfl Af 1 underlying178 rfl sizeOf35 rfl (jk 5 rfl Af (fun W hW => jP underlying35 rfl ((Kp.h hW)).get.2 rfl) (jk 6 rfl Af (fun W hW => bW underlying101 rfl sizeOf101 rfl rfl ((Kp.h hW).f6).get.2) (kE 7 rfl (wW rfl func220 (pK VN (fun W HW => hd _ (HW.right.right.right.right.right.right)) (fun W HW => hi _ (HW.right.right.right.right.right.right)) (by omega) (by omega))) ?_))))))))
     rintro _ w8 ⟨d8, s8, rfl, H8⟩
     have MZ := aB.kp (H8.f8.f8.f8.f8.f8.f8.f8.f8)
     refine dQ MZ (fun W hW => (Kp.h hW).right.right.f6.f6.f6.f6.f6.f6) ?_
     refine kE 8 rfl (pU H8 underlying35 sizeOf101 zeroValue101 rfl rfl rfl (by decide) (by decide)) ?_
     rintro l9 w9 H9
     have JJ := aB.kp (H9.f9.f9.f9.f9.f9.f9.f9.f9.f9)
     refine dQ JJ (fun W hW => (Kp.h hW).right.f8.f8.f8.f8.f8.f8.f8.f8) ?_
     refine kE 9 rfl (iC H9.f7 underlying35 (show (prog.info? 101).map (fun i => (i.zero, i.size, i.bytes)) = some (some (.agg #[.int .i64 0, .slice none 0 0, .slice none 0 0]), 3, 56) by kernel_rfl) rfl rfl rfl ((H9).aT) (aC (by first | rfl | assumption) (aC (by first | rfl | exact Rd.one ((H9.f2).aT)) (aC (by first | rfl | exact Rd.one ((H9.f3).aT)) bV))) (by omega) (by omega)) ?_
     rintro l10 w10 nO
     have JK := nO.f2.right
     have EO := aB.kp (JK.f8.f8.f8.f8.f8.f8.f8.f8)
     refine fQ EO (by kernel_rfl) ?_
     refine jQ 10 rfl EO rfl (gV 11 rfl EO 0 underlying180 rfl sizeOf178 rfl (gV 12 rfl EO 1 underlying178 rfl sizeOf35 rfl ?_))
     refine fU 13 rfl (by kernel_rfl) (aS 1 (l' := [_, _, _, _, _]) JK.f4 sizeOf35 rfl rfl (by first | rfl | exact Rd.one ((JK).aT)) rfl rfl) ?_
     rintro _ w12 wP
     have yK := aB.kp (wP.f8.f8.f8.f8.f8.f8.f8.f8)
     refine fQ yK (by kernel_rfl) ?_
     have hadd : 0 < op := by omega
     refine pO (aj (ay (ah (aV rfl (aA (aj (aJ (aI (.inl rfl) results164 rfl ?_))))))))
     have e : pz G N a dl il = 0 := by unfold pz; rw [if_neg (by omega), if_neg (by omega)]
     rw [Ba e hadd, Bc e hadd, e]
     have X := (wP.f8.right.f6.f6.f3.f7.f5.f7.f7).jG.swap.jG.swap
     have X2 := aB.sK X.f3
     refine ⟨rfl, aB.oP (gv := vO) (nv := l10) (gs := jl) (now := iZ ++ [⟨a, d8, dl, s8, il⟩]) (ed := (dS G N : Nat) + 1) ⟨iI.1, by rw [Gf]; omega, iI.2.2.1, iI.2.2.2.1, iI.2.2.2.2.1, QS iI.2.2.2.2.2 ⟨b2, b3⟩⟩ pq (by rw [List.map_append, mX]; rfl) (by rw [Gf]; rfl) (X2.of_eq (by unfold yI; ac_rfl))⟩
    ·(try simp only [aH] at h4)
     have OH := H7.drew
     have qV := aB.kp (OH.f6.f6.f6.f6.f6.f6)
     refine yZ [5, 6] qV rfl (iF 0 rfl qV rfl (iF 1 rfl qV rfl (jQ 2 rfl qV rfl (gV 3 rfl qV 0 underlying180 rfl sizeOf178 rfl (gV 4 rfl qV 0 underlying178 rfl sizeOf176 rfl (jk 5 rfl qV (fun W hW => jP underlying176 rfl ((Kp.h hW)).get.2 rfl) (jk 6 rfl qV (fun W hW => bW underlying101 rfl sizeOf101 rfl rfl ((Kp.h hW).f6).get.2) (kE 7 rfl (wW rfl func220 (pK OH (fun W HW => hd _ (HW.right.right.right.right.right.right)) (fun W HW => hi _ (HW.right.right.right.right.right.right)) (by omega) (by omega))) ?_))))))))
     rintro _ MN ⟨d13, s13, rfl, uO⟩
     have wZ := aB.kp (uO.f8.f8.f8.f8.f8.f8.f8.f8)
     refine dQ wZ (fun W hW => (Kp.h hW).right.right.f6.f6.f6.f6.f6.f6) ?_
     refine kE 8 rfl (pU uO underlying35 sizeOf101 zeroValue101 rfl rfl rfl (by decide) (by decide)) ?_
     rintro l14 Jw xE
     have OI := aB.kp (xE.f9.f9.f9.f9.f9.f9.f9.f9.f9)
     refine dQ OI (fun W hW => (Kp.h hW).right.f8.f8.f8.f8.f8.f8.f8.f8) ?_
     refine kE 9 rfl (nV (vs := [_]) xE underlying176 sizeOf35 zeroValue35 rfl rfl rfl (by decide) (aC (by first | rfl | exact Rd.one ((xE).aT)) bV)) ?_
     rintro l15 MO uf
     have xg := aB.kp (uf.f10.f10.f10.f10.f10.f10.f10.f10.f10.f10)
     refine dQ xg (fun W hW => (Kp.h hW).right.f9.f9.f9.f9.f9.f9.f9.f9.f9) ?_
     refine kE 10 rfl (iC uf.f6 underlying176 (show (prog.info? 35).map (fun i => (i.zero, i.size, i.bytes)) = some (some (.slice none 0 0), 1, 24) by kernel_rfl) rfl rfl rfl ((uf).aT) (aC (by first | rfl | exact Rd.one ((uf.f2).aT)) bV) (by omega) (by omega)) ?_
     rintro X7 w16 rZ
     have JL := rZ.f2.right
     have La := aB.kp (JL.f9.f9.f9.f9.f9.f9.f9.f9.f9)
     refine fQ La (by kernel_rfl) ?_
     refine jQ 11 rfl La rfl (gV 12 rfl La 0 underlying180 rfl sizeOf178 rfl (gV 13 rfl La 0 underlying178 rfl sizeOf176 rfl ?_))
     refine fU 14 rfl (by kernel_rfl) (aS 0 (l' := [_, _, _, _, _]) JL.f5 sizeOf176 rfl rfl (by first | rfl | exact Rd.one ((JL).aT)) rfl rfl) ?_
     rintro _ Qc zY
     have Ir := aB.kp (zY.f9.f9.f9.f9.f9.f9.f9.f9.f9)
     refine fQ Ir (by kernel_rfl) ?_
     have hadd : ¬ 0 < op := by omega
     refine pO (aj (ay (ah (aV rfl (aA (aj (aJ (aI (.inl rfl) results164 rfl ?_))))))))
     have e : pz G N a dl il = 0 := by unfold pz; rw [if_neg (by omega), if_neg (by omega)]
     rw [OE e hadd, OG e hadd, e]
     have X := (zY.f9.right.f8.f8.f3.f8.f5.f6.f8.f8).jG.swap.jG.swap
     have X2 := aB.sK (es := []) X.CQ.f3.f3.f4
     have X4 := aB.sN X2.qj.swap
     refine ⟨rfl, aB.oP (gv := X7) (nv := sQ) (gs := jl ++ [(l14, [⟨a, d13, dl, s13, il⟩])]) (now := iZ) (ed := (dS G N : Nat) + 1) ⟨KZ iI.1 (List.cons_ne_nil _ _), by rw [Iq]; omega, iI.2.2.1, iI.2.2.2.1, Ip iI.2.2.2.2.1 (by intro e he; rw [List.mem_singleton.1 he]; exact ⟨b2, b3⟩), iI.2.2.2.2.2⟩ (by rw [List.map_append, pq]; rfl) mX (by rw [Iq]; rfl) (X4.of_eq (by unfold Eh; ac_rfl))⟩
end
end Go.Proofs.YtgndbccogcofjaaGreatDoor
end
section
namespace Go.Proofs.YtgndbccogcofjaaGreatDoor
open Go.RowKit
def Gg (P : Program) (l : Nat) (vs : List Value) (w : World) (T : Value → World → Prop) : Prop :=
  ∃ f tmps c d, (Instr.yield l vs.toArray).run P w = .ok (.round l f tmps c d) w ∧ RoundIn Fence.wide 0 P l f tmps c d w fun e w' => ∃ v, e = .returned v ∧ T v w'
theorem Gg.mono {P : Program} {l : Nat} {vs : List Value} {w : World} {T T' : Value → World → Prop} (h : Gg P l vs w T) (k : ∀ v w', T v w' → T' v w') : Gg P l vs w T' :=
  let ⟨f, tmps, c, d, h1, h2⟩ := h; ⟨f, tmps, c, d, h1, RoundIn.mono h2 fun _ _ ⟨v, e, t⟩ => ⟨v, e, k _ _ t⟩⟩
theorem Gg.bool {P : Program} {l : Nat} {vs : List Value} {w : World} {A B : World → Prop} (h : Gg P l vs w fun v W' => (v = .bool true ∧ A W') ∨ (v = .bool false ∧ B W')) : Gg P l vs w fun v W' => ∃ t, v = .bool t ∧ (t = true → A W') ∧ (t = false → B W') :=
  h.mono fun v W' hv => by
    rcases hv with ⟨rfl, h⟩ | ⟨rfl, h⟩
    · exact ⟨true, rfl, fun _ => h, fun e => by cases e⟩
    · exact ⟨false, rfl, (fun e => by cases e), fun _ => h⟩
theorem Gh {P : Program} {L : List (Nat × Value)} {w : World} {ty : TypeId} {x : Operand} {args : List Operand} {ts : Array TypeId} {l : Nat} {vs : List Value} {T : Value → World → Prop} (hx : ev L x = some (.func (.yield l) #[] #[])) (ha : xZ L args = some vs) (h : Gg P l vs w T) :
    pX P L (.call ⟨.value x, args.toArray, ts⟩) ty w T := by
  obtain ⟨f, tmps, c, d, hy, hr⟩ := h
  refine Ql (fun ρ hρ dd pos lu g => ?_) hr
  have hg := hρ _ _ hx
  simp [execOp, resolve, invoke, UG hρ _ _ ha, hg, Deferred.ofValue, hy]
def Iter (P : Program) (w0 : World) (fv : Value) (R : HP) (n : Nat) (E : Nat → List Value → HP → Prop) : Prop :=
  ∀ (l : Nat) (J : Nat → HP) (X : HP) (w : World),
    (∀ k, k < n → ∀ vs A, E k vs A → ∀ G W, aB w0 W (A • J k • G) → Gg P l vs W fun v W' => (v = .bool true ∧ aB w0 W' (J (k + 1) • G)) ∨ (v = .bool false ∧ aB w0 W' (X • G))) →
    aB w0 w (J 0 • R) → Hg P fv [.func (.yield l) #[] #[]] w fun _ W' => aB w0 W' (J n • R) ∨ aB w0 W' (X • R)
def Iu (w0 : World) (I : HP) (Xr : HP) (Xe : Nat → HP) (G : HP) : Exit → Act → World → Prop
  | .normal, _, W => aB w0 W (I • G)
  | .ret, _, W => aB w0 W (Xr • G)
  | .exit id, _, W => aB w0 W (Xe id • G)
  | _, _, _ => False
def Lc (P : Program) (N : Sh) (w0 : World) (body : Code) (I : HP) (Xr : HP) (Xe : Nat → HP) (G : HP) (a : Act) (W : World) : Prop :=
  ∃ (L : List (Nat × Value)) (B : HP), Fits N L a ∧ aB w0 W (B • G) ∧ ∀ G' W', aB w0 W' (B • G') → WC P N body (Iu w0 I Xr Xe G') L W'
def OJ : Exit → Act → World → Prop := fun _ _ _ => False
theorem JM {P : Program} {N : Sh} {w0 w : World} {body : Code} {I Xr : HP} {Xe : Nat → HP} {G B : HP} {L : List (Nat × Value)} (H : aB w0 w (B • G)) (h : ∀ G' W', aB w0 W' (B • G') → WC P N body (Iu w0 I Xr Xe G') L W') :
    WQ N (Exit.then (Lc P N w0 body I Xr Xe G) OJ) .normal L w := fun _ a ha => ⟨L, B, ha, H, h⟩
theorem CZ {N : Sh} {w0 w : World} {I Xr : HP} {Xe : Nat → HP} {G : HP} {L : List (Nat × Value)} (H : aB w0 w (I • G)) : WQ N (Iu w0 I Xr Xe G) .normal L w := fun _ _ _ => H
theorem OL {N : Sh} {w0 w : World} {I Xr : HP} {Xe : Nat → HP} {G : HP} {id : Nat} {L : List (Nat × Value)} (H : aB w0 w (Xe id • G)) : WQ N (Iu w0 I Xr Xe G) (.exit id) L w := fun _ _ _ => H
theorem OM {w0 : World} {I Xr : HP} {Xe : Nat → HP} {G : HP} : NP (Iu w0 I Xr Xe G) := fun _ _ _ h => h
def JO : List Nat → List Value → List (Nat × Value) → List (Nat × Value)
  | [], _, L => L
  | _ :: _, [], L => L
  | p :: ps, v :: vs, L => JO ps vs ((p, v) :: L)
theorem Iw {n l : Nat} : ∀ (ps : List Nat) (vs : List Value) (L : List (Nat × Value)) (tmps : Array Value), (∀ p ∈ ps, p < n) → Fits ⟨n, [], some l⟩ L { tmps := tmps, defers := [] } →
    Fits ⟨n, [], some l⟩ (JO ps vs L) { tmps := (ps.zip vs).foldl (fun t (p : Nat × Value) => t.setIfInBounds p.1 p.2) tmps, defers := [] }
  | [], _, _, _, _, h => h
  | _ :: _, [], _, _, _, h => h
  | p :: ps, v :: vs, L, tmps, hp, h => Iw ps vs _ _ (fun q hq => hp q (by simp [hq])) (h.put (hp p (by simp)) v)
section
variable {P : Program} {N : Sh} {Q : Exit → Act → World → Prop} {L : List (Nat × Value)} {w0 w : World}
theorem uo {g : Operand} {ps : List Nat} {assign body : Code} {fv : Value} {R : HP} {n : Nat} {E : Nat → List Value → HP → Prop} (hg : ev L g = some fv) (hit : Iter P w0 fv R n E) (I : Nat → HP) (Xr : HP) (Xe : Nat → HP) (H : aB w0 w (I 0 • R))
    (hps : ps.all (· < N.n) = true)
    (hbody : ∀ l k, k < n → ∀ vs A, E k vs A → ∀ G W, aB w0 W (A • I k • G) → vs.length = ps.length ∧ WC P ⟨N.n, [], some l⟩ assign (Exit.then (Lc P ⟨N.n, [], some l⟩ w0 body (I (k + 1)) Xr Xe G) OJ) (JO ps vs L) W)
    (hdone : ∀ D W, aB w0 W (dB D (.deferred (some [])) • I n • R) → WQ ⟨N.n, D :: N.ds, none⟩ Q .normal L W)
    (hret : ∀ D W, aB w0 W (dB D (.deferred (some [])) • Xr • R) → WQ ⟨N.n, D :: N.ds, none⟩ Q .ret L W)
    (VO : ∀ id D W, aB w0 W (dB D (.deferred (some [])) • Xe id • R) → WQ ⟨N.n, D :: N.ds, none⟩ Q (.exit id) L W)
    (hro : N.ro = none := by rfl) : WC P N (.rangeFunc g ps.toArray assign body) Q L w := fun np a ha => by
  rw [hro]
  refine wpIn_rangeFunc fun fn _ => ?_
  let mY : LoopState → Option Code → Loop := fun s j => { state := s, pending := j, fn, tmps := a.tmps, params := ps.toArray, assign, body, defers := w.heap.size }
  have X8 := run_enterLoop_outer (P := P) (w := w) fn a.tmps ps.toArray assign body
  have H1 : aB w0 ((w.alloc (.deferred (some []))).alloc (.loop (mY .ready none))) (dB (w.heap.size + 1) (.loop (mY .ready none)) • dB w.heap.size (.deferred (some [])) • I 0 • R) := by
    have := (H.alloc (.deferred (some []))).alloc (.loop (mY .ready none))
    rw [World.size_alloc] at this
    exact this
  let Lk : LoopState → Option Code → HP := fun s j => dB (w.heap.size + 1) (.loop (mY s j)) • dB w.heap.size (.deferred (some []))
  have TQ : ∀ k, k < n → ∀ vs A, E k vs A → ∀ G W, aB w0 W (A • (Lk .ready none • I k) • G) → Gg P (w.heap.size + 1) vs W fun v W' => (v = .bool true ∧ aB w0 W' ((Lk .ready none • I (k + 1)) • G)) ∨
      (v = .bool false ∧ aB w0 W' (rD (fun c : Code => Lk .done (some c) • (match c with | .ret => Xr | .exit id => Xe id | _ => fact False)) • G)) := by
    intro k hk vs A hE G W HW
    have e1 : (A • (Lk .ready none • I k) • G) = (dB (w.heap.size + 1) (.loop (mY .ready none)) • A • I k • dB w.heap.size (.deferred (some [])) • G) := by
      show (A • ((dB (w.heap.size + 1) (.loop (mY .ready none)) • dB w.heap.size (.deferred (some []))) • I k) • G) = _
      ac_rfl
    have HW1 := HW.of_eq e1
    have hl := HW1.get.2
    have hlen := (hbody (w.heap.size + 1) k hk vs A hE _ W (HW1.of_eq (show _ = (A • I k • dB (w.heap.size + 1) (.loop (mY .ready none)) • dB w.heap.size (.deferred (some [])) • G) by ac_rfl))).1
    refine ⟨fn, _, assign, body, run_yield hl (by rw [List.size_toArray, hlen]; exact List.size_toArray.symm), ?_⟩
    have hfit : Fits ⟨N.n, [], some (w.heap.size + 1)⟩ (JO ps vs L) { tmps := (ps.toArray.zip vs.toArray).foldl (fun tmps (t, a) => tmps.setIfInBounds t a) a.tmps, defers := [] } := by
      have := Iw (n := N.n) (l := w.heap.size + 1) ps vs L a.tmps (fun p hp => by simpa using List.all_eq_true.1 hps p hp) ⟨ha.size, rfl, ha.at_⟩
      simpa using this
    refine roundIn_of_wpIn trivial ?_
    have HW2 : aB w0 W (A • I k • dB (w.heap.size + 1) (.loop (mY .ready none)) • dB w.heap.size (.deferred (some [])) • G) := HW1.of_eq (by ac_rfl)
    have hb := (hbody (w.heap.size + 1) k hk vs A hE _ W HW2).2 (fun c a w h => h) _ hfit
    refine wpIn_mono hb ?_
    rintro e a1 W1 hq
    cases e with
    | exit id => exact hq.elim
    | goto l => exact hq.elim
    | ret => exact hq.elim
    | panic c => exact hq.elim
    | outgrown => exact hq.elim
    | normal =>
      obtain ⟨L1, B, hf1, HB, hgo⟩ := hq
      have HB1 : aB w0 W1 (dB (w.heap.size + 1) (.loop (mY .ready none)) • B • dB w.heap.size (.deferred (some [])) • G) := HB.of_eq (by ac_rfl)
      have hl1 := HB1.get.2
      refine ⟨_, run_beginRound hl1 rfl, ?_⟩
      have HB2 : aB w0 (W1.putObj (w.heap.size + 1) (.loop (mY .busy none))) (dB (w.heap.size + 1) (.loop (mY .busy none)) • B • dB w.heap.size (.deferred (some [])) • G) := HB1.turn rfl rfl rfl (by simp) (World.putObj_heap_same HB1.lt) fun k hk _ => World.putObj_heap_other hk
      have hbd := hgo (dB (w.heap.size + 1) (.loop (mY .busy none)) • dB w.heap.size (.deferred (some [])) • G) _ (HB2.of_eq (by ac_rfl)) OM a1 hf1
      refine wpIn_mono hbd ?_
      have fin : ∀ (j : Option Code) (W3 : World) (A3 : HP), aB w0 W3 (A3 • dB (w.heap.size + 1) (.loop (mY .busy none)) • dB w.heap.size (.deferred (some [])) • G) →
          (Instr.endRound (w.heap.size + 1) j).run P W3 = .ok (.bool j.isNone) (W3.putObj (w.heap.size + 1) (.loop (mY (if j.isNone then .ready else .done) j))) ∧
          aB w0 (W3.putObj (w.heap.size + 1) (.loop (mY (if j.isNone then .ready else .done) j))) ((Lk (if j.isNone then .ready else .done) j • A3) • G) := by
        intro j W3 A3 H3
        have H4 := H3.swap
        refine ⟨run_endRound j H4.get.2, ?_⟩
        have H5 : aB w0 (W3.putObj (w.heap.size + 1) (.loop (mY (if j.isNone then .ready else .done) j))) (dB (w.heap.size + 1) (.loop (mY (if j.isNone then .ready else .done) j)) • A3 • dB w.heap.size (.deferred (some [])) • G) := H4.turn rfl rfl rfl (by simp) (World.putObj_heap_same H4.lt) fun k hk _ => World.putObj_heap_other hk
        refine H5.of_eq ?_
        show _ = (((dB (w.heap.size + 1) (.loop (mY (if j.isNone then .ready else .done) j)) • dB w.heap.size (.deferred (some []))) • A3) • G)
        ac_rfl
      rintro e a3 W3 hp
      cases e with
      | normal => obtain ⟨h1, h2⟩ := fin none W3 _ hp; exact ⟨_, _, h1, _, rfl, .inl ⟨rfl, h2⟩⟩
      | ret => obtain ⟨h1, h2⟩ := fin (some .ret) W3 _ hp; exact ⟨_, _, h1, _, rfl, .inr ⟨rfl, aB.gY .ret h2⟩⟩
      | exit id => obtain ⟨h1, h2⟩ := fin (some (.exit id)) W3 _ hp; exact ⟨_, _, h1, _, rfl, .inr ⟨rfl, aB.gY (.exit id) h2⟩⟩
      | goto l => exact hp.elim
      | panic c => exact hp.elim
      | outgrown => exact hp.elim
  have hcall := hit (w.heap.size + 1) (fun k => Lk .ready none • I k) _ _ TQ (H1.of_eq (by
    show _ = (((dB (w.heap.size + 1) (.loop (mY .ready none)) • dB w.heap.size (.deferred (some []))) • I 0) • R)
    ac_rfl))
  obtain ⟨f, first, cap, fn', c, rfl, hf, hn, hb, VP⟩ := hcall
  refine ⟨w.heap.size + 1, _, _, { target := .fn (.func f) cap.toArray, args := (first ++ [Value.func (.yield (w.heap.size + 1)) #[] #[]]).toArray }, (w.alloc (.deferred (some []))).alloc (.loop (mY .ready none)), f, _, (w.alloc (.deferred (some []))).alloc (.loop (mY .ready none)), X8, ?_, fun _ _ => trivial, ?_, (fun h => by cases h), NV.2 (Calls.mono VP ?_)⟩
  · have he := ha.ev hg
    have he2 : a.eval (.const (.func (.yield (w.heap.size + 1)) #[] #[])) = .func (.yield (w.heap.size + 1)) #[] #[] := rfl
    simp [resolve, rangeCall, he, he2, Deferred.ofValue, mY]
  · simp [invoke, callFunc, hf, hb]
    simpa using hn
  · rintro e W2 ⟨v, rfl, hv⟩
    have fin : ∀ (s : LoopState) (j : Option Code) (A : HP), s ≠ .busy → aB w0 W2 ((Lk s j • A) • R) → (Instr.endLoop (w.heap.size + 1)).run P W2 = .ok j (W2.putObj (w.heap.size + 1) (.loop (mY .exhausted j))) ∧
        aB w0 (W2.putObj (w.heap.size + 1) (.loop (mY .exhausted j))) (dB w.heap.size (.deferred (some [])) • A • R) := by
      intro s j A hs H3
      have H4 : aB w0 W2 (dB (w.heap.size + 1) (.loop (mY s j)) • dB w.heap.size (.deferred (some [])) • A • R) := H3.of_eq (by
        show (((dB (w.heap.size + 1) (.loop (mY s j)) • dB w.heap.size (.deferred (some []))) • A) • R) = _
        ac_rfl)
      refine ⟨run_endLoop H4.get.2 hs, ?_⟩
      have H5 : aB w0 (W2.putObj (w.heap.size + 1) (.loop (mY .exhausted j))) (dB (w.heap.size + 1) (.loop (mY .exhausted j)) • dB w.heap.size (.deferred (some [])) • A • R) := H4.turn rfl rfl rfl (by simp) (World.putObj_heap_same H4.lt) fun k hk _ => World.putObj_heap_other hk
      exact H5.right
    have hfit : Fits ⟨N.n, w.heap.size :: N.ds, none⟩ L { a with defers := [{ target := .collected w.heap.size, args := #[] }] ++ a.defers } := ⟨ha.size, by simp [ha.defers, NU], ha.at_⟩
    rcases hv with hv | hv
    · obtain ⟨h1, h2⟩ := fin _ _ _ (by decide) hv
      exact ⟨none, _, h1, hdone _ _ h2 np _ hfit⟩
    · obtain ⟨c, hv⟩ := hv.lK
      obtain ⟨h1, h2⟩ := fin _ _ _ (by decide) hv
      cases c with
      | ret => exact ⟨some .ret, _, h1, wpIn_ret (hret _ _ h2 np _ hfit)⟩
      | exit id => exact ⟨some (.exit id), _, h1, wpIn_exit (VO id _ _ h2 np _ hfit)⟩
      | _ => exact absurd h2.swap.fact.1 id
end
end Go.Proofs.YtgndbccogcofjaaGreatDoor
end
