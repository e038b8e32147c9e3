import Derived.Test.YtddekefihgejoaaGreatDoorZ2
import Derived.Test.YtddekefihgejoaaGreatDoorZ5
import Derived.Test.YtddekefihgejoaaGreatDoorZ3
import Derived.Test.YtddekefihgejoaaGreatDoorZ4
set_option linter.unusedSimpArgs false
set_option linter.unusedVariables false
/- Texts of mine, joined, their names in short: Hist HistF HlIn Buf Buf2. -/
section
namespace Go.Proofs.YtddekefihgejoaaGreatDoor
open Go.RowKit
open _root_.Go.Proofs.Tryz
abbrev lg := ByteArray × Int
def iM (x : lg) : List Value := [.string x.1, .int .i64 x.2]
theorem uS (x : lg) : (iM x).length = 2 := rfl
def QK (x : lg) : Prop := x.1.size ≤ 16384 ∧ 0 ≤ x.2
def Wi (hl : List lg) (base most : Int) : Prop := hl.length ≤ 4096 ∧ 1 ≤ base ∧ base ≤ 4611686018427387904 ∧ (hl.length : Int) ≤ most ∧ most ≤ 4096 ∧ ∀ x ∈ hl, QK x
def dn (p : Nat) (hl : List lg) (base most : Int) : HP := qC fun (v : Value) => fact (Wi hl base most) • cO p (.cells #[v, .int .i64 base, .int .i64 most] 176 (0, 0)) • Row 84 2 v hl.length (hl.flatMap iM)
section
variable {P : Program} {L : List (Nat × Value)} {w0 w : World} {F : HP} {ty : TypeId} {p : Nat} {hl : List lg} {base most : Int} {v : Value}
theorem D7 {t e sz : Nat} {z : Value} (H : aA w0 w F) (ht : P.underlying t = some (.slice e)) (hs : ∀ w, (sizeOf e).run P w = .ok sz w) (hz : ∀ w, (zeroValue e).run P w = .ok z w) :
    rU P L (.buildSlice t 0 #[]) ty w fun v w' => aA w0 w' (Row e sz v 0 [] • F) := by
  refine nR (v := .slice (some ⟨w.heap.size, 0, none⟩) 0 0) (w' := w.alloc (.cells #[] e)) ?_ ?_
  · intro ρ hρ d pos lM g
    simp only [execOp, Instr.buildSlice, Sem.run_bind, run_underlying ht, Result.andThen_ok, hs]
    have h0 : Array.map (fun (_ : Nat) => (default : Value)) (Array.range 0) = #[] := Array.eq_empty_of_size_eq_zero (by simp)
    simp [Instr.fill, newRow, h0]
  · exact (H.alloc _).right.iH _
theorem aA.hist (H : aA w0 w (dn p hl base most • F)) : ∃ v, Wi hl base most ∧ aA w0 w (cO p (.cells #[v, .int .i64 base, .int .i64 most] 176 (0, 0)) • Row 84 2 v hl.length (hl.flatMap iM) • F) := by
  obtain ⟨v, H⟩ := H.kU
  obtain ⟨h, H⟩ := H.flat.fact
  exact ⟨v, h, H.flat⟩
theorem aA.qW (h : Wi hl base most) (H : aA w0 w (cO p (.cells #[v, .int .i64 base, .int .i64 most] 176 (0, 0)) • Row 84 2 v hl.length (hl.flatMap iM) • F)) : aA w0 w (dn p hl base most • F) :=
  aA.gY v (aA.deep (aA.jU h H.deep))
theorem Nz {hl : List lg} : ∀ x ∈ hl.flatMap iM, x.oneCell' = true := by
  intro x hx
  obtain ⟨e, _, hx⟩ := List.mem_flatMap.1 hx
  simp [iM] at hx
  rcases hx with rfl | rfl <;> rfl
theorem Ut : (prog.info? 84).map (fun i => (i.zero, i.size, i.bytes)) = some (some (.agg #[.string .empty, .int .i64 0]), 2, 24) := by kernel_rfl
theorem vZ (H : aA w0 w F) (hr : Aq w0 F 2 v hl.length (hl.flatMap iM)) (hb : hl.length ≤ 1099511627776) :
    fQ prog 104 #[v] w fun v' w' => aA w0 w' (Row 84 2 v' hl.length (hl.flatMap iM) • F) := by
  obtain ⟨hlen, a, c, rfl, h1, h2, h3⟩ := hr w H
  refine iw func104 ntmps104 ?_
  dsimp only [aZ, Nat.reduceAdd]
  refine ay (ah (aW rfl (aB (aj (ay (ay (ah (aP rfl (aU (pV underlying24 rfl rfl) (aB (aj (aO rfl (fun h1 => ?_) (fun h1 => ?_)))))))))))))
  · (try simp only [aG] at h1)
    try (exfalso; first | contradiction | omega)
    all_goals
      refine ay (ah (aW rfl (aB (aj (aN (aK (aT (.inl rfl) results104 rfl ?_)))))))
      obtain rfl : a = none := by simpa using h1
      obtain rfl : hl = [] := by
        cases hl with
        | nil => rfl
        | cons x l => obtain ⟨b, o, e, _⟩ := h3 (by simp); cases e
      exact H.iH none
  · (try simp only [aG] at h1)
    try (exfalso; first | contradiction | omega)
    all_goals
      refine aQ (aj (ay (ah (gB (D7 H underlying24 sizeOf84 zeroValue84) ?_))))
      rintro _ w1 H1
      refine aP rfl (gB (fK H1 underlying24 Ut rfl rfl rfl (hr.under _ H1) Nz (by omega) (by omega)) ?_)
      rintro _ w2 H2
      refine aW rfl (aB (aj (aN (aT (.inl rfl) results104 rfl ?_))))
      exact H2.of_eq (by rw [Nat.zero_add, List.nil_append])
theorem pJ (H : aA w0 w (dn p hl base most • F)) : fQ prog 103 #[.pointer (some ⟨p, 0, none⟩)] w fun v w' => v = .bool false ∧ w = w' := by
 refine iw func103 ntmps103 ?_
 dsimp only [aZ, Nat.reduceAdd]
 refine ay (ah (aW rfl (aB (aj (ay ?_)))))
 obtain ⟨QL, uT, wo⟩ := (H).hist
 refine ah (aP rfl (aU (fO underlying65 rfl rfl) (jL rfl (fun h1 => ?_) (fun h1 => ?_))))
 ·(try simp only [aG] at h1)
  try (exfalso; first | contradiction | omega)
  all_goals
   refine bK (bK (bK (bK (bK (bK (jP rfl rfl (aW rfl (aB (aj (aN (aT (.inl rfl) results103 rfl ?_)))))))))))
   exact ⟨by rw [show (base == 0) = false from by rw [beq_eq_false_iff_ne]; have := uT.2.1; omega], rfl⟩
 ·(try simp only [aG] at h1)
  try (exfalso; first | contradiction | omega)
  all_goals
   refine bn (aP rfl (bn (bT rfl (bn (bf 0 underlying176 rfl sizeOf174 rfl (bn (bf 1 underlying174 rfl sizeOf2 rfl (bn (dA underlying2 rfl (wo).get.2 rfl (bn (aU (iQ rfl rfl) (jd rfl rfl (aW rfl (aB (aj (aN (aT (.inl rfl) results103 rfl ?_)))))))))))))))))
   exact ⟨by rw [show (base == 0) = false from by rw [beq_eq_false_iff_ne]; have := uT.2.1; omega], rfl⟩
theorem zJ {n : Int} (H : aA w0 w F) (hn : 0 ≤ n ∧ n ≤ 4096) : fQ prog 75 #[.int .i64 n] w fun v w' => ∃ p, v = .tuple #[.pointer (some ⟨p, 0, none⟩), .int .i64 0] ∧ aA w0 w' (dn p [] 1 n • F) := by
 refine iw func75 ntmps75 ?_
 dsimp only [aZ, Nat.reduceAdd]
 refine ay (ah (aW rfl (aW rfl (aB (aj (ay (ay (ah (aP rfl (aU (dV rfl rfl) (jL rfl (fun h1 => ?_) (fun h1 => ?_))))))))))))
 ·(try simp only [aG] at h1)
  try (exfalso; first | contradiction | omega)
  all_goals
   refine bK (bK (jP rfl rfl (aB (aj (Dj (ay (ah (aW rfl (aW rfl (aB (aj (aN (aK (gQ (.inl rfl) results75 rfl rfl ?_))))))))))))))
   exact ⟨_, rfl, aA.qW (v := .slice none 0 0) ⟨by simp, by decide, by decide, by simp; omega, by omega, by simp⟩ ((H.iH none).swap)⟩
 ·(try simp only [aG] at h1)
  try (exfalso; first | contradiction | omega)
  all_goals
   refine bn (aP rfl (bn (aU (gU rfl rfl) (jd rfl rfl (aB (aj (aO rfl (fun h2 => ?_) (fun h2 => ?_))))))))
   ·(try simp only [aG] at h2)
    try (exfalso; first | contradiction | omega)
    all_goals
     refine ay (ah (aW rfl (aW rfl (aB (aj (aN (aK (gQ (.inl rfl) results75 rfl rfl ?_))))))))
     exact ⟨_, rfl, aA.qW (v := .slice none 0 0) ⟨by simp, by decide, by decide, by simp; omega, by omega, by simp⟩ ((H.iH none).swap)⟩
   ·(try simp only [aG] at h2)
    try (exfalso; first | contradiction | omega)
    all_goals
     refine aQ (aj (ay (ah (aP rfl (aU (fJ (pl := #[(0, 1), (1, 1), (2, 1)]) (#[_, _, _]) underlying174 zeroValue174 (fun w => by kernel_rfl) rfl (rfl)) (aU (fJ (pl := #[(0, 3)]) (#[_, _, _]) underlying176 zeroValue176 (fun w => by kernel_rfl) rfl (rfl)) (gB (ig (l := [_, _, _]) H rfl rfl) ?_)))))))
     rintro _ w1 ⟨b1, rfl, H1⟩
     refine aW rfl (aW rfl (aB (aj (aN (gQ (.inl rfl) results75 rfl rfl ?_)))))
     exact ⟨_, rfl, aA.qW (v := .slice none 0 0) ⟨by simp, by decide, by decide, by simp; omega, by omega, by simp⟩ ((H1.iH none).swap)⟩
theorem jF (H : aA w0 w (dn p hl base most • F)) : fQ prog 84 #[.pointer (some ⟨p, 0, none⟩)] w fun v w' => v = .int .i64 hl.length ∧ aA w0 w' (dn p hl base most • F) := by
 refine iw func84 ntmps84 ?_
 dsimp only [aZ, Nat.reduceAdd]
 refine ay (ah (aW rfl (aB (aj (ay (ay (ah (aP rfl (dD rfl func103 (pJ H) ?_)))))))))
 rintro _ _ ⟨rfl, rfl⟩
 refine aB (aj (pW (aQ (aj (ay ?_)))))
 obtain ⟨QL, uT, wo⟩ := (H).hist
 refine ah (aP rfl (bT rfl (bf 0 underlying176 rfl sizeOf174 rfl (bf 0 underlying174 rfl sizeOf24 rfl (dA underlying24 rfl (wo).get.2 rfl (aU (eY ((wo.f2).aJ) underlying24 rfl) (aW rfl (aB (aj (aN (aT (.inl rfl) results84 rfl ?_)))))))))))
 have Js := wo.f2.f2
 have Jt := aA.qW uT Js
 exact ⟨rfl, Jt⟩
theorem og (H : aA w0 w (dn p hl base most • F)) : fQ prog 77 #[.pointer (some ⟨p, 0, none⟩)] w fun v w' => ∃ q, v = .pointer (some ⟨q, 0, none⟩) ∧ aA w0 w' (dn q hl base most • dn p hl base most • F) := by
 refine iw func77 ntmps77 ?_
 dsimp only [aZ, Nat.reduceAdd]
 refine ay (ah (aW rfl (aB (aj (ay (ay (ah (aP rfl (dD rfl func103 (pJ H) ?_)))))))))
 rintro _ _ ⟨rfl, rfl⟩
 refine aB (aj (pW (aQ (aj (ay ?_)))))
 obtain ⟨QL, uT, wo⟩ := (H).hist
 have hcl := uT.1
 have AQ := wo.drew
 have fD := aA.kp (AQ.f2.f2)
 refine vJ [4, 10, 15] fD rfl (fU 0 rfl fD rfl (iZ 1 rfl fD rfl (dU 2 rfl fD 0 underlying176 rfl sizeOf174 rfl (dU 3 rfl fD 0 underlying174 rfl sizeOf24 rfl (gG 4 rfl fD (fun W hW => iF underlying24 rfl ((Kp.h hW)).get.2 rfl) (fU 6 rfl fD rfl (iZ 7 rfl fD rfl (dU 8 rfl fD 0 underlying176 rfl sizeOf174 rfl (dU 9 rfl fD 1 underlying174 rfl sizeOf2 rfl (gG 10 rfl fD (fun W hW => iF underlying2 rfl ((Kp.h hW)).get.2 rfl) (fU 11 rfl fD rfl (iZ 12 rfl fD rfl (dU 13 rfl fD 0 underlying176 rfl sizeOf174 rfl (dU 14 rfl fD 2 underlying174 rfl sizeOf3 rfl (gG 15 rfl fD (fun W hW => iF underlying3 rfl ((Kp.h hW)).get.2 rfl) (jm 5 rfl (rX rfl func104 (vZ AQ (fun W HW => (HW.f2).aJ) (by omega))) ?_))))))))))))))))
 rintro u3 w3 H3
 have CS := aA.kp (H3.f3.f3.f3)
 refine bU CS (fun W hW => (Kp.h hW).right.f2.f2) ?_
 obtain ⟨au3, cu3, X7, -⟩ := ((H3).aJ).form
 subst X7
 refine gZ 16 rfl CS (fun _ => fJ (pl := #[(0, 1), (1, 1), (2, 1)]) (#[_, _, _]) underlying174 zeroValue174 (fun w => by kernel_rfl) rfl (rfl)) (gZ 17 rfl CS (fun _ => fJ (pl := #[(0, 3)]) (#[_, _, _]) underlying176 zeroValue176 (fun w => by kernel_rfl) rfl (rfl)) (jm 18 rfl (ig (l := [_, _, _]) H3 rfl rfl) ?_))
 rintro _ w4 ⟨b4, rfl, H4⟩
 have uO := aA.kp (H4.f4.f4.f4.f4)
 refine dS uO (by kernel_rfl) ?_
 refine gZ 19 rfl uO (fun _ => eX rfl) (mD (aj (aN (aT (.inl rfl) results77 rfl ?_))))
 have Wj := H4.f4.f4
 have Wn := aA.qW uT Wj
 exact ⟨_, rfl, aA.qW uT Wn.f3.f3⟩
end
end Go.Proofs.YtddekefihgejoaaGreatDoor
end
section
namespace Go.Proofs.YtddekefihgejoaaGreatDoor
open Go.RowKit
open _root_.Go.Proofs.Tryz
def qX (l : List lg) : Int := if l.any (fun x => decide (16384 < x.1.size)) then 3 else if l.any (fun x => decide (x.2 < 0)) then 1 else 0
theorem QM {l : List lg} {k : Nat} (hk : k < l.length) : l.getD k default ∈ l := by rw [List.getD_eq_getElem?_getD, List.getElem?_eq_getElem hk]; exact List.getElem_mem hk
theorem QN {l : List lg} {p : lg → Prop} (h : ∀ k, k < l.length → p (l.getD k default)) : ∀ x ∈ l, p x := by
  intro x hx
  obtain ⟨k, hk, rfl⟩ := List.getElem_of_mem hx
  have := h k hk
  rwa [List.getD_eq_getElem?_getD, List.getElem?_eq_getElem hk] at this
theorem OV {l : List lg} {k : Nat} (hk : k < l.length) (h : (16384 : Int) < (l.getD k default).1.size) : qX l = 3 := by
  unfold qX
  rw [if_pos (List.any_eq_true.2 ⟨_, QM hk, decide_eq_true (by omega)⟩)]
theorem D8 {l : List lg} (h1 : ∀ k, k < l.length → ¬ (16384 : Int) < (l.getD k default).1.size) : qX l = if l.any (fun x => decide (x.2 < 0)) then 1 else 0 := by
  unfold qX
  rw [if_neg]
  intro c
  obtain ⟨x, hx, hd⟩ := List.any_eq_true.1 c
  have := QN (p := fun x => ¬ (16384 : Int) < x.1.size) h1 x hx
  simp at hd; omega
theorem QO {l : List lg} (h1 : ∀ k, k < l.length → ¬ (16384 : Int) < (l.getD k default).1.size) {k : Nat} (hk : k < l.length) (h : (l.getD k default).2 < 0) : qX l = 1 := by
  rw [D8 h1, if_pos (List.any_eq_true.2 ⟨_, QM hk, by simpa using h⟩)]
theorem Uu {l : List lg} (h1 : ∀ k, k < l.length → ¬ (16384 : Int) < (l.getD k default).1.size) (h2 : ∀ k, k < l.length → ¬ (l.getD k default).2 < 0) : qX l = 0 := by
  rw [D8 h1, if_neg]
  intro c
  obtain ⟨x, hx, hd⟩ := List.any_eq_true.1 c
  exact QN (p := fun x => ¬ x.2 < 0) h2 x hx (by simpa using hd)
theorem QS {l : List lg} (h : qX l = 0) : ∀ x ∈ l, QK x := by
  intro x hx
  unfold qX at h
  split at h
  · simp at h
  · rename_i h1
    split at h
    · simp at h
    · rename_i h2
      simp only [List.any_eq_true, not_exists, not_and, decide_eq_true_eq] at h1 h2
      exact ⟨by have := h1 x hx; omega, by have := h2 x hx; omega⟩
theorem NC (l : List lg) (n : Nat) : (l.flatMap iM).drop (n * 2) = (l.drop n).flatMap iM := by
  induction l generalizing n with
  | nil => simp
  | cons x l ih =>
    cases n with
    | zero => simp
    | succ n => rw [show (n + 1) * 2 = n * 2 + 2 from by omega, List.flatMap_cons, List.drop_succ_cons, ← ih n]; simp [iM, List.drop_append]
theorem Uw (l : List lg) : (l.flatMap iM).length = l.length * 2 := by induction l with
  | nil => rfl
  | cons x l ih => rw [List.flatMap_cons, List.length_append, ih, uS, List.length_cons]; omega
theorem Ux {W : World} {v : Value} {l : List lg} {n : Nat} (h : Rd W 2 v l.length (l.flatMap iM)) (hn : n ≤ l.length) : Rd W 2 (nV 2 n l.length v) (l.drop n).length ((l.drop n).flatMap iM) := by
  have h1 := h.cut hn (Nat.le_refl _)
  rw [List.take_of_length_le (by rw [NC, Uw]; simp), NC] at h1
  rwa [List.length_drop]
section
variable {P : Program} {L : List (Nat × Value)} {w0 w : World} {F : HP} {p : Nat} {hl l : List lg} {base most : Int} {v : Value}
theorem G6 (H : aA w0 w F) (hv : Aq w0 F 2 v l.length (l.flatMap iM)) (hb : l.length ≤ 35184372087808) : fQ prog 123 #[v] w fun v' w' => v' = .int .i64 (qX l) ∧ aA w0 w' F := by
 refine iw func123 ntmps123 ?_
 dsimp only [aZ, Nat.reduceAdd]
 refine ay (ah (aW rfl (aB (aj (ay (ay (ah (aP rfl (aU (eY (hv _ (H)) underlying24 rfl) (aP rfl (aB (aj (aY ?_)))))))))))))
 refine eP [(0, _), (7, _), (8, _)] (fun (k : Nat) => [(9, .int .i64 (k : Int))]) (fun (k : Nat) W => (k ≤ l.length ∧ ∀ i, i < k → ¬ (16384 : Int) < (l.getD i default).1.size) ∧ aA w0 W F) (fun (k : Nat) => l.length - k) (0) (Sub.cons rfl (Sub.cons rfl (Sub.cons rfl (Sub.nil _)))) (Sub.cons rfl (Sub.nil _)) ⟨⟨by omega, fun i hi => absurd hi (by omega)⟩, H⟩ ?_
 rintro k w1 ⟨⟨hk, hsh⟩, HL⟩
 dsimp only [List.cons_append, List.nil_append]
 refine ay (ah (aU (dV rfl rfl) (aB (aj (ay (aO rfl (fun h1 => ?_) (fun h1 => ?_)))))))
 ·(try simp only [aG] at h1)
  refine aQ (aj (ay (aY (ay ?_))))
  have hkl : k < l.length := by omega
  refine ah ?_
  obtain ⟨bv, ov, cv, ev⟩ := Rd.kN (hv _ (HL)) (by omega)
  cases ev
  refine aU (bV underlying24 sizeOf84 rfl rfl (by omega)) (aU (iG (ys := [_, _]) (hv _ (HL)) (by omega) underlying84 rfl sizeOf84 rfl (jw uS (by omega) default) rfl) (gB (bW (l := [_, _]) HL zeroValue84 rfl) ?_))
  rintro _ w2 ⟨b2, rfl, H2⟩
  refine aI (bC 0 (l' := [_, _]) (us := [_, _]) H2 sizeOf84 rfl rfl rfl (aC (by first | rfl | assumption) (aC (by first | rfl | assumption) bg)) rfl rfl) ?_
  rintro _ w3 H3
  refine aB (aj (ay (ah (bf 0 underlying84 rfl sizeOf9 rfl (dA underlying9 rfl (H3).get.2 rfl (aU (OE underlying9 rfl) (aU (gU rfl rfl) (aB (aj (aO rfl (fun h2 => ?_) (fun h2 => ?_)))))))))))
  ·(try simp only [aG] at h2)
   have hkb := h2
   refine ay (ah (aW rfl (aB (aj (aN (aX (aK (aK (aX (aK (aT (.inl rfl) results123 rfl ?_)))))))))))
   exact ⟨by rw [OV hkl hkb], H3.right⟩
  ·(try simp only [aG] at h2)
   have hks : ¬ (16384 : Int) < (l.getD k default).1.size := by have h9 := h2; omega
   refine aQ (aH (aj (ah (aU (dR rfl rfl (by omega)) (aP rfl (aB ?_))))))
   refine bZ (k + 1) ?_ ?_ ?_ ?_
   ·exact (Sub.cons rfl (Sub.nil _))
   ·exact (Sub.cons rfl (Sub.cons rfl (Sub.cons rfl (Sub.nil _))))
   ·(try dsimp only)
    first | done | exact ⟨⟨by omega, fun i hi => (show i < k ∨ i = k from by omega).elim (hsh i) (fun c => c ▸ hks)⟩, H3.right⟩
   ·(try dsimp only); omega
 ·(try simp only [aG] at h1)
  refine dK (aV (aV (bD (aj (ay (ay ?_))))))
  obtain rfl : k = l.length := by omega
  refine ah (aP rfl (aU (eY (hv _ (HL)) underlying24 rfl) (aP rfl (aB (aj (aY ?_))))))
  refine eP [(18, _), (19, _)] (fun (k2 : Nat) => [(20, .int .i64 (k2 : Int))]) (fun (k2 : Nat) W => (k2 ≤ l.length ∧ ∀ i, i < k2 → ¬ (l.getD i default).2 < 0) ∧ aA w0 W F) (fun (k2 : Nat) => l.length - k2) (0) (Sub.cons rfl (Sub.cons rfl (Sub.nil _))) (Sub.cons rfl (Sub.nil _)) ⟨⟨by omega, fun i hi => absurd hi (by omega)⟩, HL⟩ ?_
  rintro k2 w4 ⟨⟨hk2, hpo⟩, HL2⟩
  dsimp only [List.cons_append, List.nil_append]
  refine ay (ah (aU (dV rfl rfl) (aB (aj (ay (aO rfl (fun h3 => ?_) (fun h3 => ?_)))))))
  ·(try simp only [aG] at h3)
   refine aQ (aj (ay (aY (ay ?_))))
   have hkl2 : k2 < l.length := by omega
   refine ah ?_
   obtain ⟨bv, ov, cv, ev⟩ := Rd.kN (hv _ (HL2)) (by omega)
   cases ev
   refine aU (bV underlying24 sizeOf84 rfl rfl (by omega)) (aU (iG (ys := [_, _]) (hv _ (HL2)) (by omega) underlying84 rfl sizeOf84 rfl (jw uS (by omega) default) rfl) (gB (bW (l := [_, _]) HL2 zeroValue84 rfl) ?_))
   rintro _ w5 ⟨b5, rfl, H5⟩
   refine aI (bC 0 (l' := [_, _]) (us := [_, _]) H5 sizeOf84 rfl rfl rfl (aC (by first | rfl | assumption) (aC (by first | rfl | assumption) bg)) rfl rfl) ?_
   rintro _ w6 H6
   refine aB (aj (ay (ah (bf 1 underlying84 rfl sizeOf2 rfl (dA underlying2 rfl (H6).get.2 rfl (aU (dV rfl rfl) (aB (aj (aO rfl (fun h4 => ?_) (fun h4 => ?_))))))))))
   ·(try simp only [aG] at h4)
    have hkn := h4
    refine ay (ah (aW rfl (aB (aj (aN (aX (aK (aK (aX (aK (aT (.inl rfl) results123 rfl ?_)))))))))))
    exact ⟨by rw [QO hsh hkl2 hkn], H6.right⟩
   ·(try simp only [aG] at h4)
    have hkp : ¬ (l.getD k2 default).2 < 0 := by have h9 := h4; omega
    refine aQ (aH (aj (ah (aU (dR rfl rfl (by omega)) (aP rfl (aB ?_))))))
    refine bZ (k2 + 1) ?_ ?_ ?_ ?_
    ·exact (Sub.cons rfl (Sub.nil _))
    ·exact (Sub.cons rfl (Sub.cons rfl (Sub.nil _)))
    ·(try dsimp only)
     first | done | exact ⟨⟨by omega, fun i hi => (show i < k2 ∨ i = k2 from by omega).elim (hpo i) (fun c => c ▸ hkp)⟩, H6.right⟩
    ·(try dsimp only); omega
  ·(try simp only [aG] at h3)
   refine dK (aV (aV (bD (aj (ay ?_)))))
   obtain rfl : k2 = l.length := by omega
   refine ah (aW rfl (aB (aj (aN (aT (.inl rfl) results123 rfl ?_)))))
   exact ⟨by rw [Uu hsh hpo], HL2⟩
def oM (hl : List lg) (most : Int) : Nat := hl.length - most.toNat
theorem AU (H : aA w0 w (cO p (.cells #[v, .int .i64 base, .int .i64 most] 176 (0, 0)) • Row 84 2 v hl.length (hl.flatMap iM) • F)) (hm : 0 ≤ most ∧ most ≤ 4096) (hb : 1 ≤ base ∧ base ≤ 2305843009213693952) (hn : hl.length ≤ 70368744177664) :
  fQ prog 124 #[.pointer (some ⟨p, 0, none⟩)] w fun _ w' => ∃ v', aA w0 w' (cO p (.cells #[v', .int .i64 (base + oM hl most), .int .i64 most] 176 (0, 0)) • Row 84 2 v' (hl.drop (oM hl most)).length ((hl.drop (oM hl most)).flatMap iM) • F) := by
 refine iw func124 ntmps124 ?_
 dsimp only [aZ, Nat.reduceAdd]
 refine ay ?_
 have OW := H.drew
 have tC := aA.kp (OW.f2.f2)
 refine vJ [4, 10] tC rfl (fU 0 rfl tC rfl (iZ 1 rfl tC rfl (dU 2 rfl tC 0 underlying176 rfl sizeOf174 rfl (dU 3 rfl tC 0 underlying174 rfl sizeOf24 rfl (gG 4 rfl tC (fun W hW => iF underlying24 rfl ((Kp.h hW)).get.2 rfl) (gZ 5 rfl tC (fun _ => eY ((OW.f2).aJ) underlying24 rfl) (fU 6 rfl tC rfl (iZ 7 rfl tC rfl (dU 8 rfl tC 0 underlying176 rfl sizeOf174 rfl (dU 9 rfl tC 2 underlying174 rfl sizeOf3 rfl (gG 10 rfl tC (fun W hW => iF underlying3 rfl ((Kp.h hW)).get.2 rfl) (gZ 11 rfl tC (fun _ => je rfl rfl (by omega)) (gZ 12 rfl tC (fun _ => eX rfl) (mD (aj (ay (ah (aP rfl (aU (gU rfl rfl) (aB (aj (aO rfl (fun h1 => ?_) (fun h1 => ?_)))))))))))))))))))))))
 ·(try simp only [aG] at h1)
  have hk : (oM hl most : Int) = (hl.length : Int) - most := by have h9 := h1; unfold oM; omega
  refine ay (ah (aP rfl (aP rfl (bT rfl (bf 0 underlying176 rfl sizeOf174 rfl (bf 0 underlying174 rfl sizeOf24 rfl (dA underlying24 rfl (OW).get.2 rfl (aP rfl (aU (uH ((OW.f2).aJ) underlying24 sizeOf84 rfl rfl rfl (by omega)) (dD rfl func104 (vZ (hl := hl.drop (oM hl most)) OW (fun W HW => by rw [show ((hl.length : Int) - most).toNat = oM hl most from by omega, show ((hl.length : Nat) : Int).toNat = hl.length from by omega]; exact Ux HW.f2.aJ (by unfold oM; omega)) (by rw [List.length_drop]; unfold oM; omega)) ?_))))))))))
  rintro u1 w1 H1
  refine bT rfl (bf 0 underlying176 rfl sizeOf174 rfl (bf 0 underlying174 rfl sizeOf24 rfl (aI (aS 0 (l' := [_, _, _]) H1.f2 sizeOf24 rfl rfl (by first | rfl | exact Rd.one ((H1).aJ)) rfl rfl) ?_)))
  rintro _ w2 H2
  refine aB (aj (ah (aP rfl (bT rfl (bf 0 underlying176 rfl sizeOf174 rfl (bf 1 underlying174 rfl sizeOf2 rfl (dA underlying2 rfl (H2).get.2 rfl (aP rfl (aU (dR rfl rfl (by omega)) (bT rfl (bf 0 underlying176 rfl sizeOf174 rfl (bf 1 underlying174 rfl sizeOf2 rfl (aI (aS 1 (l' := [_, _, _]) H2 sizeOf2 rfl rfl (by first | rfl | assumption) rfl rfl) ?_)))))))))))))
  rintro _ w3 H3
  refine aB (gq (.inr rfl) results124 ?_)
  exact ⟨_, by rw [hk]; exact H3.f3.right.f2.f2⟩
 ·(try simp only [aG] at h1)
  have hk : oM hl most = 0 := by have h9 := h1; unfold oM; omega
  refine aQ (gq (.inr rfl) results124 ?_)
  exact ⟨_, by rw [hk]; simpa using OW⟩
theorem Ya {hl l : List lg} {base most : Int} (h : Wi hl base most) (hb : hl.length + l.length ≤ 5864062014805) (hm : qX l = 0) (hbase : base ≤ 1152921504606846976) : Wi ((hl ++ l).drop (oM (hl ++ l) most)) (base + oM (hl ++ l) most) most := by
  obtain ⟨h1, h2, h3, h4, h5, h6⟩ := h
  have hl1 : (hl ++ l).length = hl.length + l.length := List.length_append
  refine ⟨?_, ?_, ?_, ?_, h5, fun x hx => ?_⟩
  · rw [List.length_drop]; unfold oM; omega
  · omega
  · unfold oM; omega
  · rw [List.length_drop]; unfold oM; omega
  · rcases List.mem_append.1 (List.mem_of_mem_drop hx) with c | c
    · exact h6 x c
    · exact QS hm x c
def lT (hl : List lg) (most : Int) (l : List lg) : List lg := if qX l = 0 then (hl ++ l).drop (oM (hl ++ l) most) else hl
def QT (hl : List lg) (base most : Int) (l : List lg) : Int := if qX l = 0 then base + oM (hl ++ l) most else base
theorem zK (H : aA w0 w (dn p hl base most • F)) (hv : Aq w0 F 2 v l.length (l.flatMap iM)) (hb : hl.length + l.length ≤ 5864062014805) (hbase : base ≤ 1152921504606846976) :
  fQ prog 76 #[.pointer (some ⟨p, 0, none⟩), v] w fun v' w' => v' = .int .i64 (qX l) ∧ aA w0 w' (dn p (lT hl most l) (QT hl base most l) most • F) := by
 refine iw func76 ntmps76 ?_
 dsimp only [aZ, Nat.reduceAdd]
 refine ay (ah (aW rfl (aB (aj (ay (ay (ah (aP rfl (dD rfl func103 (pJ H) ?_)))))))))
 rintro _ _ ⟨rfl, rfl⟩
 refine aB (aj (pW (aQ (aj (ay (ay (ah (aP rfl (dD rfl func123 (G6 H (fun W HW => hv _ (HW.right)) (by omega)) ?_)))))))))
 rintro _ w2 ⟨rfl, H2⟩
 refine aW rfl (aB (aj (ay (ah (aP rfl (aU (dG rfl rfl) (aB (aj (aO rfl (fun h1 => ?_) (fun h1 => ?_))))))))))
 ·(try simp only [aG] at h1)
  have hm := h1
  refine ay (ah (aP rfl (aW rfl (aB (aj (aN (aK (aT (.inl rfl) results76 rfl ?_))))))))
  exact ⟨rfl, by unfold lT QT; rw [if_neg hm, if_neg hm]; exact H2⟩
 ·(try simp only [aG] at h1)
  have hm : qX l = 0 := h1
  refine aQ (aj (ay ?_))
  obtain ⟨QL, uT, wo⟩ := (H2).hist
  have hkl := uT.1
  have hon := @Nz l
  refine ah (aP rfl (aP rfl (bT rfl (bf 0 underlying176 rfl sizeOf174 rfl (bf 0 underlying174 rfl sizeOf24 rfl (dA underlying24 rfl (wo).get.2 rfl (aP rfl (gB (fK wo.f2 underlying24 (show (prog.info? 84).map (fun i => (i.zero, i.size, i.bytes)) = some (some (.agg #[.string .empty, .int .i64 0]), 2, 24) by kernel_rfl) rfl rfl rfl (hv _ (wo.right.right)) (by assumption) (by omega) (by omega)) ?_))))))))
  rintro l4 w4 H4
  refine bT rfl (bf 0 underlying176 rfl sizeOf174 rfl (bf 0 underlying174 rfl sizeOf24 rfl (aI (aS 0 (l' := [_, _, _]) H4.f2 sizeOf24 rfl rfl (by first | rfl | exact Rd.one ((H4).aJ)) rfl rfl) ?_)))
  rintro _ w5 H5
  refine aB (aj (ay (ah (aP rfl (dD rfl func124 (AU (hl := hl ++ l) (by rw [List.flatMap_append, List.length_append]; exact H5.f2.f2) ⟨by have := uT.2.2.2.1; omega, uT.2.2.2.2.1⟩ ⟨uT.2.1, by omega⟩ (by have := uT.1; rw [List.length_append]; omega)) ?_)))))
  rintro _ w6 ⟨v2, H6⟩
  refine aB (aj (ay (ah (aW rfl (aB (aj (aN (aT (.inl rfl) results76 rfl ?_))))))))
  exact ⟨by rw [hm], by unfold lT QT; rw [if_pos hm, if_pos hm]; exact aA.qW (Ya uT hb hm hbase) H6⟩
theorem Fz {n : Int} (H : aA w0 w F) (hn : 0 ≤ n ∧ n ≤ 4096) (hv : Aq w0 F 2 v l.length (l.flatMap iM)) (hb : l.length ≤ 5864062014805) (hm : qX l ≠ 0) : fQ prog 33 #[.int .i64 n, v] w fun v' w' =>
  v' = .tuple #[.pointer none, .int .i64 (qX l)] ∧ aA w0 w' F := by
 refine iw func33 ntmps33 ?_
 dsimp only [aZ, Nat.reduceAdd]
 refine ay (ah (aW rfl (aW rfl (aB (aj (ay (ah (aP rfl (dD rfl func75 (zJ H (by omega)) ?_)))))))))
 rintro _ w1 ⟨p1, rfl, H1⟩
 refine aP rfl (wQ rfl rfl (wQ rfl rfl (aW rfl (aW rfl (aB (aj (ay (ay (ah (aP rfl (aU (dG rfl rfl) (aB (aj (aO rfl (fun h => by exfalso; (try simp only [aG] at h); simp at h) (fun h1 => ?_)))))))))))))))
 (try simp only [aG] at h1)
 refine aQ (aj (ay (ay (ah (aP rfl (aP rfl (dD rfl func76 (zK H1 hv (by simp; omega) (by decide)) ?_)))))))
 rintro _ w2 ⟨rfl, H2⟩
 refine aW rfl (aB (aj (ay (ah (aP rfl (aU (dG rfl rfl) (aB (aj (aO rfl (fun h2 => ?_) (fun h => by exfalso; (try simp only [aG] at h); exact hm h))))))))))
 (try simp only [aG] at h2)
 refine ay (ah (aP rfl (aW rfl (aW rfl (aB (aj (aN (aK (gQ (.inl rfl) results33 rfl rfl ?_)))))))))
 exact ⟨rfl, H2.right⟩
theorem xk {n : Int} (H : aA w0 w F) (hn : 0 ≤ n ∧ n ≤ 4096) (hv : Aq w0 F 2 v l.length (l.flatMap iM)) (hb : l.length ≤ 5864062014805) (hm : qX l = 0) : fQ prog 33 #[.int .i64 n, v] w fun v' w' =>
  ∃ p, v' = .tuple #[.pointer (some ⟨p, 0, none⟩), .int .i64 0] ∧ aA w0 w' (dn p (lT [] n l) (QT [] 1 n l) n • F) := by
 refine iw func33 ntmps33 ?_
 dsimp only [aZ, Nat.reduceAdd]
 refine ay (ah (aW rfl (aW rfl (aB (aj (ay (ah (aP rfl (dD rfl func75 (zJ H (by omega)) ?_)))))))))
 rintro _ w1 ⟨p1, rfl, H1⟩
 refine aP rfl (wQ rfl rfl (wQ rfl rfl (aW rfl (aW rfl (aB (aj (ay (ay (ah (aP rfl (aU (dG rfl rfl) (aB (aj (aO rfl (fun h => by exfalso; (try simp only [aG] at h); simp at h) (fun h1 => ?_)))))))))))))))
 (try simp only [aG] at h1)
 refine aQ (aj (ay (ay (ah (aP rfl (aP rfl (dD rfl func76 (zK H1 hv (by simp; omega) (by decide)) ?_)))))))
 rintro _ w2 ⟨rfl, H2⟩
 refine aW rfl (aB (aj (ay (ah (aP rfl (aU (dG rfl rfl) (aB (aj (aO rfl (fun h => by exfalso; (try simp only [aG] at h); exact h hm) (fun h2 => ?_))))))))))
 (try simp only [aG] at h2)
 refine aQ (aj (ay (ah (aP rfl (aW rfl (aW rfl (aB (aj (aN (gQ (.inl rfl) results33 rfl rfl ?_))))))))))
 exact ⟨_, rfl, H2⟩
end
def F9 (l : List lg) : List lg := lT [] 4096 l
def Gf (l : List lg) : Int := QT [] 1 4096 l
end Go.Proofs.YtddekefihgejoaaGreatDoor
end
section
set_option maxRecDepth 100000
namespace Go.Proofs.YtddekefihgejoaaGreatDoor
open Go.ChangeShapes Go.WideShapes Go.ChangeAt Go.RowKit
theorem Uy {H : Type} {enc : TypeId × Value → H} {W : World} {B : Nat} {cs : List Value} (h : vV B enc Tryz.prog W 84 cs) : ∃ x0 x1, cs = [.string x0, .int .i64 x1] ∧ x0.size ≤ B ∧ (Lit.int .i64 x1).wf = true := by
  obtain ⟨hl, hf⟩ := h.struct Tryz.underlying84
  rw [show Tryz.prog.cellsOf 84 = 2 from by kernel_rfl] at hl
  match cs, hl with
  | [c0, c1], _ =>
    have h0 : vV B enc Tryz.prog W 9 (([c0, c1].drop 0).take (Tryz.prog.cellsOf 9)) := hf 0 _ rfl
    rw [show Tryz.prog.cellsOf 9 = 1 from by kernel_rfl] at h0
    obtain ⟨x0, e0, w0⟩ := h0.string Tryz.underlying9
    have h1 : vV B enc Tryz.prog W 2 (([c0, c1].drop 1).take (Tryz.prog.cellsOf 2)) := hf 1 _ rfl
    rw [show Tryz.prog.cellsOf 2 = 1 from by kernel_rfl] at h1
    obtain ⟨x1, e1, w1⟩ := h1.int Tryz.underlying2
    simp only [List.drop, List.take, List.cons.injEq, and_true] at e0 e1
    exact ⟨x0, x1, by simp_all, w0, w1⟩
theorem LP {H : Type} {enc : TypeId × Value → H} {W : World} {B n : Nat} {xs : List Value} (hx : xs.length = n * 2) (h : ∀ k, k < n → vV B enc Tryz.prog W 84 ((xs.drop (k * 2)).take 2)) :
    ∃ l : List lg, l.length = n ∧ xs = l.flatMap iM := by
  obtain ⟨l, h1, h2, -⟩ := Us (enc := iM) (p := fun _ => True) hx (fun k hk => by
    obtain ⟨x0, x1, e, -⟩ := Uy (h k hk)
    exact ⟨(x0, x1), e, trivial⟩)
  exact ⟨l, h1, h2⟩
theorem aah {l : List Int} (h : ∀ n ∈ l, (Lit.int .i32 n).wf = true) : ∀ n ∈ l, -2147483648 ≤ n ∧ n < 2147483648 := fun n hn => by
  have h := h n hn
  simp [Lit.wf, IntKind.min, IntKind.max, IntKind.signed, IntKind.bits] at h
  omega
end Go.Proofs.YtddekefihgejoaaGreatDoor
end
section
namespace Go.Proofs.YtddekefihgejoaaGreatDoor
open Go.RowKit
open _root_.Go.Proofs.Tryz
theorem Ju {s i j : Nat} {v : Value} (h : v.oneCell' = true) : (nV s i j v).oneCell' = true := by cases v <;> simp_all [nV, Value.oneCell']
def dX (v : Value) (f t pt mk : Int) : Array Value := #[.bool true, v, .int .i64 f, .int .i64 t, .int .i64 pt, .int .i64 mk]
theorem Uz {a b : Value} (h : a.oneCell' = true) (k : b.oneCell' = true) : ∀ u ∈ [a, b], u.oneCell' = true := by
  intro u hu; simp at hu; rcases hu with rfl | rfl
  · exact h
  · exact k
section
variable {v u : Value} {f t pt mk x : Int}
theorem jc : (dX v f t pt mk).size = 6 := rfl
theorem OX : (dX v f t pt mk).setIfInBounds 1 u = dX u f t pt mk := rfl
theorem wu : (dX v f t pt mk).setIfInBounds 2 (.int .i64 x) = dX v x t pt mk := rfl
theorem yQ : (dX v f t pt mk).setIfInBounds 3 (.int .i64 x) = dX v f x pt mk := rfl
theorem ug : (dX v f t pt mk).setIfInBounds 4 (.int .i64 x) = dX v f t x mk := rfl
theorem lF : (dX v f t pt mk).setIfInBounds 5 (.int .i64 x) = dX v f t pt x := rfl
end
def dQ (p : Nat) (L : List Int) (pt mk : Int) : HP := qC fun (x : Value × List Int × Nat × Nat) =>
  fact (x.2.2.1 ≤ x.2.2.2 ∧ x.2.2.2 ≤ x.2.1.length ∧ L = x.2.1.take x.2.2.1 ++ x.2.1.drop x.2.2.2 ∧ L.length ≤ 1024 ∧ x.2.1.length ≤ 4096 ∧ (0 ≤ pt ∧ pt ≤ L.length) ∧ (-1 ≤ mk ∧ mk ≤ L.length)) •
    cO p (.cells (dX x.1 x.2.2.1 x.2.2.2 pt mk) 208 (0, 0)) • gW 21 .i32 x.1 x.2.1
section
variable {w0 w : World} {F : HP} {p : Nat} {L : List Int} {pt mk : Int}
theorem aA.buf (H : aA w0 w (dQ p L pt mk • F)) : ∃ (a : Option Addr) (c : Nat) (xs : List Int) (f t : Nat), f ≤ t ∧ t ≤ xs.length ∧ L = xs.take f ++ xs.drop t ∧ L.length ≤ 1024 ∧ xs.length ≤ 4096 ∧ (0 ≤ pt ∧ pt ≤ L.length) ∧ (-1 ≤ mk ∧ mk ≤ L.length) ∧ xs.length ≤ c ∧ (c : Int) ≤ 9223372036854775807 ∧ L.length + t = xs.length + f ∧
    aA w0 w (cO p (.cells (dX (.slice a xs.length c) f t pt mk) 208 (0, 0)) • gW 21 .i32 (.slice a xs.length c) xs • F) := by
  obtain ⟨⟨v, xs, f, t⟩, H⟩ := H.kU
  obtain ⟨⟨h1, h2, h3, h4, h5, h6, h7⟩, H⟩ := H.flat.fact
  have H := H.flat
  obtain ⟨a, c, hv, hc1, hc2, _⟩ := (H.swap.aJ).form
  dsimp only at *
  subst hv
  refine ⟨a, c, xs, f, t, h1, h2, h3, h4, h5, h6, h7, hc1, hc2, ?_, H⟩
  rw [h3]; simp; omega
theorem aA.kP {v : Value} {xs : List Int} {f t : Nat} (h1 : f ≤ t) (h2 : t ≤ xs.length) (h3 : L = xs.take f ++ xs.drop t) (h4 : L.length ≤ 1024) (h5 : xs.length ≤ 4096) (h6 : 0 ≤ pt ∧ pt ≤ L.length) (h7 : -1 ≤ mk ∧ mk ≤ L.length)
    (H : aA w0 w (cO p (.cells (dX v f t pt mk) 208 (0, 0)) • gW 21 .i32 v xs • F)) : aA w0 w (dQ p L pt mk • F) :=
  aA.gY (v, xs, f, t) (aA.deep (aA.jU ⟨h1, h2, h3, h4, h5, h6, h7⟩ (aA.deep H)))
theorem oh (t : TypeId) {cs : Array Value} {fr : Nat × Nat} {m : Bool} (hb : w.heap[p]? = some (.cells cs t fr)) (h0 : cs[0]? = some (.bool m)) :
  fQ prog 139 #[.pointer (some ⟨p, 0, none⟩)] w fun v w' => v = .bool (!m) ∧ w = w' := by
 refine iw func139 ntmps139 ?_
 dsimp only [aZ, Nat.reduceAdd]
 refine ay (ah (aW rfl (aB (aj (ay (ah (aP rfl (aU (fO underlying59 rfl rfl) (jL rfl (fun h => by exfalso; (try simp only [aG] at h); simp at h) (fun h1 => ?_))))))))))
 (try simp only [aG] at h1)
 refine bn (aP rfl (bn (bT rfl (bn (bf 0 underlying208 rfl sizeOf4 rfl (bn (dA underlying4 rfl hb h0 (bn (aU (jT rfl) (jd rfl rfl (aW rfl (aB (aj (aN (aT (.inl rfl) results139 rfl ?_)))))))))))))))
 exact ⟨rfl, rfl⟩
theorem tH (H : aA w0 w (dQ p L pt mk • F)) : fQ prog 140 #[.pointer (some ⟨p, 0, none⟩)] w fun v w' => v = .int .i64 L.length ∧ lS w w' := by
 obtain ⟨a, c, xs, f, t, h1, h2, h3, h4, h5, h6, h7, hc1, hc2, hl, H1⟩ := H.buf
 have hb := H1.get.2
 refine iw func140 ntmps140 ?_
 dsimp only [aZ, Nat.reduceAdd]
 refine ay (ah (aW rfl (aB (aj (ay (ay (ah (aP rfl (dD rfl func139 (oh _ hb rfl) ?_)))))))))
 rintro _ _ ⟨rfl, rfl⟩
 refine aB (aj (pW (aQ (aj (ay ?_)))))
 refine kX (n := 16) [0, 1, 2, 3, 4, 5, 6, 7, 8, 9, 10, 11, 12, 13, 14, 15] (fun W => W.heap = w.heap) (by kernel_rfl) (by kernel_rfl) rfl ?_
 have hS0 : (fun W => W.heap = w.heap) (w.drew) := rfl
 have H3d := H1.drew
 refine fU 0 rfl hS0 rfl (iZ 1 rfl hS0 rfl (dU 2 rfl hS0 1 underlying208 rfl sizeOf23 rfl ?_))
 refine gG 3 rfl hS0 (fun W hW => iF underlying23 rfl (by rw [hW]; exact hb) rfl) ?_
 refine gZ 4 rfl hS0 (fun _ => iU underlying23 rfl) (fU 5 rfl hS0 rfl (iZ 6 rfl hS0 rfl (dU 7 rfl hS0 3 underlying208 rfl sizeOf3 rfl ?_)))
 refine gG 8 rfl hS0 (fun W hW => iF underlying3 rfl (by rw [hW]; exact hb) rfl) ?_
 refine fU 9 rfl hS0 rfl (iZ 10 rfl hS0 rfl (dU 11 rfl hS0 2 underlying208 rfl sizeOf3 rfl ?_))
 refine gG 12 rfl hS0 (fun W hW => iF underlying3 rfl (by rw [hW]; exact hb) rfl) ?_
 refine gZ 13 rfl hS0 (fun _ => je rfl rfl (by omega)) (gZ 14 rfl hS0 (fun _ => je rfl rfl (by omega)) (gZ 15 rfl hS0 (fun _ => eX rfl) (mD (aj (aN (aT (.inl rfl) results140 rfl ?_))))))
 exact ⟨by congr 1; omega, lS.refl _ |>.drew⟩
theorem uh (H : aA w0 w (dQ p L pt mk • F)) : fQ prog 89 #[.pointer (some ⟨p, 0, none⟩)] w fun v w' => v = .int .i64 pt ∧ w = w' := by
 obtain ⟨a, c, xs, f, t, h1, h2, h3, h4, h5, h6, h7, hc1, hc2, hl, H1⟩ := H.buf
 have hb := H1.get.2
 refine iw func89 ntmps89 ?_
 dsimp only [aZ, Nat.reduceAdd]
 refine ay (ah (aW rfl (aB (aj (ay (ay (ah (aP rfl (dD rfl func139 (oh _ hb rfl) ?_)))))))))
 rintro _ _ ⟨rfl, rfl⟩
 refine aB (aj (pW (aQ (aj (ay (ah (aP rfl (bT rfl (bf 4 underlying208 rfl sizeOf3 rfl (dA underlying3 rfl hb rfl (aW rfl (aB (aj (aN (aT (.inl rfl) results89 rfl ?_)))))))))))))))
 exact ⟨rfl, rfl⟩
theorem G9 (H : aA w0 w (dQ p L pt mk • F)) : fQ prog 122 #[.pointer (some ⟨p, 0, none⟩)] w fun v w' => v = .int .i64 mk ∧ w = w' := by
 obtain ⟨a, c, xs, f, t, h1, h2, h3, h4, h5, h6, h7, hc1, hc2, hl, H1⟩ := H.buf
 have hb := H1.get.2
 refine iw func122 ntmps122 ?_
 dsimp only [aZ, Nat.reduceAdd]
 refine ay (ah (aW rfl (aB (aj (ay (ay (ah (aP rfl (dD rfl func139 (oh _ hb rfl) ?_)))))))))
 rintro _ _ ⟨rfl, rfl⟩
 refine aB (aj (pW (aQ (aj (ay (ah (aP rfl (bT rfl (bf 5 underlying208 rfl sizeOf3 rfl (dA underlying3 rfl hb rfl (aW rfl (aB (aj (aN (aT (.inl rfl) results122 rfl ?_)))))))))))))))
 exact ⟨rfl, rfl⟩
theorem oq (H : aA w0 w (dQ p L pt mk • F)) : fQ prog 121 #[.pointer (some ⟨p, 0, none⟩)] w fun v w' => aA w0 w' (gW 21 .i32 v L • dQ p L pt mk • F) := by
 obtain ⟨a, c, xs, f, t, h1, h2, h3, h4, h5, h6, h7, hc1, hc2, hl, H1⟩ := H.buf
 have hb := H1.get.2
 refine iw func121 ntmps121 ?_
 dsimp only [aZ, Nat.reduceAdd]
 refine ay (ah (aW rfl (aB (aj (ay (ay (ah (aP rfl (dD rfl func139 (oh _ hb rfl) ?_)))))))))
 rintro _ _ ⟨rfl, rfl⟩
 refine aB (aj (pW (aQ (aj (ay ?_)))))
 refine kX (n := 21) [0, 1, 2, 3, 4, 5, 6, 7, 8, 9, 10, 11, 12, 13, 14, 15, 16, 17, 18, 19, 20] (fun W => W.heap[p]? = some (.cells (dX (.slice a xs.length c) f t pt mk) 208 (0, 0))) (by kernel_rfl) (by kernel_rfl) rfl ?_
 have hS0 : (fun W => W.heap[p]? = some (.cells (dX (.slice a xs.length c) f t pt mk) 208 (0, 0))) (w.drew) := hb
 have H3d := H1.drew
 refine fU 0 rfl hS0 rfl (iZ 1 rfl hS0 rfl (dU 2 rfl hS0 1 underlying208 rfl sizeOf23 rfl (gG 3 rfl hS0 (fun W hW => iF underlying23 rfl hW rfl) (fU 4 rfl hS0 rfl (iZ 5 rfl hS0 rfl (dU 6 rfl hS0 2 underlying208 rfl sizeOf3 rfl (gG 7 rfl hS0 (fun W hW => iF underlying3 rfl hW rfl) (gZ 8 rfl hS0 (fun _ => pG underlying23 sizeOf21 rfl rfl rfl (by omega)) (fU 9 rfl hS0 rfl (iZ 10 rfl hS0 rfl (dU 11 rfl hS0 1 underlying208 rfl sizeOf23 rfl (gG 12 rfl hS0 (fun W hW => iF underlying23 rfl hW rfl) (fU 13 rfl hS0 rfl (iZ 14 rfl hS0 rfl (dU 15 rfl hS0 3 underlying208 rfl sizeOf3 rfl (gG 16 rfl hS0 (fun W hW => iF underlying3 rfl hW rfl) (gZ 17 rfl hS0 (fun _ => pG underlying23 sizeOf21 rfl rfl rfl (by omega)) (jm 18 rfl (Vo (vs := [nV 1 0 f (.slice a xs.length c), nV 1 t xs.length (.slice a xs.length c)]) H3d underlying22 sizeOf23 zeroValue23 rfl rfl rfl (by decide) (Uz (Ju rfl) (Ju rfl))) ?_))))))))))))))))))
 rintro _ w2 ⟨b2, rfl, H2⟩
 have hS2 : (fun W => W.heap[p]? = some (.cells (dX (.slice a xs.length c) f t pt mk) 208 (0, 0))) w2 := H2.swap.get.2
 refine Vm hS2 ?_
 refine jm 19 rfl (rX rfl func62 (Jl (l1 := xs.take f) (l2 := xs.drop t) H2 (fun W HW => iI.upto HW.IY.aJ (by omega)) (fun W HW => iI.from HW.IY.aJ (by omega)) (by simp; omega))) ?_
 rintro u w3 H3
 have hS3 : (fun W => W.heap[p]? = some (.cells (dX (.slice a xs.length c) f t pt mk) 208 (0, 0))) w3 := H3.IY.get.2
 refine Vm hS3 ?_
 refine gZ 20 rfl hS3 (fun _ => eX rfl) (mD (aj (aN (aT (.inl rfl) results121 rfl ?_))))
 rw [← h3] at H3
 exact (aA.kP h1 h2 h3 h4 h5 h6 h7 H3.swap.right.d3).swap
theorem BK {v : Value} {l : List Int} (H : aA w0 w F) (hr : gV w0 F .i32 v l) (hl : l.length ≤ 1024) : fQ prog 87 #[v] w fun v' w' => ∃ p, v' = .tuple #[.pointer (some ⟨p, 0, none⟩), .int .i64 0] ∧ aA w0 w' (dQ p l l.length (-1) • F) := by
 obtain ⟨a, c, rfl, _, _, _⟩ := (hr w H).open
 refine iw func87 ntmps87 ?_
 dsimp only [aZ, Nat.reduceAdd]
 refine ay (ah (aW rfl (aW rfl (aB (aj (ay (ay (ah (aP rfl (aU (iU underlying23 rfl) (aU (gU rfl rfl) (aB (aj (aO rfl (fun h => by exfalso; (try simp only [aG] at h); first | contradiction | omega | (simp at h <;> omega)) (fun h1 => ?_)))))))))))))))
 (try simp only [aG] at h1)
 refine aQ (aj (ay (ah (aP rfl (dD rfl func59 (kH H hr (by omega)) ?_)))))
 rintro u w1 H1
 obtain ⟨au, cu, hu, _⟩ := (H1.aJ).form
 subst hu
 refine aP rfl (aU (iU underlying23 rfl) (aU (fJ (pl := #[(0, 1), (1, 1), (2, 1), (3, 1), (4, 1), (5, 1)]) (dX (.slice au l.length cu) 0 0 l.length (-1)) underlying208 zeroValue208 (fun w => by kernel_rfl) rfl (by kernel_rfl)) (gB (I9 H1 rfl) ?_)))
 rintro _ w2 ⟨b2, rfl, H2⟩
 refine aW rfl (aB (aj (ay ?_)))
 have HB : aA w0 w2 (cO b2 (.cells (dX (.slice au l.length cu) 0 0 l.length (-1)) 208 (0, 0)) • gW 21 .i32 (.slice au l.length cu) l • F) := H2
 refine ah (aP rfl (aP rfl (aP rfl (aU (iU underlying23 rfl) (aP rfl (aU (iU underlying23 rfl) (bT rfl (bf 2 underlying208 rfl sizeOf3 rfl (aI (fH HB sizeOf3 rfl rfl rfl (by rw [jc]; decide)) ?_)))))))))
 rintro _ w3 HB1
 rw [wu] at HB1
 refine bT rfl (bf 3 underlying208 rfl sizeOf3 rfl (aI (fH HB1 sizeOf3 rfl rfl rfl (by rw [jc]; decide)) ?_))
 rintro _ w4 HB2
 rw [yQ] at HB2
 refine aB (aj (ay (ah (aP rfl (aW rfl (aW rfl (aB (aj (aN (gQ (.inl rfl) results87 rfl rfl ?_))))))))))
 exact ⟨_, rfl, aA.kP (f := l.length) (t := l.length) (Nat.le_refl _) (Nat.le_refl _) (by simp) hl (by omega) (by omega) (by omega) HB2⟩
end
end Go.Proofs.YtddekefihgejoaaGreatDoor
end
section
namespace Go.Proofs.YtddekefihgejoaaGreatDoor
open Go.RowKit
open _root_.Go.Proofs.Tryz
def fF (L : List Int) (i r : Nat) : List Int := dP (dP (List.replicate (L.length + r + 16) 0) 0 (L.take i)) (i + r + 16) (L.drop i)
theorem LQ {L : List Int} {i r : Nat} (h : i ≤ L.length) : (fF L i r).length = L.length + r + 16 := by
  unfold fF
  rw [bP, bP] <;> simp [bP] <;> first | omega | (rw [bP] <;> simp <;> omega)
theorem BL {l ys : List Int} {i : Nat} (h : i + ys.length ≤ l.length) : (dP l i ys).take (i + ys.length) = l.take i ++ ys := by
  unfold dP
  rw [List.take_append_of_le_length (by simp; omega), List.take_of_length_le (by simp; omega)]
theorem Jv {l ys : List Int} {i j : Nat} (h : i + ys.length ≤ j) (h2 : j ≤ l.length) : (dP l i ys).drop j = l.drop j := by
  unfold dP
  rw [List.drop_append, List.drop_eq_nil_of_le (by simp; omega), List.nil_append, List.drop_drop]
  congr 1
  simp
  omega
theorem D9 {l ys : List Int} {i j : Nat} (h : j ≤ i) (h2 : i ≤ l.length) : (dP l i ys).take j = l.take j := by
  unfold dP
  rw [List.append_assoc, List.take_append_of_le_length (by simp; omega), List.take_take, Nat.min_eq_left h]
theorem Ea {l ys : List Int} {i : Nat} (h : i + ys.length = l.length) : (dP l i ys).drop i = ys := by
  unfold dP
  rw [List.append_assoc, List.drop_append, List.drop_eq_nil_of_le (by simp; omega), List.nil_append]
  simp [show i - min i l.length = 0 from by omega, show l.length ≤ i + ys.length from by omega]
theorem Jw {L : List Int} {i r : Nat} (h : i ≤ L.length) : (fF L i r).take i = L.take i := by
  have h1 : (dP (List.replicate (L.length + r + 16) (0 : Int)) 0 (L.take i)).length = L.length + r + 16 := by rw [bP] <;> simp; omega
  unfold fF
  rw [D9 (by omega) (by rw [h1]; omega)]
  have := BL (l := List.replicate (L.length + r + 16) (0 : Int)) (ys := L.take i) (i := 0) (by simp; omega)
  rw [show 0 + (L.take i).length = i from by simp; omega] at this
  simpa using this
theorem Jy {L : List Int} {i r : Nat} (h : i ≤ L.length) : (fF L i r).drop (i + r + 16) = L.drop i := by
  have h1 : (dP (List.replicate (L.length + r + 16) (0 : Int)) 0 (L.take i)).length = L.length + r + 16 := by rw [bP] <;> simp; omega
  exact Ea (by rw [h1]; simp; omega)
section
variable {w0 w : World} {F : HP} {p : Nat} {L : List Int} {pt mk : Int}
theorem He {i r : Nat} (H : aA w0 w (dQ p L pt mk • F)) (hi : i ≤ L.length) (hr : r ≤ 1024) :
  fQ prog 171 #[.pointer (some ⟨p, 0, none⟩), .int .i64 i, .int .i64 r] w fun _ w' => ∃ v, aA w0 w' (cO p (.cells (dX v i (i + r + 16 : Nat) pt mk) 208 (0, 0)) • gW 21 .i32 v (fF L i r) • F) := by
 have hL4 : L.length ≤ 1024 := by obtain ⟨a, c, xs, f, t, h1, h2, h3, h4, h5, h6, h7, hc1, hc2, hl, H1⟩ := H.buf; exact h4
 have e1 : ((L.length : Int) + r + 16).toNat = L.length + r + 16 := by omega
 refine iw func171 ntmps171 ?_
 dsimp only [aZ, Nat.reduceAdd]
 refine ay (ah (aP rfl (dD rfl func121 (oq H) ?_)))
 rintro u w1 H1
 obtain ⟨au, cu, hu, hcu, acz, _⟩ := (H1.aJ).form
 subst hu
 obtain ⟨a, c, xs, f, t, h1, h2, h3, h4, h5, h6, h7, hc1, hc2, hl, HB⟩ := H1.swap.buf
 refine aW rfl (aB (aj (ay (ah (aP rfl (aP rfl (aU (iU underlying23 rfl) (aP rfl (aU (dR rfl rfl (by omega)) (aU (dR rfl rfl (by omega)) (gB (Je HB underlying23 zC rfl rfl (by omega) (by omega) (by omega)) ?_)))))))))))
 rintro v w2 H2
 rw [e1] at H2
 have hm : (List.replicate (L.length + r + 16) (0 : Int)).length = L.length + r + 16 := by simp
 obtain ⟨av, cv, hv, hcv, hcv2, _⟩ := (H2.aJ).form
 rw [hm] at hv hcv
 subst hv
 refine bT rfl (bf 1 underlying208 rfl sizeOf23 rfl (aI (fH H2.swap sizeOf23 rfl rfl rfl (by rw [jc]; decide)) ?_))
 rintro _ w3 H3
 rw [OX] at H3
 refine aB (aj (ay (ah (aP rfl (aP rfl (bT rfl (bf 2 underlying208 rfl sizeOf3 rfl (aI (fH H3 sizeOf3 rfl rfl rfl (by rw [jc]; decide)) ?_))))))))
 rintro _ w4 H4
 rw [wu] at H4
 refine aB (aj (ay (ah (aP rfl (aP rfl (bT rfl (bf 1 underlying208 rfl sizeOf23 rfl (dA underlying23 rfl H4.get.2 rfl (aU (iU underlying23 rfl) (aP rfl (aU (iU underlying23 rfl) (aP rfl (aU (je rfl rfl (by omega)) (aU (je rfl rfl (by omega)) (bT rfl (bf 3 underlying208 rfl sizeOf3 rfl (aI (fH H4 sizeOf3 rfl rfl rfl (by rw [jc]; decide)) ?_)))))))))))))))))
 rintro _ w5 H5
 rw [yQ, show (((L.length + r + 16 : Nat) : Int) - ((L.length : Int) - (i : Int))) = ((i + r + 16 : Nat) : Int) from by omega] at H5
 have hb3 := H5.get.2
 refine aB (aj (ay ?_))
 refine kX (n := 8) [0, 1, 2, 3, 4, 5, 6, 7] (fun W => W.heap[p]? = some (.cells (dX (.slice av (L.length + r + 16) cv) i (i + r + 16 : Nat) pt mk) 208 (0, 0))) (by kernel_rfl) (by kernel_rfl) rfl ?_
 have hS0 : (fun W => W.heap[p]? = some (.cells (dX (.slice av (L.length + r + 16) cv) i (i + r + 16 : Nat) pt mk) 208 (0, 0))) (w5.drew) := hb3
 have H4d := H5.drew
 refine fU 0 rfl hS0 rfl (iZ 1 rfl hS0 rfl (dU 2 rfl hS0 1 underlying208 rfl sizeOf23 rfl (gG 3 rfl hS0 (fun W hW => iF underlying23 rfl hW rfl) (fU 4 rfl hS0 rfl (fU 5 rfl hS0 rfl (gZ 6 rfl hS0 (fun _ => pG underlying23 sizeOf21 rfl rfl rfl (by omega)) (jm 7 rfl (xg (i := 0) (m := L.take i) H4d.swap (iI.upto H4d.r4.aJ (by omega)) underlying23 (by kernel_rfl) (by rw [hm, LD]; rfl) rfl (by simp; omega)) ?_)))))))
 rintro _ w6 ⟨rfl, H6⟩
 have hm2 : (dP (List.replicate (L.length + r + 16) (0 : Int)) 0 (L.take i)).length = L.length + r + 16 := by rw [bP] <;> simp; omega
 refine Nr (by kernel_rfl) ?_
 refine mD (aj ?_)
 refine kX (n := 13) [0, 1, 2, 3, 4, 5, 6, 7, 8, 9, 10, 11, 12] (fun W => W.heap[p]? = some (.cells (dX (.slice av (L.length + r + 16) cv) i (i + r + 16 : Nat) pt mk) 208 (0, 0))) (by kernel_rfl) (by kernel_rfl) rfl ?_
 have hS0 : (fun W => W.heap[p]? = some (.cells (dX (.slice av (L.length + r + 16) cv) i (i + r + 16 : Nat) pt mk) 208 (0, 0))) (w6.drew) := H6.swap.get.2
 have ZG := H6.drew
 refine fU 0 rfl hS0 rfl (iZ 1 rfl hS0 rfl (dU 2 rfl hS0 1 underlying208 rfl sizeOf23 rfl (gG 3 rfl hS0 (fun W hW => iF underlying23 rfl hW rfl) (fU 4 rfl hS0 rfl (iZ 5 rfl hS0 rfl (dU 6 rfl hS0 3 underlying208 rfl sizeOf3 rfl (gG 7 rfl hS0 (fun W hW => iF underlying3 rfl hW rfl) (gZ 8 rfl hS0 (fun _ => pG underlying23 sizeOf21 rfl rfl rfl (by omega)) (fU 9 rfl hS0 rfl (fU 10 rfl hS0 rfl (gZ 11 rfl hS0 (fun _ => pG underlying23 sizeOf21 rfl rfl rfl (by omega)) (jm 12 rfl (xg (i := i + r + 16) (m := L.drop i) ZG (iI.from ZG.r4.aJ (by omega)) underlying23 (by kernel_rfl) (by rw [hm2]; rfl) rfl (by rw [hm2]; simp; omega)) ?_))))))))))))
 rintro _ w7 ⟨rfl, H7⟩
 refine Nr (by kernel_rfl) ?_
 refine mD (gq (.inr rfl) results171 ?_)
 exact ⟨_, H7.swap.IY.right.IY.right⟩
theorem ou (H : aA w0 w (dQ p L pt mk • F)) : fQ prog 139 #[.pointer (some ⟨p, 0, none⟩)] w fun v w' => v = .bool false ∧ w = w' := by
  obtain ⟨a, c, xs, f, t, h1, h2, h3, h4, h5, h6, h7, hc1, hc2, hl, H1⟩ := H.buf
  exact oh _ H1.get.2 rfl
def bI (pt i j n : Int) : Int := if j < pt then pt + (n - (j - i)) else if i ≤ pt then i + n else pt
def bJ (mk i j n : Int) : Int := if j < mk then mk + (n - (j - i)) else if i < mk then i else mk
def fP (at_ : Int) (d i : Value) : Array Value := #[.int .i64 at_, d, i]
theorem jV {at_ : Int} {d i : Value} (hd : d.oneCell' = true) (hi : i.oneCell' = true) : ∀ v ∈ (fP at_ d i).toList, v.oneCell' = true := by
  intro v hv
  simp [fP] at hv
  rcases hv with rfl | rfl | rfl <;> first | rfl | assumption
variable {v : Value} {l : List Int} {i j : Int}
theorem CV (H : aA w0 w (dQ p L pt mk • F)) (hr : gV w0 F .i32 v l) (hb : i < 0 ∨ L.length < i ∨ j < i ∨ L.length < j) :
  fQ prog 136 #[.pointer (some ⟨p, 0, none⟩), .int .i64 i, .int .i64 j, v] w fun v' w' => v' = .tuple #[.agg (fP 0 (.slice none 0 0) (.slice none 0 0)), .int .i64 70] ∧ aA w0 w' (dQ p L pt mk • F) := by
 obtain ⟨a, c, rfl, _, _, _⟩ := (hr w H.right).open
 refine iw func136 ntmps136 ?_
 dsimp only [aZ, Nat.reduceAdd]
 refine ay (ah (gB (vS H zeroValue202) ?_))
 rintro _ w1 ⟨b1, rfl, H1⟩
 refine aW rfl (aB (aj (ay (ah (aP rfl (dD rfl func140 (tH H1.right) ?_))))))
 rintro _ w2 ⟨rfl, hD⟩
 have HL := H1.wM hD
 refine aW rfl (aB (aj (ay (aY (ay (ah (aP rfl (dD rfl func139 (ou HL.right) ?_))))))))
 rintro _ _ ⟨rfl, rfl⟩
 refine aW rfl (aB (aj (aO rfl (fun h1 => ?_) (fun h1 => ?_))))
 ·(try simp only [aG] at h1)
  try (exfalso; first | contradiction | omega)
  all_goals
   refine ay (ah (aU (fJ (pl := #[(0, 1), (1, 1), (2, 1)]) (_) underlying202 zeroValue202 (fun w => by kernel_rfl) rfl (rfl)) (aI (fH HL sizeOf202 rfl rfl rfl (by decide)) ?_)))
   rintro _ w4 H4
   refine aW rfl (aB (aj (aN (aX (aK ?_)))))
   refine fM (.inl rfl) results136 rfl rfl underlying202 rfl (by rw [show (prog.info? 202).map (·.size) = some 3 from by kernel_rfl]; rfl) H4.get.2 ?_
   exact ⟨rfl, H4.right⟩
 ·(try simp only [aG] at h1)
  try (exfalso; first | contradiction | omega)
  all_goals
   refine ay (ah (aP rfl (aU (dV rfl rfl) (jL rfl (fun h2 => ?_) (fun h2 => ?_)))))
   ·(try simp only [aG] at h2)
    try (exfalso; first | contradiction | omega)
    all_goals
     refine bK (bK (bK (jP rfl rfl (aP rfl (bK (bK (bK (jP rfl rfl (aP rfl (bK (bK (bK (jP rfl rfl (aW rfl (aB (aj (Dj (ay (ah (aU (fJ (pl := #[(0, 1), (1, 1), (2, 1)]) (fP 0 (.slice none 0 0) (.slice none 0 0)) underlying202 zeroValue202 (fun w => by kernel_rfl) rfl (by kernel_rfl)) (aI (dI (cs := fP 0 (.slice none 0 0) (.slice none 0 0)) HL sizeOf202 rfl rfl rfl rfl (jV rfl rfl)) ?_)))))))))))))))))))))
     rintro _ w5 H5
     refine aW rfl (aB (aj (aN (aX (aK ?_)))))
     refine fM (.inl rfl) results136 rfl rfl underlying202 rfl (by rw [show (prog.info? 202).map (·.size) = some 3 from by kernel_rfl]; rfl) H5.get.2 ?_
     exact ⟨rfl, H5.right⟩
   ·(try simp only [aG] at h2)
    try (exfalso; first | contradiction | omega)
    all_goals
     refine bn (aP rfl (bn (aP rfl (bn (aU (gU rfl rfl) (jd rfl rfl (jL rfl (fun h3 => ?_) (fun h3 => ?_))))))))
     ·(try simp only [aG] at h3)
      try (exfalso; first | contradiction | omega)
      all_goals
       refine bK (bK (bK (jP rfl rfl (aP rfl (bK (bK (bK (jP rfl rfl (aW rfl (aB (aj (Dj (ay (ah (aU (fJ (pl := #[(0, 1), (1, 1), (2, 1)]) (fP 0 (.slice none 0 0) (.slice none 0 0)) underlying202 zeroValue202 (fun w => by kernel_rfl) rfl (by kernel_rfl)) (aI (dI (cs := fP 0 (.slice none 0 0) (.slice none 0 0)) HL sizeOf202 rfl rfl rfl rfl (jV rfl rfl)) ?_))))))))))))))))
       rintro _ w6 H6
       refine aW rfl (aB (aj (aN (aX (aK ?_)))))
       refine fM (.inl rfl) results136 rfl rfl underlying202 rfl (by rw [show (prog.info? 202).map (·.size) = some 3 from by kernel_rfl]; rfl) H6.get.2 ?_
       exact ⟨rfl, H6.right⟩
     ·(try simp only [aG] at h3)
      try (exfalso; first | contradiction | omega)
      all_goals
       refine bn (aP rfl (bn (aP rfl (bn (aU (dV rfl rfl) (jd rfl rfl (jL rfl (fun h4 => ?_) (fun h4 => ?_))))))))
       ·(try simp only [aG] at h4)
        try (exfalso; first | contradiction | omega)
        all_goals
         refine bK (bK (bK (jP rfl rfl (aW rfl (aB (aj (Dj (ay (ah (aU (fJ (pl := #[(0, 1), (1, 1), (2, 1)]) (fP 0 (.slice none 0 0) (.slice none 0 0)) underlying202 zeroValue202 (fun w => by kernel_rfl) rfl (by kernel_rfl)) (aI (dI (cs := fP 0 (.slice none 0 0) (.slice none 0 0)) HL sizeOf202 rfl rfl rfl rfl (jV rfl rfl)) ?_)))))))))))
         rintro _ w7 H7
         refine aW rfl (aB (aj (aN (aX (aK ?_)))))
         refine fM (.inl rfl) results136 rfl rfl underlying202 rfl (by rw [show (prog.info? 202).map (·.size) = some 3 from by kernel_rfl]; rfl) H7.get.2 ?_
         exact ⟨rfl, H7.right⟩
       ·(try simp only [aG] at h4)
        try (exfalso; first | contradiction | omega)
        all_goals
         refine bn (aP rfl (bn (aP rfl (bn (aU (gU rfl rfl) (jd rfl rfl (aW rfl (aB (aj (aO rfl (fun h5 => ?_) (fun h => by exfalso; (try simp only [aG] at h); first | contradiction | omega | (simp at h <;> omega))))))))))))
         (try simp only [aG] at h5)
         refine ay (ah (aU (fJ (pl := #[(0, 1), (1, 1), (2, 1)]) (fP 0 (.slice none 0 0) (.slice none 0 0)) underlying202 zeroValue202 (fun w => by kernel_rfl) rfl (by kernel_rfl)) (aI (dI (cs := fP 0 (.slice none 0 0) (.slice none 0 0)) HL sizeOf202 rfl rfl rfl rfl (jV rfl rfl)) ?_)))
         rintro _ w8 H8
         refine aW rfl (aB (aj (aN (aX (aK ?_)))))
         refine fM (.inl rfl) results136 rfl rfl underlying202 rfl (by rw [show (prog.info? 202).map (·.size) = some 3 from by kernel_rfl]; rfl) H8.get.2 ?_
         exact ⟨rfl, H8.right⟩
theorem AV (H : aA w0 w (dQ p L pt mk • F)) (hr : gV w0 F .i32 v l) (hb : 0 ≤ i ∧ i ≤ j ∧ j ≤ L.length) (hl : 1024 < L.length - (j - i) + l.length) :
  fQ prog 136 #[.pointer (some ⟨p, 0, none⟩), .int .i64 i, .int .i64 j, v] w fun v' w' => v' = .tuple #[.agg (fP 0 (.slice none 0 0) (.slice none 0 0)), .int .i64 3] ∧ aA w0 w' (dQ p L pt mk • F) := by
 obtain ⟨a, c, rfl, _, _, _⟩ := (hr w H.right).open
 have hL4 : L.length ≤ 1024 := by obtain ⟨a, c, xs, f, t, h1, h2, h3, h4, h5, h6, h7, hc1, hc2, hl, H1⟩ := H.buf; exact h4
 refine iw func136 ntmps136 ?_
 dsimp only [aZ, Nat.reduceAdd]
 refine ay (ah (gB (vS H zeroValue202) ?_))
 rintro _ w1 ⟨b1, rfl, H1⟩
 refine aW rfl (aB (aj (ay (ah (aP rfl (dD rfl func140 (tH H1.right) ?_))))))
 rintro _ w2 ⟨rfl, hD⟩
 have HL := H1.wM hD
 refine aW rfl (aB (aj (ay (aY (ay (ah (aP rfl (dD rfl func139 (ou HL.right) ?_))))))))
 rintro _ _ ⟨rfl, rfl⟩
 refine aW rfl (aB (aj (aO rfl (fun h1 => ?_) (fun h1 => ?_))))
 ·(try simp only [aG] at h1)
  try (exfalso; first | contradiction | omega)
  all_goals
   refine ay (ah (aU (fJ (pl := #[(0, 1), (1, 1), (2, 1)]) (_) underlying202 zeroValue202 (fun w => by kernel_rfl) rfl (rfl)) (aI (fH HL sizeOf202 rfl rfl rfl (by decide)) ?_)))
   rintro _ w4 H4
   refine aW rfl (aB (aj (aN (aX (aK ?_)))))
   refine fM (.inl rfl) results136 rfl rfl underlying202 rfl (by rw [show (prog.info? 202).map (·.size) = some 3 from by kernel_rfl]; rfl) H4.get.2 ?_
   exact ⟨rfl, H4.right⟩
 ·(try simp only [aG] at h1)
  try (exfalso; first | contradiction | omega)
  all_goals
   refine ay (ah (aP rfl (aU (dV rfl rfl) (jL rfl (fun h2 => ?_) (fun h2 => ?_)))))
   ·(try simp only [aG] at h2)
    try (exfalso; first | contradiction | omega)
    all_goals
     refine bK (bK (bK (jP rfl rfl (aP rfl (bK (bK (bK (jP rfl rfl (aP rfl (bK (bK (bK (jP rfl rfl (aW rfl (aB (aj (Dj (ay (ah (aU (fJ (pl := #[(0, 1), (1, 1), (2, 1)]) (_) underlying202 zeroValue202 (fun w => by kernel_rfl) rfl (rfl)) (aI (fH HL sizeOf202 rfl rfl rfl (by decide)) ?_)))))))))))))))))))))
     rintro _ w5 H5
     refine aW rfl (aB (aj (aN (aX (aK ?_)))))
     refine fM (.inl rfl) results136 rfl rfl underlying202 rfl (by rw [show (prog.info? 202).map (·.size) = some 3 from by kernel_rfl]; rfl) H5.get.2 ?_
     exact ⟨rfl, H5.right⟩
   ·(try simp only [aG] at h2)
    try (exfalso; first | contradiction | omega)
    all_goals
     refine bn (aP rfl (bn (aP rfl (bn (aU (gU rfl rfl) (jd rfl rfl (jL rfl (fun h3 => ?_) (fun h3 => ?_))))))))
     ·(try simp only [aG] at h3)
      try (exfalso; first | contradiction | omega)
      all_goals
       refine bK (bK (bK (jP rfl rfl (aP rfl (bK (bK (bK (jP rfl rfl (aW rfl (aB (aj (Dj (ay (ah (aU (fJ (pl := #[(0, 1), (1, 1), (2, 1)]) (_) underlying202 zeroValue202 (fun w => by kernel_rfl) rfl (rfl)) (aI (fH HL sizeOf202 rfl rfl rfl (by decide)) ?_))))))))))))))))
       rintro _ w6 H6
       refine aW rfl (aB (aj (aN (aX (aK ?_)))))
       refine fM (.inl rfl) results136 rfl rfl underlying202 rfl (by rw [show (prog.info? 202).map (·.size) = some 3 from by kernel_rfl]; rfl) H6.get.2 ?_
       exact ⟨rfl, H6.right⟩
     ·(try simp only [aG] at h3)
      try (exfalso; first | contradiction | omega)
      all_goals
       refine bn (aP rfl (bn (aP rfl (bn (aU (dV rfl rfl) (jd rfl rfl (jL rfl (fun h4 => ?_) (fun h4 => ?_))))))))
       ·(try simp only [aG] at h4)
        try (exfalso; first | contradiction | omega)
        all_goals
         refine bK (bK (bK (jP rfl rfl (aW rfl (aB (aj (Dj (ay (ah (aU (fJ (pl := #[(0, 1), (1, 1), (2, 1)]) (_) underlying202 zeroValue202 (fun w => by kernel_rfl) rfl (rfl)) (aI (fH HL sizeOf202 rfl rfl rfl (by decide)) ?_)))))))))))
         rintro _ w7 H7
         refine aW rfl (aB (aj (aN (aX (aK ?_)))))
         refine fM (.inl rfl) results136 rfl rfl underlying202 rfl (by rw [show (prog.info? 202).map (·.size) = some 3 from by kernel_rfl]; rfl) H7.get.2 ?_
         exact ⟨rfl, H7.right⟩
       ·(try simp only [aG] at h4)
        try (exfalso; first | contradiction | omega)
        all_goals
         refine bn (aP rfl (bn (aP rfl (bn (aU (gU rfl rfl) (jd rfl rfl (aW rfl (aB (aj (aO rfl (fun h => by exfalso; (try simp only [aG] at h); first | contradiction | omega | (simp at h <;> omega)) (fun h5 => ?_)))))))))))
         (try simp only [aG] at h5)
         refine ay (ah (aP rfl (aU (iU underlying23 rfl) (aP rfl (aP rfl (aP rfl (aU (je rfl rfl (by omega)) (aU (je rfl rfl (by omega)) (aU (je rfl rfl (by omega)) (aU (gU rfl rfl) (aW rfl (aB (aj (aO rfl (fun h6 => ?_) (fun h => by exfalso; (try simp only [aG] at h); first | contradiction | omega | (simp at h <;> omega))))))))))))))))
         (try simp only [aG] at h6)
         refine ay (ah (aU (fJ (pl := #[(0, 1), (1, 1), (2, 1)]) (fP 0 (.slice none 0 0) (.slice none 0 0)) underlying202 zeroValue202 (fun w => by kernel_rfl) rfl (by kernel_rfl)) (aI (dI (cs := fP 0 (.slice none 0 0) (.slice none 0 0)) HL sizeOf202 rfl rfl rfl rfl (jV rfl rfl)) ?_)))
         rintro _ w8 H8
         refine aW rfl (aB (aj (aN (aX (aK ?_)))))
         refine fM (.inl rfl) results136 rfl rfl underlying202 rfl (by rw [show (prog.info? 202).map (·.size) = some 3 from by kernel_rfl]; rfl) H8.get.2 ?_
         exact ⟨rfl, H8.right⟩
end
end Go.Proofs.YtddekefihgejoaaGreatDoor
end
