import Derived.Test.YtnhhmieghbfalaaGreatDoorZ4
import Derived.Test.YtnhhmieghbfalaaGreatDoorZ5
import GoSem.PinnedTables
import Derived.Test.YtnhhmieghbfalaaGreatDoorProg
import Derived.Test.YtnhhmieghbfalaaGreatDoorZ3
set_option linter.unusedSimpArgs false
set_option linter.unusedVariables false
/- Texts of mine, joined, their names in short: Utf ELaidU CmdIn Equal Slices LL Flat Undo1 Undo2. -/
section
namespace Go.Proofs.YtnhhmieghbfalaaGreatDoor
open Go.RowKit
open _root_.Go.Proofs.Tryz
def firstM (x : Nat) : Int := ((Go.Pinned.utf8FirstZ.getD x 0 : Nat) : Int)
def acj : List (Int × Int) := [(128, 191), (160, 191), (128, 159), (144, 191), (128, 143)]
theorem ack : ((List.range 256).all fun x => let f := firstM x; let n := kV (x : Int)
    decide ((f = 240 ∧ x < 128) ∨ (f = 241 ∧ n = 0 ∧ 128 ≤ x) ∨ (0 ≤ f ∧ f < 240 ∧ f % 8 = (n : Int) ∧ 2 ≤ n ∧ 128 ≤ x ∧ f / 16 < 5 ∧ acj.getD (f / 16).toNat (0, 0) = (FZ x, zK x)))) = true := by decide +kernel
theorem adE {x : Int} (h : 0 ≤ x ∧ x < 256) : (firstM x.toNat = 240 ∧ x < 128) ∨ (firstM x.toNat = 241 ∧ kV x = 0 ∧ 128 ≤ x) ∨
    (0 ≤ firstM x.toNat ∧ firstM x.toNat < 240 ∧ firstM x.toNat % 8 = (kV x : Int) ∧ 2 ≤ kV x ∧ 128 ≤ x ∧ firstM x.toNat / 16 < 5 ∧ acj.getD (firstM x.toNat / 16).toNat (0, 0) = (FZ x, zK x)) := by
  have := List.all_eq_true.1 ack x.toNat (List.mem_range.2 (by omega))
  simp only [decide_eq_true_eq, Int.toNat_of_nonneg h.1] at this
  rcases this with h1 | h1 | h1
  · exact .inl ⟨h1.1, by omega⟩
  · exact .inr (.inl ⟨h1.1, h1.2.1, by omega⟩)
  · exact .inr (.inr ⟨h1.1, h1.2.1, h1.2.2.1, h1.2.2.2.1, by omega, h1.2.2.2.2.2.1, h1.2.2.2.2.2.2⟩)
structure MO (w : World) : Prop where
  first : ∀ x : Nat, x < 256 → w.cell? ⟨0, x, none⟩ = some (.int .u8 (firstM x))
  acc : ∀ i : Nat, i < 5 → w.cell? ⟨1, i * 2, none⟩ = some (.int .u8 (acj.getD i (0, 0)).1) ∧ w.cell? ⟨1, i * 2 + 1, none⟩ = some (.int .u8 (acj.getD i (0, 0)).2)
theorem adF : ((List.range 256).all fun x => decide (bits .or .i32 (bits .andNot .i32 (x : Int) (IntKind.i32.wrap (240 * 2 ^ 31) / 2 ^ 31)) (bits .and .i32 65533 (IntKind.i32.wrap (240 * 2 ^ 31) / 2 ^ 31)) = (x : Int) ∧
    bits .or .i32 (bits .andNot .i32 (x : Int) (IntKind.i32.wrap (241 * 2 ^ 31) / 2 ^ 31)) (bits .and .i32 65533 (IntKind.i32.wrap (241 * 2 ^ 31) / 2 ^ 31)) = 65533)) = true := by decide +kernel
theorem adG {x : Int} (h : 0 ≤ x ∧ x < 256) : bits .or .i32 (bits .andNot .i32 x (IntKind.i32.wrap (240 * 2 ^ 31) / 2 ^ 31)) (bits .and .i32 65533 (IntKind.i32.wrap (240 * 2 ^ 31) / 2 ^ 31)) = x ∧
    bits .or .i32 (bits .andNot .i32 x (IntKind.i32.wrap (241 * 2 ^ 31) / 2 ^ 31)) (bits .and .i32 65533 (IntKind.i32.wrap (241 * 2 ^ 31) / 2 ^ 31)) = 65533 := by
  have := List.all_eq_true.1 adF x.toNat (List.mem_range.2 (by omega))
  simpa only [decide_eq_true_eq, Int.toNat_of_nonneg h.1] using this
section
variable {b : List Int}
theorem EM (h : Jv b) (j : Nat) : 0 ≤ b.getD j 0 ∧ b.getD j 0 < 256 := by
  rw [List.getD_eq_getElem?_getD]
  by_cases hj : j < b.length
  · rw [List.getElem?_eq_getElem hj]; exact h _ (List.getElem_mem hj)
  · rw [List.getElem?_eq_none (by omega)]; decide
theorem Eu {j : Nat} (hj : j < kV (b.getD 0 0)) (h : CG b j = false) (hl : j < b.length) : nT b = (0, kV (b.getD 0 0)) := by
  have hb : b ≠ [] := by rintro rfl; simp at hl
  unfold nT
  rw [if_neg hb, if_neg (show ¬ kV (b.getD 0 0) = 0 by omega), if_neg]
  intro hg
  have := Q5 hg (m := j + 1) (by omega)
  simp only [zL, h, Bool.and_false] at this
  cases this
theorem Q8 (hb : b ≠ []) (hn : 0 < kV (b.getD 0 0)) (h : zL b (min (kV (b.getD 0 0)) b.length) = true) : nT b = (min (kV (b.getD 0 0)) b.length, kV (b.getD 0 0)) := by
  unfold nT
  rw [if_neg hb, if_neg (show ¬ kV (b.getD 0 0) = 0 by omega), if_pos h]
theorem Q9 (h : kV (b.getD 0 0) = 0) : nT b = (0, 0) := by
  unfold nT
  by_cases hb : b = []
  · rw [if_pos hb]
  · rw [if_neg hb, if_pos h]
theorem acm (h : kV (b.getD 0 0) = 0) : wX b = (65533, 1) := by
  unfold wX yC; rw [Q9 h]; rfl
theorem EN {j : Nat} (hb : b ≠ []) (hj : j < kV (b.getD 0 0)) (h : CG b j = false) : wX b = (65533, 1) := by
  by_cases hl : j < b.length
  · unfold wX yC; rw [Eu hj h hl]; rw [if_neg]; simp only [decide_eq_true_eq]; omega
  · unfold wX yC
    have h1 := MN (b := b)
    rw [Ol hb] at h1 ⊢
    rw [if_neg]
    simp only [decide_eq_true_eq]; omega
theorem adH {j : Nat} (h : b.length ≤ j) (hj : 0 < j) : CG b j = false := by
  unfold CG
  rw [List.getD_eq_getElem?_getD, List.getElem?_eq_none h]
  simp
  omega
theorem Kr {n : Nat} (hb : b ≠ []) (hn : kV (b.getD 0 0) = n) (h1 : 1 ≤ n) (hl : n ≤ b.length) (h : zL b n = true) : wX b = (KE b n, n) := by
  have := Q8 hb (by omega) (by rw [hn, Nat.min_eq_left hl]; exact h)
  rw [hn, Nat.min_eq_left hl] at this
  unfold wX yC; rw [this]; rw [if_pos]; simp [show 0 < n from h1]
theorem Rf (hb : b ≠ []) (h : b.getD 0 0 < 128) : wX b = (b.getD 0 0, 1) := by
  have hl := List.length_pos_iff.2 hb
  rw [Kr (n := 1) hb (by unfold kV; rw [if_pos h]) (Nat.le_refl _) hl (by simp [zL, CG])]
  rfl
theorem ok1 (h1 : FZ (b.getD 0 0) ≤ b.getD 1 0) (h2 : b.getD 1 0 ≤ zK (b.getD 0 0)) : CG b 1 = true := by
  have : 128 ≤ b.getD 1 0 ∧ b.getD 1 0 ≤ 191 := by
    unfold FZ at h1; unfold zK at h2
    constructor
    · split at h1 <;> (try split at h1) <;> omega
    · split at h2 <;> (try split at h2) <;> omega
  unfold CG
  simp only [Bool.or_eq_true, Bool.and_eq_true, decide_eq_true_eq]
  exact .inr ⟨this, .inr ⟨h1, h2⟩⟩
theorem Z9 (h : b.getD 1 0 < FZ (b.getD 0 0) ∨ zK (b.getD 0 0) < b.getD 1 0) : CG b 1 = false := by
  unfold CG
  rw [← Bool.not_eq_true]
  simp only [Bool.or_eq_true, Bool.and_eq_true, decide_eq_true_eq]
  rintro (h1 | ⟨h1, h2 | h2⟩)
  · simp at h1
  · simp at h2
  · omega
theorem okj {j : Nat} (hj : 2 ≤ j) (h : 128 ≤ b.getD j 0 ∧ b.getD j 0 ≤ 191) : CG b j = true := by
  unfold CG
  simp only [Bool.or_eq_true, Bool.and_eq_true, decide_eq_true_eq]
  exact .inr ⟨h, .inl (by simp; omega)⟩
theorem VW {j : Nat} (hj : 1 ≤ j) (h : b.getD j 0 < 128 ∨ 191 < b.getD j 0) : CG b j = false := by
  unfold CG
  rw [← Bool.not_eq_true]
  simp only [Bool.or_eq_true, Bool.and_eq_true, decide_eq_true_eq]
  rintro (h1 | ⟨h1, h2⟩)
  · simp at h1; omega
  · omega
theorem ok0 : CG b 0 = true := rfl
end
section
variable {w0 w : World} {F : HP} {v : Value} {b : List Int}
theorem adI (H : V w0 w F) (hT : MO w0) (hv : jZ w0 F .u8 v b) (hb : Jv b) (hne : b ≠ []) : iK prog 195 #[v] w fun v' w' => v' = .tuple #[.int .i32 (wX b).1, .int .i64 ((wX b).2 : Nat)] ∧ V w0 w' F := by
  have hl := List.length_pos_iff.2 hne
  have y0 := EM hb 0
  have y1 := EM hb 1
  have y2 := EM hb 2
  have y3 := EM hb 3
  have hf := adE y0
  have hfb : 0 ≤ firstM (b.getD 0 0).toNat ∧ firstM (b.getD 0 0).toNat < 256 := by
    rcases hf with h1 | h1 | h1
    · omega
    · omega
    · exact ⟨h1.1, Int.lt_trans h1.2.1 (by decide)⟩
  have hn4 := QZ (b.getD 0 0)
  refine jl func195 ntmps195 ?_
  refine kQ (lg O (iU O (bT O (aT (kT (hv _ (H)) bH O) (vI O (bT O (aT (fJ O O) (iR (VR O (fun h1 => ?_))))))))))
  (try simp only [aG] at h1)
  refine gX (bT O ?_)
  obtain ⟨bv, ov, cv, ev⟩ := mP.qX (hv _ (H)) (by omega)
  cases ev
  refine aT (dP bH gZ O O (by omega)) (aT (fB (dG bY O) O (mP.XH 0 (hv _ (H)) (by omega))) (iU O (bT O (aT (Au underlying230 gZ O O (by omega)) ?_))))
  refine aT (fB (dG bY O) O (by rw [show 0 + (b.getD 0 0).toNat * 1 = (b.getD 0 0).toNat from by omega]; exact H.cell (hT.first _ (by omega)))) ?_
  refine vI O (bT O (aT (vT O O) (jo O (fun h2 => ?_) (fun h2 => ?_))))
  · (try simp only [aG] at h2)
    refine bT O ?_
    refine aT (kH O (by rw [underlying5]; rfl) fO (lq (by omega))) ?_
    refine aT (adC 31 O O (by decide)) (aT (adD 31 O O (by decide)) (iU O (bT O (aT (dP bH gZ O O (by omega)) (aT (fB (dG bY O) O (mP.XH 0 (hv _ (H)) (by omega))) ?_)))))
    refine aT (kH O (by rw [underlying5]; rfl) fO (lq (by omega))) ?_
    refine cO O ?_
    refine aT (Ie .andNot O O (by simp)) ?_
    refine cO O ?_
    refine aT (Ie .and O O (by simp)) ?_
    refine aT (Ie .or O O (by simp)) ?_
    refine lg O (iJ O (aC (Fp qP O O ?_)))
    rcases hf with ⟨h1, h2⟩ | ⟨h1, h2⟩ | h1
    · rw [h1, Rf hne h2]
      exact ⟨by rw [(adG y0).1]; rfl, H⟩
    · rw [h1, acm h2.1]
      exact ⟨by rw [(adG y0).2]; rfl, H⟩
    · exfalso; omega
  · (try simp only [aG] at h2)
    refine gX (aI ?_)
    have hf2 : 0 ≤ firstM (b.getD 0 0).toNat ∧ firstM (b.getD 0 0).toNat < 240 ∧ firstM (b.getD 0 0).toNat % 8 = (kV (b.getD 0 0) : Int) ∧ 2 ≤ kV (b.getD 0 0) ∧ 128 ≤ b.getD 0 0 ∧ firstM (b.getD 0 0).toNat / 16 < 5 ∧ acj.getD (firstM (b.getD 0 0).toNat / 16).toNat (0, 0) = (FZ (b.getD 0 0), zK (b.getD 0 0)) := by
      rcases hf with h1 | h1 | h1
      · exfalso; have := h1.1; omega
      · exfalso; have := h1.1; omega
      · exact h1
    obtain ⟨q1, q2, q3, q4, q5, q6, q7⟩ := hf2
    have hacc := hT.acc (firstM (b.getD 0 0).toNat / 16).toNat (by omega)
    rw [q7] at hacc
    refine aF (cO O (aT (jP 3 7 8 (by decide) (by decide) (by decide) O O (by omega)) ?_))
    refine aT (kH O (by rw [underlying5]; rfl) ay (afY (by omega))) ?_
    refine iU O (bT O (aT (zV 4 16 (by decide) (by decide) O O) (aT (Au underlying233 sizeOf232 O O (by omega)) ?_)))
    refine aT (Hz (cs := [.int .u8 (FZ (b.getD 0 0)), .int .u8 (zK (b.getD 0 0))]) (by rw [underlying232]; rfl) (XO underlying232 O) sizeOf232 O O (ach (by rw [Nat.zero_add]; exact H.cell hacc.1) (by rw [Nat.zero_add]; exact H.cell hacc.2))) ?_
    refine jT (iI (l := [_, _]) H zeroValue232 O) ?_
    rintro _ w1 ⟨b1, rfl, H1⟩
    refine aH (dR 0 (l' := [_, _]) (us := [_, _]) H1 sizeOf232 O O O (aP (aP bW)) O O) ?_
    rintro _ w2 H2
    refine uV (bT O (cO O (aT (fJ O O) (jo O (fun h3 => ?_) (fun h3 => ?_)))))
    · (try simp only [aG] at h3)
      refine kQ (lg O (iJ O (aC (Fp qP O O ?_))))
      exact ⟨by rw [EN (j := b.length) hne (by omega) (adH (Nat.le_refl _) hl)]; rfl, H2.right⟩
    · (try simp only [aG] at h3)
      refine gX (bT O (aT (dP bH gZ O O (by omega)) (aT (fB (dG bY O) O (mP.XH 1 (hv _ (H2.right)) (by omega))) (vI O (bT O (bg 0 underlying232 O gZ O (dQ bY O (H2).get.2 O (aT (fJ O O) (nS O (fun h4 => ?_) (fun h4 => ?_))))))))))
      · (try simp only [aG] at h4)
        refine dB (dB (dB (dB (mQ O O (iR (DZ (kQ (lg O (iJ O (aC (Fp qP O O ?_)))))))))))
        exact ⟨by rw [EN (j := 1) hne (by omega) (Z9 (by omega))]; rfl, H2.right⟩
      · (try simp only [aG] at h4)
        refine bJ (bg 1 underlying232 O gZ O (bJ (dQ bY O (H2).get.2 O (bJ (cO O (bJ (aT (fJ O O) (kP O O (jo O (fun h5 => ?_) (fun h5 => ?_))))))))))
        · (try simp only [aG] at h5)
          refine kQ (lg O (iJ O (aC (Fp qP O O ?_))))
          exact ⟨by rw [EN (j := 1) hne (by omega) (Z9 (by omega))]; rfl, H2.right⟩
        · (try simp only [aG] at h5)
          refine gX (aI (bT O (aT (xA O O) (jo O (fun h6 => ?_) (fun h6 => ?_)))))
          · (try simp only [aG] at h6)
            refine bT O (aT (jP 5 31 32 (by decide) (by decide) (by decide) O O (by omega)) ?_)
            refine aT (kH O (by rw [underlying5]; rfl) fO (lq (by omega))) ?_
            refine aT (I9 6 64 (by decide) (by decide) O O (lq (by omega))) (cO O (aT (jP 6 63 64 (by decide) (by decide) (by decide) O O (by omega)) ?_))
            refine aT (kH O (by rw [underlying5]; rfl) fO (lq (by omega))) ?_
            refine aT (yM 6 64 (by decide) O O (by omega)) (lg O (iJ O (aC (Fp qP O O ?_))))
            exact ⟨by rw [Kr (n := 2) hne (by omega) (by decide) (by omega) (by simp only [zL, ok0, ok1 (b := b) (by omega) (by omega), Bool.and_true])]; rfl, H2.right⟩
          · (try simp only [aG] at h6)
            refine gX (bT O (aT (dP bH gZ O O (by omega)) (aT (fB (dG bY O) O (mP.XH 2 (hv _ (H2.right)) (by omega))) (vI O (bT O (aT (fJ O O) (nS O (fun h7 => ?_) (fun h7 => ?_))))))))
            · (try simp only [aG] at h7)
              refine dB (dB (mQ O O (iR (DZ (kQ (lg O (iJ O (aC (Fp qP O O ?_)))))))))
              exact ⟨by rw [EN (j := 2) hne (by omega) (VW (by decide) (by omega))]; rfl, H2.right⟩
            · (try simp only [aG] at h7)
              refine bJ (cO O (bJ (aT (fJ O O) (kP O O (jo O (fun h8 => ?_) (fun h8 => ?_))))))
              · (try simp only [aG] at h8)
                refine kQ (lg O (iJ O (aC (Fp qP O O ?_))))
                exact ⟨by rw [EN (j := 2) hne (by omega) (VW (by decide) (by omega))]; rfl, H2.right⟩
              · (try simp only [aG] at h8)
                refine gX (aI (bT O (aT (xA O O) (jo O (fun h9 => ?_) (fun h9 => ?_)))))
                · (try simp only [aG] at h9)
                  refine bT O (aT (jP 4 15 16 (by decide) (by decide) (by decide) O O (by omega)) ?_)
                  refine aT (kH O (by rw [underlying5]; rfl) fO (lq (by omega))) ?_
                  refine aT (I9 12 4096 (by decide) (by decide) O O (lq (by omega))) (cO O (aT (jP 6 63 64 (by decide) (by decide) (by decide) O O (by omega)) ?_))
                  refine aT (kH O (by rw [underlying5]; rfl) fO (lq (by omega))) ?_
                  refine aT (I9 6 64 (by decide) (by decide) O O (lq (by omega))) (aT (yM 12 4096 (by decide) O O (by omega)) (cO O (aT (jP 6 63 64 (by decide) (by decide) (by decide) O O (by omega)) ?_)))
                  refine aT (kH O (by rw [underlying5]; rfl) fO (lq (by omega))) ?_
                  refine aT (yM 6 64 (by decide) O O (by omega)) (lg O (iJ O (aC (Fp qP O O ?_))))
                  exact ⟨by rw [Kr (n := 3) hne (by omega) (by decide) (by omega) (by simp only [zL, ok0, ok1 (b := b) (by omega) (by omega), okj (b := b) (j := 2) (by decide) (by omega), Bool.and_true])]; rfl, H2.right⟩
                · (try simp only [aG] at h9)
                  refine gX (bT O (aT (dP bH gZ O O (by omega)) (aT (fB (dG bY O) O (mP.XH 3 (hv _ (H2.right)) (by omega))) (vI O (bT O (aT (fJ O O) (nS O (fun h10 => ?_) (fun h10 => ?_))))))))
                  · (try simp only [aG] at h10)
                    refine dB (dB (mQ O O (iR (DZ (kQ (lg O (iJ O (aC (Fp qP O O ?_)))))))))
                    exact ⟨by rw [EN (j := 3) hne (by omega) (VW (by decide) (by omega))]; rfl, H2.right⟩
                  · (try simp only [aG] at h10)
                    refine bJ (cO O (bJ (aT (fJ O O) (kP O O (jo O (fun h11 => ?_) (fun h11 => ?_))))))
                    · (try simp only [aG] at h11)
                      refine kQ (lg O (iJ O (aC (Fp qP O O ?_))))
                      exact ⟨by rw [EN (j := 3) hne (by omega) (VW (by decide) (by omega))]; rfl, H2.right⟩
                    · (try simp only [aG] at h11)
                      refine gX (bT O (aT (jP 3 7 8 (by decide) (by decide) (by decide) O O (by omega)) ?_))
                      refine aT (kH O (by rw [underlying5]; rfl) fO (lq (by omega))) ?_
                      refine aT (I9 18 262144 (by decide) (by decide) O O (lq (by omega))) (cO O (aT (jP 6 63 64 (by decide) (by decide) (by decide) O O (by omega)) ?_))
                      refine aT (kH O (by rw [underlying5]; rfl) fO (lq (by omega))) ?_
                      refine aT (I9 12 4096 (by decide) (by decide) O O (lq (by omega))) (aT (yM 18 262144 (by decide) O O (by omega)) (cO O (aT (jP 6 63 64 (by decide) (by decide) (by decide) O O (by omega)) ?_)))
                      refine aT (kH O (by rw [underlying5]; rfl) fO (lq (by omega))) ?_
                      refine aT (I9 6 64 (by decide) (by decide) O O (lq (by omega))) (aT (yM 12 4096 (by decide) O O (by omega)) (cO O (aT (jP 6 63 64 (by decide) (by decide) (by decide) O O (by omega)) ?_)))
                      refine aT (kH O (by rw [underlying5]; rfl) fO (lq (by omega))) ?_
                      refine aT (yM 6 64 (by decide) O O (by omega)) (lg O (iJ O (Fp qP O O ?_)))
                      exact ⟨by rw [Kr (n := 4) hne (by omega) (by decide) (by omega) (by simp only [zL, ok0, ok1 (b := b) (by omega) (by omega), okj (b := b) (j := 2) (by decide) (by omega), okj (b := b) (j := 3) (by decide) (by omega), Bool.and_true])]; rfl, H2.right⟩
end
end Go.Proofs.YtnhhmieghbfalaaGreatDoor
end
section
set_option maxRecDepth 100000
namespace Go.Proofs.YtnhhmieghbfalaaGreatDoor
open Go.ChangeShapes Go.WideShapes Go.ChangeAt Go.RowKit
theorem ahv : Tryz.prog.globalNamed "unicode/utf8.first" = some 0 := by kernel_rfl
theorem akp : Tryz.prog.globalNamed "unicode/utf8.acceptRanges" = some 1 := by kernel_rfl
theorem ahw : (Tryz.prog.globals[0]?).map (·.type) = some 230 := by kernel_rfl
theorem akq : (Tryz.prog.globals[1]?).map (·.type) = some 233 := by kernel_rfl
def UZ : List (Int × Int) := [(128, 191), (160, 191), (128, 159), (144, 191), (128, 143), (0, 0), (0, 0), (0, 0), (0, 0), (0, 0), (0, 0), (0, 0), (0, 0), (0, 0), (0, 0), (0, 0)]
def abw (x : Int × Int) : DataW Unit := .agg [.lit (.int .u8 x.1), .lit (.int .u8 x.2)]
def Dn (T : List (Int × Int)) : List Value := T.flatMap fun x => [.int .u8 x.1, .int .u8 x.2]
theorem U0 (T : List (Int × Int)) (k : Nat) (h : k < T.length) : (Dn T).getD (k * 2) undef = .int .u8 (T.getD k (0, 0)).1 ∧ (Dn T).getD (k * 2 + 1) undef = .int .u8 (T.getD k (0, 0)).2 := by
  induction T generalizing k with
  | nil => simp at h
  | cons x r ih =>
    cases k with
    | zero => exact ⟨rfl, rfl⟩
    | succ k =>
      have := ih k (by simpa using h)
      rw [show (k + 1) * 2 = k * 2 + 2 from by omega, show k * 2 + 2 + 1 = (k * 2 + 1) + 2 from by omega]
      simpa [Dn, List.getD_eq_getElem?_getD] using this
theorem XY (T : List (Int × Int)) : (Dn T).length = T.length * 2 := by
  induction T with
  | nil => rfl
  | cons x r ih => simp only [Dn, List.flatMap_cons, List.length_append] at *; simp [ih]; omega
section
variable {enc : TypeId × Value → Unit} {w : World} {base : Nat} {spare : Nat → Bool} {held : Bool} {fuel : Nat} {ps : List MemPlace}
theorem afZ {cs : List Value} {x : Int × Int} (h : DataW.trod enc Tryz.prog w base spare held fuel 232 cs = some (abw x, ps)) : cs = [.int .u8 x.1, .int .u8 x.2] := by
  obtain ⟨xs, n, -, hx, hl, hl2, hf⟩ := DataW.trod_struct Tryz.underlying232 h
  rw [show Tryz.prog.cellsOf 232 = 2 from by kernel_rfl] at hl
  simp only [Prod.mk.injEq, abw, DataW.agg.injEq] at hx
  match xs, hl2, hx, cs, hl with
  | [y0, y1], _, hx, [c0, c1], _ =>
    have h0 : DataW.trod enc Tryz.prog w base spare held n 5 (([c0, c1].drop 0).take (Tryz.prog.cellsOf 5)) = some y0 := hf 0 _ rfl
    have h1 : DataW.trod enc Tryz.prog w base spare held n 5 (([c0, c1].drop 1).take (Tryz.prog.cellsOf 5)) = some y1 := hf 1 _ rfl
    simp only [List.map_cons, List.map_nil, List.cons.injEq] at hx
    obtain ⟨n0, e0, d0, -⟩ := DataW.trod_int Tryz.underlying5 h0
    obtain ⟨n1, e1, d1, -⟩ := DataW.trod_int Tryz.underlying5 h1
    rw [show Tryz.prog.cellsOf 5 = 1 from by kernel_rfl] at e0 e1
    simp at e0 e1
    rw [d0, d1] at hx
    simp at hx
    subst e0; subst e1
    rw [hx.1.1, hx.1.2]
theorem af0 {t n : Nat} {cs : List Value} {T : List (Int × Int)} (ht : Tryz.prog.underlying t = some (.array n 232)) (hc : Tryz.prog.cellsOf t = n * 2) (h : DataW.trod enc Tryz.prog w base spare held fuel t cs = some (.agg (T.map abw), ps)) : cs = Dn T := by
  obtain ⟨xs, m, -, hx, hl, hl2, hel⟩ := DataW.trod_array ht h
  simp only [Prod.mk.injEq, DataW.agg.injEq] at hx
  rw [hc] at hl
  have hTn : T.length = n := by have := congrArg List.length hx.1; simpa [hl2] using this
  have hv := XY T
  apply List.ext_getElem?
  intro j
  by_cases hj : j < n * 2
  · have hk : j / 2 < n := by omega
    have h1 := hel (j / 2) hk
    rw [show Tryz.prog.cellsOf 232 = 2 from by kernel_rfl, List.getElem?_eq_getElem (by omega)] at h1
    have h2 : xs[j / 2].1 = abw (T.getD (j / 2) (0, 0)) := by
      have := congrArg (fun l => l[j / 2]?) hx.1
      simp [List.getElem?_eq_getElem (show j / 2 < T.length by omega), List.getElem?_eq_getElem (show j / 2 < xs.length by omega)] at this
      rw [List.getD_eq_getElem?_getD, List.getElem?_eq_getElem (show j / 2 < T.length by omega), Option.getD_some, this]
    have h3 := afZ (x := T.getD (j / 2) (0, 0)) (ps := xs[j / 2].2) (by rw [h1, ← h2])
    obtain ⟨e0, e1⟩ := U0 T (j / 2) (by omega)
    have hq : (Dn T)[j]? = some ((Dn T).getD j undef) := by rw [List.getD_eq_getElem?_getD, List.getElem?_eq_getElem (by omega)]; rfl
    rw [hq]
    rcases (show j = j / 2 * 2 ∨ j = j / 2 * 2 + 1 by omega) with hj2 | hj2
    · have := congrArg (fun l => l[0]?) h3
      simp [List.getElem?_drop] at this
      rw [show j / 2 * 2 = j from by omega] at this e0
      rw [this, e0]; simp [List.getD_eq_getElem?_getD]
    · have := congrArg (fun l => l[1]?) h3
      simp [List.getElem?_take, List.getElem?_drop] at this
      rw [show j / 2 * 2 + 1 = j from by omega] at this e1
      rw [this, e1]; simp [List.getD_eq_getElem?_getD]
  · rw [List.getElem?_eq_none (by omega), List.getElem?_eq_none (by omega)]
theorem adJ {t n : Nat} {cs : List Value} {Z : List Nat} (ht : Tryz.prog.underlying t = some (.array n 5)) (h : DataW.trod enc Tryz.prog w base spare held fuel t cs = some (.agg (Z.map fun (q : Nat) => .lit (.int .u8 q)), ps)) {r : Nat} (hr : r < n) : cs[r]? = some (.int .u8 (Z.getD r 0 : Nat)) := by
  obtain ⟨xs, m, _, ex, _, hl, hel⟩ := DataW.trod_array ht h
  have c5 : Tryz.prog.cellsOf 5 = 1 := by kernel_rfl
  have hE := hel r hr
  rw [c5, Nat.mul_one, List.getElem?_eq_getElem (by omega)] at hE
  obtain ⟨z, e1, e2, _⟩ := DataW.trod_int Tryz.underlying5 hE
  have e3 : (xs.map (·.1)) = Z.map fun (q : Nat) => .lit (.int .u8 q) := (DataW.agg.inj (Prod.mk.inj ex).1).symm
  have hzl : Z.length = n := by have := congrArg List.length e3; simpa [hl] using this.symm
  have e4 : (xs.map (·.1))[r]? = (Z.map fun (q : Nat) => (DataW.lit (.int .u8 q) : DataW Unit))[r]? := by rw [e3]
  rw [List.getElem?_map, List.getElem?_map, List.getElem?_eq_getElem (by omega : r < xs.length), List.getElem?_eq_getElem (by omega : r < Z.length), e2] at e4
  have hz : z = (Z.getD r 0 : Nat) := by
    simp only [Option.map_some, Option.some.injEq, DataW.lit.injEq, Lit.int.injEq, true_and] at e4
    rw [e4, List.getD_eq_getElem?_getD, List.getElem?_eq_getElem (by omega : r < Z.length)]; rfl
  have : cs[r]? = some (.int .u8 z) := by
    have h0 : ((cs.drop r).take 1)[0]? = some (.int .u8 z) := by rw [e1]; rfl
    simpa using h0
  rw [this, hz]
end
theorem adK {W : World} (h : laidMetH Tryz.prog QY W) : MO W := by
  rw [MakeChecks.laidMetH_plain _ _ _ (by kernel_rfl)] at h
  obtain ⟨ps, ⟨g3, t3, cs3, f3, p3, q3, hg3, ht3, hv3, hd3, ⟨g2, t2, cs2, f2, p2, q2, hg2, ht2, hv2, hd2, _, _⟩, _⟩, _, _⟩ := h
  obtain rfl := Option.some.inj (ahv.symm.trans hg2)
  obtain rfl := Option.some.inj (akp.symm.trans hg3)
  obtain rfl := Option.some.inj (ahw.symm.trans ht2)
  obtain rfl := Option.some.inj (akq.symm.trans ht3)
  have e3 := af0 (T := UZ) Tryz.underlying233 (by kernel_rfl) hd3
  refine ⟨fun x hx => ?_, fun i hi => ?_⟩
  · rw [World.var?_cell hg2 hv2 x, ← Array.getElem?_toList, adJ (Z := Go.Pinned.utf8FirstZ) Tryz.underlying230 hd2 hx]; rfl
  · have hp := U0 UZ i (by simp [UZ]; omega)
    have ha : UZ.getD i (0, 0) = acj.getD i (0, 0) := by
      match i, hi with
      | 0, _ => rfl
      | 1, _ => rfl
      | 2, _ => rfl
      | 3, _ => rfl
      | 4, _ => rfl
    rw [ha] at hp
    have hl := XY UZ
    have hl2 : UZ.length = 16 := rfl
    constructor
    · rw [World.var?_cell hg3 hv3 _, ← Array.getElem?_toList, e3, ← hp.1, List.getD_eq_getElem?_getD, List.getElem?_eq_getElem (by omega)]; rfl
    · rw [World.var?_cell hg3 hv3 _, ← Array.getElem?_toList, e3, ← hp.2, List.getD_eq_getElem?_getD, List.getElem?_eq_getElem (by omega)]; rfl
end Go.Proofs.YtnhhmieghbfalaaGreatDoor
end
section
set_option maxRecDepth 100000
namespace Go.Proofs.YtnhhmieghbfalaaGreatDoor
open Go.ChangeShapes Go.WideShapes Go.ChangeAt Go.RowKit
theorem abx {H : Type} {enc : TypeId × Value → H} {W : World} {B : Nat} {cs : List Value} (h : Hu B enc Tryz.prog W 26 cs) : ∃ x0 x1 x2 x3 v4 x4, cs = [.int .i64 x0, .int .i64 x1, .int .i64 x2, .bool x3, v4] ∧ (Lit.int .i64 x0).wf = true ∧ (Lit.int .i64 x1).wf = true ∧ (Lit.int .i64 x2).wf = true ∧ (mP W .i32 v4 x4 ∧ x4.length * 4 ≤ B ∧ ∀ n ∈ x4, (Lit.int .i32 n).wf = true) := by
  obtain ⟨hl, hf⟩ := h.struct Tryz.underlying26
  rw [show Tryz.prog.cellsOf 26 = 5 from by kernel_rfl] at hl
  match cs, hl with
  | [c0, c1, c2, c3, c4], _ =>
    have h0 : Hu B enc Tryz.prog W 3 (([c0, c1, c2, c3, c4].drop 0).take (Tryz.prog.cellsOf 3)) := hf 0 _ rfl
    rw [show Tryz.prog.cellsOf 3 = 1 from by kernel_rfl] at h0
    obtain ⟨x0, e0, w0⟩ := h0.int Tryz.underlying3
    have h1 : Hu B enc Tryz.prog W 3 (([c0, c1, c2, c3, c4].drop 1).take (Tryz.prog.cellsOf 3)) := hf 1 _ rfl
    rw [show Tryz.prog.cellsOf 3 = 1 from by kernel_rfl] at h1
    obtain ⟨x1, e1, w1⟩ := h1.int Tryz.underlying3
    have h2 : Hu B enc Tryz.prog W 3 (([c0, c1, c2, c3, c4].drop 2).take (Tryz.prog.cellsOf 3)) := hf 2 _ rfl
    rw [show Tryz.prog.cellsOf 3 = 1 from by kernel_rfl] at h2
    obtain ⟨x2, e2, w2⟩ := h2.int Tryz.underlying3
    have h3 : Hu B enc Tryz.prog W 4 (([c0, c1, c2, c3, c4].drop 3).take (Tryz.prog.cellsOf 4)) := hf 3 _ rfl
    rw [show Tryz.prog.cellsOf 4 = 1 from by kernel_rfl] at h3
    obtain ⟨x3, e3⟩ := h3.bool Tryz.underlying4
    have h4 : Hu B enc Tryz.prog W 24 (([c0, c1, c2, c3, c4].drop 4).take (Tryz.prog.cellsOf 24)) := hf 4 _ rfl
    rw [show Tryz.prog.cellsOf 24 = 1 from by kernel_rfl] at h4
    obtain ⟨v4, x4, e4, g4, b4, w4⟩ := h4.ints Tryz.underlying24 Tryz.underlying21 (by kernel_rfl)
    rw [show Tryz.prog.bytesOf 21 = 4 from by kernel_rfl] at b4
    simp only [List.drop, List.take, List.cons.injEq, and_true] at e0 e1 e2 e3 e4
    exact ⟨x0, x1, x2, x3, v4, x4, by simp_all, w0, w1, w2, ⟨g4, b4, w4⟩⟩
theorem ahx {H : Type} {enc : TypeId × Value → H} {W : World} {B : Nat} {cs : List Value} (h : Hu B enc Tryz.prog W 35 cs) : ∃ v0 n0 x0 x1, cs = [v0, .int .i64 x1] ∧ (Rd W 5 v0 n0 x0 ∧ n0 * Tryz.prog.bytesOf 26 ≤ B ∧ ∀ k, k < n0 → Hu B enc Tryz.prog W 26 ((x0.drop (k * 5)).take 5)) ∧ (Lit.int .i64 x1).wf = true := by
  obtain ⟨hl, hf⟩ := h.struct Tryz.underlying35
  rw [show Tryz.prog.cellsOf 35 = 2 from by kernel_rfl] at hl
  match cs, hl with
  | [c0, c1], _ =>
    have h0 : Hu B enc Tryz.prog W 32 (([c0, c1].drop 0).take (Tryz.prog.cellsOf 32)) := hf 0 _ rfl
    rw [show Tryz.prog.cellsOf 32 = 1 from by kernel_rfl] at h0
    obtain ⟨v0, n0, x0, e0, g0, b0, s0⟩ := h0.slice Tryz.underlying32 (by rw [show Tryz.prog.cellsOf 26 = 5 from by kernel_rfl]; decide)
    rw [show Tryz.prog.cellsOf 26 = 5 from by kernel_rfl] at g0 s0
    have h1 : Hu B enc Tryz.prog W 33 (([c0, c1].drop 1).take (Tryz.prog.cellsOf 33)) := hf 1 _ rfl
    rw [show Tryz.prog.cellsOf 33 = 1 from by kernel_rfl] at h1
    obtain ⟨x1, e1, w1⟩ := h1.int Tryz.underlying33
    simp only [List.drop, List.take, List.cons.injEq, and_true] at e0 e1
    exact ⟨v0, n0, x0, x1, by simp_all, ⟨g0, b0, s0⟩, w1⟩
end Go.Proofs.YtnhhmieghbfalaaGreatDoor
end
section
namespace Go.Proofs.YtnhhmieghbfalaaGreatDoor
open Go.RowKit
open _root_.Go.Proofs.Tryz
theorem MP {l m : List Int} {i : Nat} (h1 : i < l.length) (h2 : i < m.length) (h : l.take i = m.take i) (e : l.getD i 0 = m.getD i 0) : l.take (i + 1) = m.take (i + 1) := by
  rw [List.take_succ_eq_append_getElem h1, List.take_succ_eq_append_getElem h2, h]
  simp [List.getD_eq_getElem?_getD, h1, h2] at e
  rw [e]
theorem Gx (w : World) (v1 v2 : Value) (l1 l2 : List Int) (h1 : mP w .i32 v1 l1) (h2 : mP w .i32 v2 l2) :
  iK prog 62 #[v1, v2] w fun v w' => v = .bool (l1 == l2) ∧ Cj w w' := by
 obtain ⟨a1, c1, rfl, hc1, hm1, hr1⟩ := h1.open
 obtain ⟨a2, c2, rfl, hc2, hm2, hr2⟩ := h2.open
 clear h1 h2
 refine nO func62 ntmps62 ?_
 refine kG O (aI (bT O (aT (kE aB O) (cO O (aT (kE aB O) (aT (fF O O) (jo O (fun h1 => ?_) (fun h1 => ?_))))))))
 ·(try simp only [aG] at h1)
  refine jE O (aC (dO results62 O ?_))
  exact ⟨by rw [show (l1 == l2) = false from beq_eq_false_iff_ne.2 (by rintro rfl; exact h1 rfl)], Cj.refl _⟩
 ·(try simp only [aG] at h1)
  refine gX (aI (bT O (aT (kE aB O) (cO O (iR (bK ?_))))))
  refine jh [(0, _), (1, _), (12, _)] (fun (k : Nat) => [(13, .int .i64 (k : Int))]) (fun (k : Nat) W => k ≤ l1.length ∧ l1.length = l2.length ∧ l1.take k = l2.take k ∧ Cj w W) (fun (k : Nat) => l1.length - k) (0) DK rJ ⟨by omega, by omega, by simp, Cj.refl _⟩ ?_
  rintro k w1 ⟨hk, hl, ht, hD⟩
  dsimp only [List.cons_append, List.nil_append]
  refine kQ (aT (fJ O O) (uV (dw O (fun h2 => ?_) (fun h2 => ?_))))
  ·(try simp only [aG] at h2)
   refine gX (aI (bK (bT O (vI O ?_))))
   obtain ⟨b1, o1, rfl, hq1⟩ := hr1 (by omega)
   obtain ⟨b2, o2, rfl, hq2⟩ := hr2 (by omega)
   have hc1 := hq1 k (by omega)
   have hc2 := hq2 k (by omega)
   refine vU (n := 9) [0, 1, 2, 3, 4, 5, 6, 7, 8] (fun W => W.heap = w1.heap) (by kernel_rfl) (by kernel_rfl) O ?_
   have hS0 : (fun W => W.heap = w1.heap) (w1.drew) := rfl
   refine fM 0 O hS0 O (fM 1 O hS0 O (iE 2 O hS0 (fun _ => dP aB jU O O (by omega)) ?_))
   refine iD 3 O hS0 (fun W hW => fB (dG fO O) O (by rw [Gt (hW.trans hD.heap)]; simpa using hc1)) ?_
   refine fM 4 O hS0 O (fM 5 O hS0 O (iE 6 O hS0 (fun _ => dP aB jU O O (by omega)) ?_))
   refine iD 7 O hS0 (fun W hW => fB (dG fO O) O (by rw [Gt (hW.trans hD.heap)]; simpa using hc2)) ?_
   refine iE 8 O hS0 (fun _ => fF O O) (oH (aZ (dw O (fun h3 => ?_) (fun h3 => ?_))))
   ·(try simp only [aG] at h3)
    refine jE O (aY (aC (aC (aY (aC (dO results62 O ?_))))))
    exact ⟨by rw [show (l1 == l2) = false from beq_eq_false_iff_ne.2 (by rintro rfl; exact h3 rfl)], hD.drew⟩
   ·(try simp only [aG] at h3)
    refine eG (aS (aZ (aF (aT (gY O O (by omega)) (cO O (dJ ?_))))))
    refine fG (k + 1) ?_ ?_ ?_ ?_
    ·exact rJ
    ·exact DK
    ·(try dsimp only)
     first | done | exact ⟨by omega, by omega, MP (by omega) (by omega) ht (by simpa using h3), hD.drew⟩
    ·(try dsimp only); omega
  ·(try simp only [aG] at h2)
   refine iZ (bC (bC (dK (aZ (jE O (dO results62 O ?_))))))
   exact ⟨by rw [show (l1 == l2) = true from beq_iff_eq.2 (by rw [List.take_of_length_le (by omega), List.take_of_length_le (by omega)] at ht; exact ht)], hD⟩
theorem zf : (prog.info? 21).map (fun i => (i.zero, i.size, i.bytes)) = some (some (.int .i32 0), 1, 4) := by kernel_rfl
theorem Aw {w0 w : World} {F : HP} {v : Value} {l : List Int} (H : V w0 w F) (hr : jZ w0 F .i32 v l) (hb : l.length * 4 ≤ 140737488355328) :
    iK prog 144 #[v] w fun v' w' => V w0 w' (kF 21 .i32 v' l • F) := by
  obtain ⟨a, c, rfl, h1, h2, h3⟩ := (hr w H).open
  refine jl func144 ntmps144 ?_
  refine kG O (aI (bT O (aT (Jr aB O O) ?_)))
  refine jo O (fun h1 => ?_) (fun h1 => ?_)
  · (try simp only [aG] at h1)
    refine jE O (aC (dO results144 O ?_))
    obtain rfl : a = none := by simpa using h1
    obtain rfl : l = [] := by
      cases l with
      | nil => rfl
      | cons x l => obtain ⟨b, o, e, _⟩ := h3 (by simp); cases e
    exact H.iV none
  · (try simp only [aG] at h1)
    refine gX (kQ (jT (mX (vs := []) H aB jU zeroValue21 O O O (by decide) (by simp)) ?_))
    rintro _ w1 H1
    refine cO O (jT (eF (l := []) H1 (hr.under _ H1) aB zf O O (by simp; omega) (by simpa using hb)) ?_)
    rintro _ w2 H2
    refine iJ O (dO results144 O ?_)
    exact H2
theorem adL {w0 w : World} {F : HP} {n : Int} (H : V w0 w F) (h0 : 0 ≤ n) (hb : n ≤ 70368744177664) :
  iK prog 193 #[.slice none 0 0, .int .i64 n] w fun v' w' => V w0 w' (kF 21 .i32 v' [] • F) := by
 refine nO func193 ntmps193 ?_
 refine kG O (aI (bT O (aT (fJ O O) (iR (VR O (fun h1 => ?_))))))
 (try simp only [aG] at h1)
 refine gX (aI (bT O (cO O (aT (agP aB O) (cO O (aT (kE aB O) (aT (nN O O (by omega)) (aT (nN O O (by omega)) (iU O (bT O (aT (fZ O O) (jo O (fun h2 => ?_) (fun h2 => ?_)))))))))))))
 ·(try simp only [aG] at h2)
  refine aF (ku O O (aT (agP aB O) (aT (zy aB jU O O O (by omega)) ?_)))
  refine cO O (jT (QV H aB ay zf O O (by omega) (by omega) (by omega)) ?_)
  rintro _ w1 ⟨g, c, cur, rfl, hc1, hc2, hc3, H1⟩
  refine cO O (aT (kE aB O) (aT (zy aB jU O O O (by omega)) ?_))
  refine iU O (bT O (iJ O (dO results193 O ?_)))
  exact H1.Ia (o := 0) (by simp) (UU 1 0 g 0 _ c) (by simp) hc2 (by simpa using hc3) (by simp)
 ·(try simp only [aG] at h2)
  refine gX (bT O (iJ O (dO results193 O ?_)))
  exact H.iV none
theorem aac {w0 w : World} {F : HP} {v : Value} {vs : List Value} {ls : List (List Int)} (H : V w0 w F) (hv : Ht w0 F 1 v ls.length vs) (hls : ∀ k, k < ls.length → jZ w0 F .i32 (vs.getD k undef) (ls.getD k [])) (hb : ls.flatten.length * 4 ≤ 140737488355328) :
  iK prog 182 #[v] w fun v' w' => V w0 w' (kF 21 .i32 v' ls.flatten • F) := by
 obtain ⟨_, a, c, rfl, hc1, hc2, _⟩ := hv w H
 refine jl func182 ntmps182 ?_
 refine kG O (kG O (aI (bT O (aT (kE bF O) (cO O (iR (bK ?_)))))))
 refine jh [(0, _), (9, _), (10, _)] (fun (k : Nat) => [(3, .int .i64 ((ls.take k).flatten.length : Int)), (11, .int .i64 (k : Int))]) (fun (k : Nat) W => k ≤ ls.length ∧ V w0 W F) (fun (k : Nat) => ls.length - k) (0) DK (Sub.vG O (by simp) (Sub.vG O (O) (Sub.nil _))) ⟨by omega, H⟩ ?_
 rintro k w1 ⟨hk, HL⟩
 dsimp only [List.cons_append, List.nil_append]
 refine kQ (aT (fJ O O) (uV (dw O (fun h1 => ?_) (fun h1 => ?_))))
 ·(try simp only [aG] at h1)
  refine gX (aI (bK (aI ?_)))
  have hk1 : k < ls.length := by omega
  obtain ⟨b, o, rfl, hc⟩ := hv.cell HL (j := k) (by omega)
  obtain ⟨ak, ck, ek, hk2, hk3, _⟩ := (hls k hk1 _ HL).open
  rw [ek] at hc
  have hfl := VO ls (k + 1)
  rw [Ko ls hk1, List.length_append] at hfl
  refine aF (aT (dP bF bI O O (by omega)) ?_)
  refine aT (fB (dG aB O) O (by rw [show ((k : Int).toNat * 1) = k from by omega]; exact hc)) ?_
  refine iU O (bT O (cO O (aT (kE aB O) (aT (gY O O (by omega)) (iU O (bT O (aT (fJ O O) (iR (VR O (fun h2 => ?_))))))))))
  (try simp only [aG] at h2)
  refine eG (aS (aZ (aF (aT (gY O O (by omega)) (cO O (dJ ?_))))))
  refine fG (k + 1) ?_ ?_ ?_ ?_
  ·exact (Sub.vG O (by rw [Ko ls hk1, List.length_append, Int.natCast_add]) rJ)
  ·exact DK
  ·(try dsimp only)
   first | done | exact ⟨by omega, HL⟩
  ·(try dsimp only); omega
 ·(try simp only [aG] at h1)
  refine iZ (bC (bC (dK (aZ (bT O (fH O func193 (adL HL (by omega) (by have := VO ls k; omega)) ?_))))))
  rintro vg w2 H2
  refine vI O (bT O (aT (kE bF O) (cO O (iR (bK ?_)))))
  refine jh [(25, _), (26, _)] (fun (⟨k, u⟩ : Nat × Value) => [(6, u), (27, .int .i64 (k : Int))]) (fun (⟨k, u⟩ : Nat × Value) W => k ≤ ls.length ∧ V w0 W (kF 21 .i32 u (ls.take k).flatten • F)) (fun (⟨k, u⟩ : Nat × Value) => ls.length - k) ((0, vg)) vV vV ⟨by omega, H2⟩ ?_
  rintro ⟨k, u⟩ w3 ⟨hk, HM⟩
  dsimp only [List.cons_append, List.nil_append]
  refine kQ (aT (fJ O O) (uV (dw O (fun h3 => ?_) (fun h3 => ?_))))
  ·(try simp only [aG] at h3)
   refine gX (aI (bK (aI ?_)))
   have hk1 : k < ls.length := by omega
   obtain ⟨b, o, rfl, hc⟩ := hv.cell HM.right (j := k) (by omega)
   have hrk := hls k hk1
   have hfl := VO ls (k + 1)
   rw [Ko ls hk1, List.length_append] at hfl
   refine aF (aT (dP bF bI O O (by omega)) ?_)
   refine aT (fB (dG aB O) O (by rw [show ((k : Int).toNat * 1) = k from by omega]; exact hc)) ?_
   refine iU O (aF (ku O O (jT (eF HM (hrk _ HM.right) aB zf O O (by omega) (by omega)) ?_)))
   rintro va w4 H4
   refine lg O (dJ (aS (aZ (aF (aT (gY O O (by omega)) (cO O (dJ ?_)))))))
   refine fG ((k + 1, va)) ?_ ?_ ?_ ?_
   ·exact vV
   ·exact vV
   ·(try dsimp only)
    first | done | exact ⟨by omega, by rw [Ko ls hk1]; exact H4⟩
   ·(try dsimp only); omega
  ·(try simp only [aG] at h3)
   refine iZ (bC (bC (dK (aZ (bT O (iJ O (dO results182 O ?_)))))))
   rw [List.take_of_length_le (by omega)] at HM; exact HM
theorem Jy {w0 w : World} {F : HP} {b : Nat} {T : TypeId} {u1 u2 : Value} {l1 l2 : List Int} (H : V w0 w (gU b (.cells #[u1, u2] T (0, 0)) • F)) (h1 : jZ w0 (gU b (.cells #[u1, u2] T (0, 0)) • F) .i32 u1 l1) (h2 : jZ w0 (gU b (.cells #[u1, u2] T (0, 0)) • F) .i32 u2 l2)
    (hb : (l1.length + l2.length) * 4 ≤ 140737488355328) :
    iK prog 182 #[.slice (some ⟨b, 0, none⟩) 2 2] w fun v' w' => V w0 w' (kF 21 .i32 v' (l1 ++ l2) • gU b (.cells #[u1, u2] T (0, 0)) • F) := by
  have := aac (ls := [l1, l2]) (vs := [u1, u2]) (v := .slice (some ⟨b, 0, none⟩) 2 2) H (fun W HW => ⟨rfl, _, 2, rfl, by simp, by decide, fun _ => ⟨b, 0, rfl, fun j hj => ?_⟩⟩) (fun k hk => ?_) (by simpa using hb)
  · simpa using this
  · refine iP HW.get.2 ?_
    simp at hj
    match j, hj with
    | 0, _ => rfl
    | 1, _ => rfl
  · simp at hk
    match k, hk with
    | 0, _ => exact h1
    | 1, _ => exact h2
end Go.Proofs.YtnhhmieghbfalaaGreatDoor
end
section
namespace Go.Proofs.YtnhhmieghbfalaaGreatDoor
open Go.RowKit
def Ja (I : Hp) (k : IntKind) (vs : List Value) (ls : List (List Int)) : Prop := vs.length = ls.length ∧ ∀ j, j < ls.length → KD I k (vs.getD j undef) (ls.getD j [])
def vH (k : IntKind) (vs : List Value) (ls : List (List Int)) : HP := know (fun I => Ja I k vs ls) fun _ _ hl h => ⟨h.1, fun j hj => (h.2 j hj).mono hl⟩
def LL (e : TypeId) (k : IntKind) (v : Value) (ls : List (List Int)) : HP := BK fun vs => Row e 1 v ls.length vs • vH k vs ls
theorem C9 {α : Type _} {l m : List α} {j : Nat} {d : α} (h : j < l.length) : (l ++ m).getD j d = l.getD j d := by simp [List.getD_eq_getElem?_getD, List.getElem?_append_left h]
theorem Bj {α : Type _} {l m : List α} {j : Nat} {d : α} (h : l.length ≤ j) : (l ++ m).getD j d = m.getD (j - l.length) d := by simp [List.getD_eq_getElem?_getD, List.getElem?_append_right h]
theorem U1 {α : Type _} {l : List α} {i j : Nat} {d : α} : (l.drop i).getD j d = l.getD (i + j) d := by simp [List.getD_eq_getElem?_getD]
theorem Om {α : Type _} {l : List α} {i j : Nat} {d : α} (h : j < i) : (l.take i).getD j d = l.getD j d := by simp [List.getD_eq_getElem?_getD, List.getElem?_take, h]
theorem vM {α : Type _} {l : List α} {j : Nat} {d : α} (h : j < l.length) : l.getD j d ∈ l := by rw [List.getD_eq_getElem?_getD, List.getElem?_eq_getElem h]; exact List.getElem_mem h
theorem Ja.app {I : Hp} {k : IntKind} {vs us : List Value} {ls ms : List (List Int)} (h : Ja I k vs ls) (g : Ja I k us ms) : Ja I k (vs ++ us) (ls ++ ms) := by
  refine ⟨by simp [h.1, g.1], fun j hj => ?_⟩
  by_cases hl : j < ls.length
  · rw [C9 (by rw [h.1]; exact hl), C9 hl]; exact h.2 j hl
  · have hj' : j - ls.length < ms.length := by simp at hj; omega
    rw [Bj (by rw [h.1]; omega), Bj (by omega), h.1]; exact g.2 _ hj'
theorem Ja.drop {I : Hp} {k : IntKind} {vs : List Value} {ls : List (List Int)} (h : Ja I k vs ls) (i : Nat) : Ja I k (vs.drop i) (ls.drop i) := by
  refine ⟨by simp [h.1], fun j hj => ?_⟩
  rw [U1, U1]
  exact h.2 _ (by simp at hj; omega)
theorem Ja.take {I : Hp} {k : IntKind} {vs : List Value} {ls : List (List Int)} (h : Ja I k vs ls) (i : Nat) : Ja I k (vs.take i) (ls.take i) := by
  refine ⟨by simp [h.1], fun j hj => ?_⟩
  simp at hj
  rw [Om (by omega), Om (by omega)]
  exact h.2 _ (by omega)
theorem KD.one {I : Hp} {k : IntKind} {v : Value} {l : List Int} (h : KD I k v l) : Ja I k [v] [l] := ⟨rfl, fun j hj => by
  obtain rfl : j = 0 := by simp at hj; omega
  exact h⟩
theorem KD.aby {I : Hp} {k : IntKind} {v : Value} {l : List Int} (h : KD I k v l) : v.oneCell' = true := by obtain ⟨a, c, rfl, _⟩ := h; rfl
section
variable {w0 w : World} {F : HP} {e : TypeId} {k : IntKind} {v : Value} {vs us : List Value} {ls ms : List (List Int)} {l : List Int}
theorem V.Dc (H : V w0 w (vH k vs ls • F)) {j : Nat} (hj : j < ls.length) : mP w k (vs.getD j undef) (ls.getD j []) := let ⟨I, h, hI⟩ := H.zx; (h.2 j hj).rd hI
theorem V.XZ (H : V w0 w (vH k vs ls • F)) : vs.length = ls.length := let ⟨I, h, hI⟩ := H.zx; h.1
theorem V.Gy (H : V w0 w (vH k vs ls • F)) : ∀ u ∈ vs, u.oneCell' = true := by
  obtain ⟨I, h, hI⟩ := H.zx
  intro u hu
  obtain ⟨j, hj, rfl⟩ := List.getElem_of_mem hu
  have := (h.2 j (by rw [← h.1]; exact hj)).aby
  rwa [List.getD_eq_getElem?_getD, List.getElem?_eq_getElem hj] at this
theorem V.Rh (H : V w0 w F) : V w0 w (vH k [] [] • F) := H.Eb fun I => ⟨rfl, fun j hj => by simp at hj⟩
theorem V.U2 (H : V w0 w (vH k vs ls • uQ k v l • F)) : V w0 w (vH k (vs ++ [v]) (ls ++ [l]) • F) := H.I5 (xJ (fun I h g => h.app g.one) F)
theorem V.Ew (H : V w0 w (uQ k v l • vH k vs ls • F)) : V w0 w (vH k (v :: vs) (l :: ls) • F) := H.I5 (xJ (fun I h g => h.one.app g) F)
theorem V.U3 (H : V w0 w (vH k vs ls • F)) (i : Nat) : V w0 w (vH k (vs.drop i) (ls.drop i) • F) := H.I5 (qH (fun I h => h.drop i) F)
theorem V.acn (H : V w0 w (vH k vs ls • F)) (i : Nat) : V w0 w (vH k (vs.take i) (ls.take i) • F) := H.I5 (qH (fun I h => h.take i) F)
theorem V.ll (H : V w0 w (LL e k v ls • F)) : ∃ vs, V w0 w (Row e 1 v ls.length vs • vH k vs ls • F) := let ⟨vs, h⟩ := H.sS; ⟨vs, h.flat⟩
theorem V.agS (H : V w0 w (Row e 1 v ls.length vs • vH k vs ls • F)) : V w0 w (LL e k v ls • F) := V.lK vs H.deep
theorem V.yT {n : Nat} (H : V w0 w (Row e 1 v n vs • vH k vs ls • F)) : V w0 w (LL e k v ls • F) := by
  have h1 := H.Ea
  have h2 := H.swap.XZ
  obtain rfl : n = ls.length := by omega
  exact H.agS
theorem V.Qu (H : V w0 w (LL e k v ls • F)) {n : Nat} (h : n ≤ ls.length) : V w0 w (LL e k (xI 1 0 n v) (ls.take n) • F) := by
  obtain ⟨vs, H⟩ := H.ll
  have H1 := (H.XR h).swap.acn n |>.swap
  rw [Nat.mul_one] at H1
  exact V.yT H1
theorem Rd.agT {n : Nat} {xs : List Value} (hr : Rd w 1 v n xs) {i : Nat} (h : i ≤ n) : Rd w 1 (xI 1 0 i v) i (xs.take i) := by
  have h1 := hr.cut (Nat.zero_le i) h
  simpa using h1
theorem Rd.agU {n : Nat} {xs : List Value} (hr : Rd w 1 v n xs) {i : Nat} (h : i ≤ n) : Rd w 1 (xI 1 i n v) (n - i) (xs.drop i) := by
  have h1 := hr.cut h (Nat.le_refl _)
  rwa [Nat.mul_one, Nat.mul_one, List.take_of_length_le (by simp [hr.len])] at h1
end
theorem adM {α : Type _} {enc : α → List Value} {sz : Nat} (he : ∀ a, (enc a).length = sz) (l : List α) : (l.flatMap enc).length = l.length * sz := by
  induction l with
  | nil => simp
  | cons a l ih => simp [he, ih, Nat.add_mul, Nat.add_comm]
theorem mY {α : Type _} {enc : α → List Value} {sz : Nat} (he : ∀ a, (enc a).length = sz) {l : List α} {k : Nat} (hk : k < l.length) (d : α) : ((l.flatMap enc).drop (k * sz)).take sz = enc (l.getD k d) := by
  have h1 : l = l.take k ++ l.getD k d :: l.drop (k + 1) := by
    rw [List.getD_eq_getElem?_getD, List.getElem?_eq_getElem hk]
    simp
  have h2 : ((l.take k).flatMap enc).length = k * sz := by rw [adM he, List.length_take, Nat.min_eq_left (by omega)]
  conv => lhs; rw [h1]
  rw [List.flatMap_append, List.drop_append, h2]
  simp [h2, List.take_append, he]
theorem VX {α : Type _} [Inhabited α] {sz n : Nat} {enc : α → List Value} {xs : List Value} {p : α → Prop} (hx : xs.length = n * sz) (h : ∀ k, k < n → ∃ a, (xs.drop (k * sz)).take sz = enc a ∧ p a) : ∃ l : List α, l.length = n ∧ xs = l.flatMap enc ∧ ∀ k, k < n → p (l.getD k default) := by
  induction n generalizing xs with
  | zero => exact ⟨[], rfl, by simpa using List.eq_nil_of_length_eq_zero (by simpa using hx), fun k hk => by omega⟩
  | succ n ih =>
    obtain ⟨a, h1, h2⟩ := h 0 (by omega)
    rw [Nat.zero_mul, List.drop_zero] at h1
    obtain ⟨l, g1, g2, g3⟩ := ih (xs := xs.drop sz) (by rw [List.length_drop, hx, Nat.succ_mul]; omega) (fun k hk => by
      obtain ⟨b, h3, h4⟩ := h (k + 1) (by omega)
      exact ⟨b, by rw [← h3, List.drop_drop, Nat.succ_mul, Nat.add_comm], h4⟩)
    refine ⟨a :: l, by simp [g1], ?_, fun k hk => ?_⟩
    · rw [List.flatMap_cons, ← g2, ← h1, List.take_append_drop]
    · cases k with
      | zero => exact h2
      | succ k => exact g3 k (by omega)
theorem mF {P : Program} {L : List (Nat × Value)} {w : World} {ty : TypeId} {x : Operand} {t : TypeId} {d : TypeDesc} {b o n c sz n' k : Nat} {xs ys : List Value} (hr : Rd w sz (.slice (some ⟨b, o, none⟩) n c) n' xs) (hk : k < n') (hu : P.underlying t = some d) (hd : VQ d = true) (hs : ∀ w, (sizeOf t).run P w = .ok sz w)
    (hx : ev L x = some (.pointer (some ⟨b, o + (k : Int).toNat * sz, none⟩))) (hy : (xs.drop (k * sz)).take sz = ys) (hl : ys.length = sz) : Val P L (.load t x) ty w (.agg ys.toArray) w :=
  Hz (by rw [hu]; rfl) (UW hu hd) hs hl hx (fun j u hj => by
    have hjl : j < sz := by rw [← hl]; exact (List.getElem?_eq_some_iff.1 hj).1
    rw [hr.atS hk hjl, List.getD_eq_getElem?_getD]
    rw [← hy, List.getElem?_take, if_pos hjl, List.getElem?_drop] at hj
    rw [hj]; rfl)
end Go.Proofs.YtnhhmieghbfalaaGreatDoor
end
section
namespace Go.Proofs.YtnhhmieghbfalaaGreatDoor
open Go.RowKit
open _root_.Go.Proofs.Tryz
section
variable {w0 w : World} {F : HP} {v d s z d2 z2 u1 u2 u3 : Value} {L dl il dl2 il2 l1 l2 l3 : List Int} {a a2 : Int}
theorem Ri (H : V w0 w F) (hv : jZ w0 F .i32 v L) (hb : L.length ≤ 35184372088832) :
    iK prog 194 #[v] w fun v' w' => V w0 w' (kF 21 .i32 v' L • F) := by
  refine jl func194 ntmps194 ?_
  refine kG O (bT O (jT (eF (l := []) (H.iV none) (hv _ (H)) aB O5 O O (by first | omega | (simp only [List.length_append, List.length_nil, List.length_cons]; omega) | (simp; omega)) (by first | omega | (simp only [List.length_append, List.length_nil, List.length_cons]; omega) | (simp; omega))) ?_))
  rintro l1 w1 H1
  try simp only [List.nil_append] at H1
  refine iJ O (dO results194 O ?_)
  exact H1
def akr (L : List Int) (a : Int) (dl : List Int) : Bool := decide (0 ≤ a ∧ a + dl.length ≤ L.length) && ((L.drop a.toNat).take dl.length == dl)
def uE (L : List Int) (a : Int) (dl il : List Int) : Int := if akr L a dl then (if 1024 < (L.length : Int) - dl.length + il.length then 3 else 0) else 1
def uL (L : List Int) (a : Int) (dl il : List Int) : List Int := if uE L a dl il = 0 then L.take a.toNat ++ il ++ L.drop (a.toNat + dl.length) else []
abbrev edV (a : Int) (d z : Value) : Value := .agg #[.int .i64 a, d, z]
theorem Ec (H : V w0 w F) (hd : jZ w0 F .i32 d dl) (hi : jZ w0 F .i32 z il) (b2 : dl.length ≤ 35184372087808) (b3 : il.length ≤ 35184372087808) :
  iK prog 172 #[edV a d z] w fun v' w' => ∃ d' s', v' = edV a d' s' ∧ V w0 w' (kF 21 .i32 d' dl • kF 21 .i32 s' il • F) := by
 refine jl func172 ntmps172 ?_
 refine kQ (jT (kZ (l := [_, _, _]) H O O) ?_)
 rintro _ w1 ⟨b1, rfl, H1⟩
 refine jT (iI (l := [_, _, _]) H1 cZ O) ?_
 rintro _ w2 ⟨b2, rfl, H2⟩
 refine uV ?_
 have Jz := H2.drew
 have jL := V.kp (Jz.f2.f2)
 refine tH [1, 3, 6] jL O (eP 0 O jL 0 aQ O ah O (iD 1 O jL (fun W hW => jk ay O ((Kp.h hW).f2).get.2 O) (eP 2 O jL 1 aQ O bI O (iD 3 O jL (fun W hW => jk aB O ((Kp.h hW).f2).get.2 O) (eP 5 O jL 2 aQ O bI O (iD 6 O jL (fun W hW => jk aB O ((Kp.h hW).f2).get.2 O) (lC 4 O (qW O func144 (Aw Jz (fun W HW => hd _ (HW.right.right)) (by omega))) ?_)))))))
 rintro u3 w3 H3
 have lW := V.kp (H3.f3.f3.f3)
 refine dZ lW (fun W hW => (Kp.h hW).right.f2.f2) ?_
 refine lC 7 O (qW O func144 (Aw H3 (fun W HW => hi _ (HW.right.right.right)) (by omega))) ?_
 rintro u4 w4 H4
 have ng := V.kp (H4.f4.f4.f4.f4)
 refine dZ ng (fun W hW => (Kp.h hW).right.f3.f3.f3) ?_
 obtain ⟨au3, cu3, eu3, -⟩ := mP.open ((H4.f2).aJ)
 subst eu3
 obtain ⟨au4, cu4, eu4, -⟩ := mP.open ((H4).aJ)
 subst eu4
 refine iE 8 O ng (fun _ => kS (pl := #[(0, 1), (1, 1), (2, 1)]) (#[_, _, _]) aQ cZ (fun w => by kernel_rfl) O (O)) ?_
 refine gW 9 O (by kernel_rfl) (dR 0 (l' := [_, _, _]) (us := [_, _, _]) H4.f3 bM O O O (aP (bD (by first | rfl | exact Rd.one ((H4.f2).aJ)) (bD (by first | rfl | exact Rd.one ((H4).aJ)) bW))) O O) ?_
 rintro _ w7 H7
 have Ak := V.kp (H7.f4.f4.f4.f4)
 refine dX Ak (by kernel_rfl) ?_
 refine oH (aZ (kN ?_))
 refine wW (.inl O) (Oj results172 O aQ O (by rw [pq]; rfl) (H7).get.2) ?_
 exact ⟨_, _, O, H7.right.f3.right.f2⟩
theorem Oo (H : V w0 w F) (hd : jZ w0 F .i32 d dl) (hi : jZ w0 F .i32 z il) (b2 : dl.length ≤ 35184372087808) (b3 : il.length ≤ 35184372087808) :
  iK prog 192 #[edV a d z] w fun v' w' => ∃ d' s', v' = edV a d' s' ∧ V w0 w' (kF 21 .i32 d' il • kF 21 .i32 s' dl • F) := by
 refine jl func192 ntmps192 ?_
 refine kQ (jT (kZ (l := [_, _, _]) H O O) ?_)
 rintro _ w1 ⟨b1, rfl, H1⟩
 refine jT (iI (l := [_, _, _]) H1 cZ O) ?_
 rintro _ w2 ⟨b2, rfl, H2⟩
 refine zk7 (bg 0 aQ O ah O (dQ ay O (H2.f2).get.2 O (bg 2 aQ O bI O (dQ aB O (H2.f2).get.2 O (bg 1 aQ O bI O (dQ aB O (H2.f2).get.2 O ?_))))))
 obtain ⟨az, cz, ez, -⟩ := mP.open (hi _ (H2.right.right))
 subst ez
 obtain ⟨ad, cd, ed, -⟩ := mP.open (hd _ (H2.right.right))
 subst ed
 refine aT (kS (pl := #[(0, 1), (1, 1), (2, 1)]) (#[_, _, _]) aQ cZ (fun w => by kernel_rfl) O (O)) (fH O func172 (Ec H2 (fun W HW => hi _ (HW.right.right)) (fun W HW => hd _ (HW.right.right)) (by omega) (by omega)) ?_)
 rintro _ w5 ⟨d5, s5, rfl, H5⟩
 refine aH (dR 0 (l' := [_, _, _]) (us := [_, _, _]) H5.f3 bM O O O (aP (bD (by first | rfl | exact Rd.one ((H5).aJ)) (bD (by first | rfl | exact Rd.one ((H5.f2).aJ)) bW))) O O) ?_
 rintro _ w6 H6
 refine zkc ?_
 refine wW (.inl O) (Oj results192 O aQ O (by rw [pq]; rfl) (H6).get.2) ?_
 exact ⟨_, _, O, H6.right.f3.right.f2.f2⟩
theorem PY (H : V w0 w F) (hd : jZ w0 F .i32 d dl) (hi : jZ w0 F .i32 z il) (b2 : dl.length ≤ 35184372087808) (b3 : il.length ≤ 35184372087808) :
  iK prog 184 #[edV a d z] w fun v' w' => ∃ d' s', v' = edV a d' s' ∧ V w0 w' (kF 21 .i32 d' il • kF 21 .i32 s' dl • F) := by
 refine jl func184 ntmps184 ?_
 refine kQ (jT (kZ (l := [_, _, _]) H O O) ?_)
 rintro _ w1 ⟨b1, rfl, H1⟩
 refine jT (iI (l := [_, _, _]) H1 cZ O) ?_
 rintro _ w2 ⟨b2, rfl, H2⟩
 refine uV ?_
 have Jz := H2.drew
 have jL := V.kp (Jz.f2.f2)
 refine tH [1, 3, 6] jL O (eP 0 O jL 0 aQ O ah O (iD 1 O jL (fun W hW => jk ay O ((Kp.h hW).f2).get.2 O) (eP 2 O jL 2 aQ O bI O (iD 3 O jL (fun W hW => jk aB O ((Kp.h hW).f2).get.2 O) (eP 5 O jL 1 aQ O bI O (iD 6 O jL (fun W hW => jk aB O ((Kp.h hW).f2).get.2 O) (lC 4 O (qW O func194 (Ri Jz (fun W HW => hi _ (HW.right.right)) (by first|omega|(simp only [List.length_take]; omega)))) ?_)))))))
 rintro u3 w3 H3
 have lW := V.kp (H3.f3.f3.f3)
 refine dZ lW (fun W hW => (Kp.h hW).right.f2.f2) ?_
 refine lC 7 O (qW O func194 (Ri H3 (fun W HW => hd _ (HW.right.right.right)) (by first|omega|(simp only [List.length_take]; omega)))) ?_
 rintro u4 w4 H4
 have ng := V.kp (H4.f4.f4.f4.f4)
 refine dZ ng (fun W hW => (Kp.h hW).right.f3.f3.f3) ?_
 obtain ⟨au3, cu3, eu3, -⟩ := mP.open ((H4.f2).aJ)
 subst eu3
 obtain ⟨au4, cu4, eu4, -⟩ := mP.open ((H4).aJ)
 subst eu4
 refine iE 8 O ng (fun _ => kS (pl := #[(0, 1), (1, 1), (2, 1)]) (#[_, _, _]) aQ cZ (fun w => by kernel_rfl) O (O)) ?_
 refine gW 9 O (by kernel_rfl) (dR 0 (l' := [_, _, _]) (us := [_, _, _]) H4.f3 bM O O O (aP (bD (by first | rfl | exact Rd.one ((H4.f2).aJ)) (bD (by first | rfl | exact Rd.one ((H4).aJ)) bW))) O O) ?_
 rintro _ w7 H7
 have Ak := V.kp (H7.f4.f4.f4.f4)
 refine dX Ak (by kernel_rfl) ?_
 refine oH (aZ (kN ?_))
 refine wW (.inl O) (Oj results184 O aQ O (by rw [pq]; rfl) (H7).get.2) ?_
 exact ⟨_, _, O, H7.right.f3.right.f2⟩
end
end Go.Proofs.YtnhhmieghbfalaaGreatDoor
end
section
namespace Go.Proofs.YtnhhmieghbfalaaGreatDoor
open Go.RowKit
section
variable {w0 w : World} {F : HP} {v d s z d2 z2 u1 u2 u3 : Value} {L dl il dl2 il2 l1 l2 l3 : List Int} {a a2 : Int}
def jK (a a2 : Int) (dl il dl2 il2 : List Int) : Nat := if dl2.length = 0 ∧ a2 = a + il.length then 1 else if il.length = 0 ∧ il2.length = 0 ∧ a = a2 + dl2.length then 2 else 0
def jA (k : Nat) (a a2 : Int) : Int := if k = 1 then a else if k = 2 then a2 else 0
def jD (k : Nat) (dl dl2 : List Int) : List Int := if k = 1 then dl else if k = 2 then dl2 ++ dl else []
def jI (k : Nat) (il il2 : List Int) : List Int := if k = 1 then il ++ il2 else []
end
end Go.Proofs.YtnhhmieghbfalaaGreatDoor
end
