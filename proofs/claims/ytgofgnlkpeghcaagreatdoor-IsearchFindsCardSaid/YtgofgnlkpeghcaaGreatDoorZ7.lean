import Derived.Test.YtgofgnlkpeghcaaGreatDoorZ4
import Derived.Test.YtgofgnlkpeghcaaGreatDoorZ6
import Derived.Test.YtgofgnlkpeghcaaGreatDoorZ5
set_option linter.unusedSimpArgs false
set_option linter.unusedVariables false
/- Texts of mine, joined, their names in short: Buf2 Buf3 LineP Move BLive Same Apply BufP Ring Ring2. -/
section
namespace Go.Proofs.YtgofgnlkpeghcaaGreatDoor
open Go.RowKit
open _root_.Go.Proofs.Tryz
def nU (L : List Int) (i r : Nat) : List Int := jU (jU (List.replicate (L.length + r + 16) 0) 0 (L.take i)) (i + r + 16) (L.drop i)
theorem Wq {L : List Int} {i r : Nat} (h : i ≤ L.length) : (nU L i r).length = L.length + r + 16 := by
  unfold nU
  rw [gI, gI] <;> simp [gI] <;> first | omega | (rw [gI] <;> simp <;> omega)
theorem KG {l ys : List Int} {i : Nat} (h : i + ys.length ≤ l.length) : (jU l i ys).take (i + ys.length) = l.take i ++ ys := by
  unfold jU
  rw [List.take_append_of_le_length (by simp; omega), List.take_of_length_le (by simp; omega)]
theorem Ul {l ys : List Int} {i j : Nat} (h : i + ys.length ≤ j) (h2 : j ≤ l.length) : (jU l i ys).drop j = l.drop j := by
  unfold jU
  rw [List.drop_append, List.drop_eq_nil_of_le (by simp; omega), List.nil_append, List.drop_drop]
  congr 1
  simp
  omega
theorem NV {l ys : List Int} {i j : Nat} (h : j ≤ i) (h2 : i ≤ l.length) : (jU l i ys).take j = l.take j := by
  unfold jU
  rw [List.append_assoc, List.take_append_of_le_length (by simp; omega), List.take_take, Nat.min_eq_left h]
theorem NW {l ys : List Int} {i : Nat} (h : i + ys.length = l.length) : (jU l i ys).drop i = ys := by
  unfold jU
  rw [List.append_assoc, List.drop_append, List.drop_eq_nil_of_le (by simp; omega), List.nil_append]
  simp [show i - min i l.length = 0 from by omega, show l.length ≤ i + ys.length from by omega]
theorem Um {L : List Int} {i r : Nat} (h : i ≤ L.length) : (nU L i r).take i = L.take i := by
  have h1 : (jU (List.replicate (L.length + r + 16) (0 : Int)) 0 (L.take i)).length = L.length + r + 16 := by rw [gI] <;> simp; omega
  unfold nU
  rw [NV (by omega) (by rw [h1]; omega)]
  have := KG (l := List.replicate (L.length + r + 16) (0 : Int)) (ys := L.take i) (i := 0) (by simp; omega)
  rw [show 0 + (L.take i).length = i from by simp; omega] at this
  simpa using this
theorem Un {L : List Int} {i r : Nat} (h : i ≤ L.length) : (nU L i r).drop (i + r + 16) = L.drop i := by
  have h1 : (jU (List.replicate (L.length + r + 16) (0 : Int)) 0 (L.take i)).length = L.length + r + 16 := by rw [gI] <;> simp; omega
  exact NW (by rw [h1]; simp; omega)
section
variable {w0 w : World} {F : HP} {p : Nat} {L : List Int} {pt mk : Int}
theorem Ry {i r : Nat} (H : V w0 w (ji p L pt mk • F)) (hi : i ≤ L.length) (hr : r ≤ 1024) :
  iM prog 151 #[.pointer (some ⟨p, 0, none⟩), .int .i64 i, .int .i64 r] w fun _ w' => ∃ v, V w0 w' (eF p (.cells (jL v i (i + r + 16 : Nat) pt mk) 189 (0, 0)) • jR 21 .i32 v (nU L i r) • F) := by
 have hL4 : L.length ≤ 1024 := by obtain ⟨a, c, xs, f, t, h1, h2, h3, h4, h5, h6, h7, hc1, hc2, hl, H1⟩ := H.buf; exact h4
 have e1 : ((L.length : Int) + r + 16).toNat = L.length + r + 16 := by omega
 refine NC func151 ntmps151 ?_
 refine bY O (fE O func95 (yg H) ?_)
 rintro u w1 H1
 obtain ⟨au, cu, hu, hcu, aiU, _⟩ := (H1.aN).form
 subst hu
 obtain ⟨a, c, xs, f, t, h1, h2, h3, h4, h5, h6, h7, hc1, hc2, hl, HB⟩ := H1.swap.buf
 refine iP O (bY O (bT O (aW (jS ay O) (bT O (aW (fP O O (by omega)) (aW (fP O O (by omega)) (iY (TY HB ay uI O O (by omega) (by omega) (by omega)) ?_)))))))
 rintro v w2 H2
 rw [e1] at H2
 have hm : (List.replicate (L.length + r + 16) (0 : Int)).length = L.length + r + 16 := by simp
 obtain ⟨av, cv, hv, hcv, hcv2, _⟩ := (H2.aN).form
 rw [hm] at hv hcv
 subst hv
 refine dO O (bn 1 bQ O bF O (aI (iK H2.swap bF O O O (by rw [pJ]; decide)) ?_))
 rintro _ w3 H3
 rw [YS] at H3
 refine ql O (mJ O O (bn 2 bQ O aj O (aI (iK H3 aj O O O (by rw [pJ]; decide)) ?_)))
 rintro _ w4 H4
 rw [Ee] at H4
 refine ql O (mJ O O (bn 1 bQ O bF O (fB ay O H4.get.2 O (aW (jS ay O) (bT O (aW (jS ay O) (bT O (aW (lW O O (by omega)) (aW (lW O O (by omega)) (dO O (bn 3 bQ O aj O (aI (iK H4 aj O O O (by rw [pJ]; decide)) ?_))))))))))))
 rintro _ w5 H5
 rw [Hg, show (((L.length + r + 16 : Nat) : Int) - ((L.length : Int) - (i : Int))) = ((i + r + 16 : Nat) : Int) from by omega] at H5
 have hb3 := H5.get.2
 refine rV ?_
 refine tC (n := 8) [0, 1, 2, 3, 4, 5, 6, 7] (fun W => W.heap[p]? = some (.cells (jL (.slice av (L.length + r + 16) cv) i (i + r + 16 : Nat) pt mk) 189 (0, 0))) (by kernel_rfl) (by kernel_rfl) O ?_
 have hS0 : (fun W => W.heap[p]? = some (.cells (jL (.slice av (L.length + r + 16) cv) i (i + r + 16 : Nat) pt mk) 189 (0, 0))) (w5.drew) := hb3
 have H4d := H5.drew
 refine gQ 0 O hS0 O (jQ 1 O hS0 O (fQ 2 O hS0 1 bQ O bF O (iO 3 O hS0 (fun W hW => jT ay O hW O) (gQ 4 O hS0 O (gQ 5 O hS0 O (iL 6 O hS0 (fun _ => uV ay iE O O O (by omega)) ?_))))))
 refine lU 7 O (EU (i := 0) (m := L.take i) H4d.swap (jP.upto H4d.r4.aN (by omega)) ay (by kernel_rfl) (by rw [hm, V6]; rfl) O (by simp; omega)) ?_
 rintro _ w6 ⟨rfl, H6⟩
 have hm2 : (jU (List.replicate (L.length + r + 16) (0 : Int)) 0 (L.take i)).length = L.length + r + 16 := by rw [gI] <;> simp; omega
 refine TV (by kernel_rfl) ?_
 refine qj (aZ ?_)
 refine tC (n := 13) [0, 1, 2, 3, 4, 5, 6, 7, 8, 9, 10, 11, 12] (fun W => W.heap[p]? = some (.cells (jL (.slice av (L.length + r + 16) cv) i (i + r + 16 : Nat) pt mk) 189 (0, 0))) (by kernel_rfl) (by kernel_rfl) O ?_
 have hS0 : (fun W => W.heap[p]? = some (.cells (jL (.slice av (L.length + r + 16) cv) i (i + r + 16 : Nat) pt mk) 189 (0, 0))) (w6.drew) := H6.swap.get.2
 have H5d := H6.drew
 refine gQ 0 O hS0 O (jQ 1 O hS0 O (fQ 2 O hS0 1 bQ O bF O (iO 3 O hS0 (fun W hW => jT ay O hW O) (gQ 4 O hS0 O (jQ 5 O hS0 O (fQ 6 O hS0 3 bQ O aj O (iO 7 O hS0 (fun W hW => jT aB O hW O) (iL 8 O hS0 (fun _ => uV ay iE O O O (by omega)) ?_))))))))
 refine gQ 9 O hS0 O (gQ 10 O hS0 O (iL 11 O hS0 (fun _ => uV ay iE O O O (by omega)) ?_))
 refine lU 12 O (EU (i := i + r + 16) (m := L.drop i) H5d (jP.from H5d.r4.aN (by omega)) ay (by kernel_rfl) (by rw [hm2]; rfl) O (by rw [hm2]; simp; omega)) ?_
 rintro _ w7 ⟨rfl, H7⟩
 refine TV (by kernel_rfl) ?_
 refine qj (kY (.inr O) results151 ?_)
 exact ⟨_, H7.swap.Qj.right.Qj.right⟩
theorem yh (H : V w0 w (ji p L pt mk • F)) : iM prog 115 #[.pointer (some ⟨p, 0, none⟩)] w fun v w' => v = .bool false ∧ w = w' := by
  obtain ⟨a, c, xs, f, t, h1, h2, h3, h4, h5, h6, h7, hc1, hc2, hl, H1⟩ := H.buf
  exact yc _ H1.get.2 rfl
def dV (pt i j n : Int) : Int := if j < pt then pt + (n - (j - i)) else if i ≤ pt then i + n else pt
def dW (mk i j n : Int) : Int := if j < mk then mk + (n - (j - i)) else if i < mk then i else mk
def eU (at_ : Int) (d i : Value) : Array Value := #[.int .i64 at_, d, i]
theorem kZ {at_ : Int} {d i : Value} (hd : d.oneCell' = true) (hi : i.oneCell' = true) : ∀ v ∈ (eU at_ d i).toList, v.oneCell' = true := by
  intro v hv
  simp [eU] at hv
  rcases hv with rfl | rfl | rfl <;> first | rfl | assumption
variable {v : Value} {l : List Int} {i j : Int}
theorem LD (H : V w0 w (ji p L pt mk • F)) (hr : jm w0 F .i32 v l) (hb : i < 0 ∨ L.length < i ∨ j < i ∨ L.length < j) :
  iM prog 112 #[.pointer (some ⟨p, 0, none⟩), .int .i64 i, .int .i64 j, v] w fun v' w' => v' = .tuple #[.agg (eU 0 (.slice none 0 0) (.slice none 0 0)), .int .i64 70] ∧ V w0 w' (ji p L pt mk • F) := by
 obtain ⟨a, c, rfl, _, _, _⟩ := (hr w H.right).open
 refine Pv func112 ntmps112 ?_
 refine jw (iY (xM H cO) ?_)
 rintro _ w1 ⟨b1, rfl, H1⟩
 refine iP O (bY O (fE O func116 (CB H1.right) ?_))
 rintro _ w2 ⟨rfl, hD⟩
 have HL := H1.Gp hD
 refine sS O (bg (bY O (fE O func115 (yh HL.right) ?_)))
 rintro _ _ ⟨rfl, rfl⟩
 refine iP O (dA O (fun h1 => ?_) (fun h1 => ?_))
 ·(try simp only [aF] at h1)
  exfalso; first | contradiction | omega
 ·(try simp only [aF] at h1)
  refine bY O (aW (fG O O) (mX O (fun h2 => ?_) (fun h2 => ?_)))
  ·(try simp only [aF] at h2)
   refine dF (dF (dF (nZ O O (bT O (dF (dF (dF (nZ O O (bT O (dF (dF (dF (nZ O O (iP O (GV (jw (aW (jB (pl := #[(0, 1), (1, 1), (2, 1)]) (eU 0 (.slice none 0 0) (.slice none 0 0)) aU cO (fun w => by kernel_rfl) O (by kernel_rfl)) (aI (dP (cs := eU 0 (.slice none 0 0) (.slice none 0 0)) HL bJ O O O O (kZ O O)) ?_))))))))))))))))))
   rintro _ w5 H5
   refine ig O (aX (aC ?_))
   refine jH (.inl O) lQ O O aU O (by rw [ny]; rfl) H5.get.2 ?_
   exact ⟨O, H5.right⟩
  ·(try simp only [aF] at h2)
   refine bW (bT O (bW (bT O (bW (aW (iT O O) (kX O O (mX O (fun h3 => ?_) (fun h3 => ?_))))))))
   ·(try simp only [aF] at h3)
    refine dF (dF (dF (nZ O O (bT O (dF (dF (dF (nZ O O (iP O (GV (jw (aW (jB (pl := #[(0, 1), (1, 1), (2, 1)]) (eU 0 (.slice none 0 0) (.slice none 0 0)) aU cO (fun w => by kernel_rfl) O (by kernel_rfl)) (aI (dP (cs := eU 0 (.slice none 0 0) (.slice none 0 0)) HL bJ O O O O (kZ O O)) ?_)))))))))))))
    rintro _ w6 H6
    refine ig O (aX (aC ?_))
    refine jH (.inl O) lQ O O aU O (by rw [ny]; rfl) H6.get.2 ?_
    exact ⟨O, H6.right⟩
   ·(try simp only [aF] at h3)
    refine bW (bT O (bW (bT O (bW (aW (fG O O) (kX O O (mX O (fun h4 => ?_) (fun h4 => ?_))))))))
    ·(try simp only [aF] at h4)
     refine dF (dF (dF (nZ O O (iP O (GV (jw (aW (jB (pl := #[(0, 1), (1, 1), (2, 1)]) (eU 0 (.slice none 0 0) (.slice none 0 0)) aU cO (fun w => by kernel_rfl) O (by kernel_rfl)) (aI (dP (cs := eU 0 (.slice none 0 0) (.slice none 0 0)) HL bJ O O O O (kZ O O)) ?_))))))))
     rintro _ w7 H7
     refine ig O (aX (aC ?_))
     refine jH (.inl O) lQ O O aU O (by rw [ny]; rfl) H7.get.2 ?_
     exact ⟨O, H7.right⟩
    ·(try simp only [aF] at h4)
     refine bW (bT O (bW (bT O (bW (aW (iT O O) (kX O O (iP O (wcA O (fun h5 => ?_)))))))))
     (try simp only [aF] at h5)
     refine jw (aW (jB (pl := #[(0, 1), (1, 1), (2, 1)]) (eU 0 (.slice none 0 0) (.slice none 0 0)) aU cO (fun w => by kernel_rfl) O (by kernel_rfl)) (aI (dP (cs := eU 0 (.slice none 0 0) (.slice none 0 0)) HL bJ O O O O (kZ O O)) ?_))
     rintro _ w8 H8
     refine ig O (aX (aC ?_))
     refine jH (.inl O) lQ O O aU O (by rw [ny]; rfl) H8.get.2 ?_
     exact ⟨O, H8.right⟩
theorem JM (H : V w0 w (ji p L pt mk • F)) (hr : jm w0 F .i32 v l) (hb : 0 ≤ i ∧ i ≤ j ∧ j ≤ L.length) (hl : 1024 < L.length - (j - i) + l.length) :
  iM prog 112 #[.pointer (some ⟨p, 0, none⟩), .int .i64 i, .int .i64 j, v] w fun v' w' => v' = .tuple #[.agg (eU 0 (.slice none 0 0) (.slice none 0 0)), .int .i64 3] ∧ V w0 w' (ji p L pt mk • F) := by
 obtain ⟨a, c, rfl, _, _, _⟩ := (hr w H.right).open
 have hL4 : L.length ≤ 1024 := by obtain ⟨a, c, xs, f, t, h1, h2, h3, h4, h5, h6, h7, hc1, hc2, hl, H1⟩ := H.buf; exact h4
 refine Pv func112 ntmps112 ?_
 refine jw (iY (xM H cO) ?_)
 rintro _ w1 ⟨b1, rfl, H1⟩
 refine iP O (bY O (fE O func116 (CB H1.right) ?_))
 rintro _ w2 ⟨rfl, hD⟩
 have HL := H1.Gp hD
 refine sS O (bg (bY O (fE O func115 (yh HL.right) ?_)))
 rintro _ _ ⟨rfl, rfl⟩
 refine iP O (dA O (fun h1 => ?_) (fun h1 => ?_))
 ·(try simp only [aF] at h1)
  exfalso; first | contradiction | omega
 ·(try simp only [aF] at h1)
  refine bY O (aW (fG O O) (mX O (fun h2 => ?_) (fun h2 => ?_)))
  ·(try simp only [aF] at h2)
   exfalso; first | contradiction | omega
  ·(try simp only [aF] at h2)
   refine bW (bT O (bW (bT O (bW (aW (iT O O) (kX O O (mX O (fun h3 => ?_) (fun h3 => ?_))))))))
   ·(try simp only [aF] at h3)
    exfalso; first | contradiction | omega
   ·(try simp only [aF] at h3)
    refine bW (bT O (bW (bT O (bW (aW (fG O O) (kX O O (mX O (fun h4 => ?_) (fun h4 => ?_))))))))
    ·(try simp only [aF] at h4)
     exfalso; first | contradiction | omega
    ·(try simp only [aF] at h4)
     refine bW (bT O (bW (bT O (bW (aW (iT O O) (kX O O (iP O (ZM O (fun h5 => ?_)))))))))
     (try simp only [aF] at h5)
     refine bY O (aW (jS ay O) (jy O O (bT O (aW (lW O O (by omega)) (aW (lW O O (by omega)) (aW (lW O O (by omega)) (aW (iT O O) (iP O (wcA O (fun h6 => ?_))))))))))
     (try simp only [aF] at h6)
     refine jw (aW (jB (pl := #[(0, 1), (1, 1), (2, 1)]) (eU 0 (.slice none 0 0) (.slice none 0 0)) aU cO (fun w => by kernel_rfl) O (by kernel_rfl)) (aI (dP (cs := eU 0 (.slice none 0 0) (.slice none 0 0)) HL bJ O O O O (kZ O O)) ?_))
     rintro _ w8 H8
     refine ig O (aX (aC ?_))
     refine jH (.inl O) lQ O O aU O (by rw [ny]; rfl) H8.get.2 ?_
     exact ⟨O, H8.right⟩
end
section
variable {w0 w : World} {F : HP} {p : Nat} {L : List Int} {pt mk : Int} {v : Value} {l : List Int} {i j : Int}
theorem NY {i j : Nat} (H : V w0 w (ji p L pt mk • F)) (hr : jm w0 F .i32 v l) (hb : i ≤ j ∧ j ≤ L.length) (hl : (L.length : Int) - ((j : Int) - i) + l.length ≤ 1024) :
    iM prog 112 #[.pointer (some ⟨p, 0, none⟩), .int .i64 i, .int .i64 j, v] w fun v' w' => ∃ d s, v' = .tuple #[.agg (eU i d s), .int .i64 0] ∧
      V w0 w' (jR 21 .i32 d ((L.drop i).take (j - i)) • jR 21 .i32 s l • ji p (L.take i ++ l ++ L.drop j) (dV pt i j l.length) (dW mk i j l.length) • F) := by
  obtain ⟨a, c, rfl, hac, agN, _⟩ := (hr w H.right).open
  obtain ⟨hL4, hpt, hmk⟩ : L.length ≤ 1024 ∧ (0 ≤ pt ∧ pt ≤ L.length) ∧ (-1 ≤ mk ∧ mk ≤ L.length) := by obtain ⟨a, c, xs, f, t, h1, h2, h3, h4, h5, h6, h7, hc1, hc2, hl, H1⟩ := H.buf; exact ⟨h4, h6, h7⟩
  have hg1 := Wq (L := L) (i := i) (r := l.length) (by omega)
  have hg2 := Um (L := L) (i := i) (r := l.length) (by omega)
  have hg3 := Un (L := L) (i := i) (r := l.length) (by omega)
  have hL' : L.take i ++ l ++ L.drop j = (jU (nU L i l.length) i l).take (i + l.length) ++ (jU (nU L i l.length) i l).drop (i + l.length + 16 + (j - i)) := by
    rw [KG (by omega), Ul (by omega) (by omega), hg2]
    congr 1
    rw [← List.drop_drop, hg3, List.drop_drop]
    congr 1; omega
  have hlen' : (L.take i ++ l ++ L.drop j).length = L.length - (j - i) + l.length := by simp; omega
  refine Pv func112 ntmps112 ?_
  refine jw (iY (xM H cO) ?_)
  rintro _ w1 ⟨b1, rfl, H1⟩
  refine iP O (bY O (fE O func116 (CB H1.right) ?_))
  rintro _ w2 ⟨rfl, hD⟩
  have HL := H1.Gp hD
  refine sS O (bg (bY O (fE O func115 (yh HL.right) ?_)))
  rintro _ _ ⟨rfl, rfl⟩
  refine iP O (dA O (fun h1 => ?_) (fun h1 => ?_))
  · (try simp only [aF] at h1)
    exfalso; first | contradiction | omega
  · (try simp only [aF] at h1)
    refine bY O (aW (fG O O) (mX O (fun h2 => ?_) (fun h2 => ?_)))
    · (try simp only [aF] at h2)
      exfalso; first | contradiction | omega
    · (try simp only [aF] at h2)
      refine bW (bT O (bW (bT O (bW (aW (iT O O) (kX O O (mX O (fun h3 => ?_) (fun h3 => ?_))))))))
      · (try simp only [aF] at h3)
        exfalso; first | contradiction | omega
      · (try simp only [aF] at h3)
        refine bW (bT O (bW (bT O (bW (aW (fG O O) (kX O O (mX O (fun h4 => ?_) (fun h4 => ?_))))))))
        · (try simp only [aF] at h4)
          exfalso; first | contradiction | omega
        · (try simp only [aF] at h4)
          refine bW (bT O (bW (bT O (bW (aW (iT O O) (kX O O (iP O (ZM O (fun h5 => ?_)))))))))
          (try simp only [aF] at h5)
          refine bY O (aW (jS ay O) (jy O O (bT O (aW (lW O O (by omega)) (aW (lW O O (by omega)) (aW (lW O O (by omega)) (aW (iT O O) (iP O (ZM O (fun h6 => ?_))))))))))
          (try simp only [aF] at h6)
          refine dS (aP (aZ (bY O (bT O (fE O func95 (yg HL.swap) ?_)))))
          rintro u w8 H8
          obtain ⟨au, cu, hu, _⟩ := (H8.aN).form
          subst hu
          refine jy O O (aW (uV ay iE O O O (by omega)) ?_)
          refine fE O func43 (uY H8 (fun W HW => jP.cut HW.aN (i := i) (j := j) (by omega) (by omega)) (by simp; omega)) ?_
          rintro d w9 H9
          have HC := H9.swap.right
          obtain ⟨ad, cd, hd, _⟩ := (HC.aN).form
          subst hd
          refine bT O (fE O func43 (uY HC hr.under.under.under (by omega)) ?_)
          rintro s w10 sF
          obtain ⟨ai, ci, hs, _⟩ := (sF.aN).form
          subst hs
          refine aW (jB (pl := #[(0, 1), (1, 1), (2, 1)]) (eU i (.slice ad ((L.drop i).take (j - i)).length cd) (.slice ai l.length ci)) aU cO (fun w => by kernel_rfl) O (by kernel_rfl)) (iY (xM sF cO) ?_)
          rintro _ Iq ⟨b11, rfl, sG⟩
          refine aI (dP (cs := eU i (.slice ad ((L.drop i).take (j - i)).length cd) (.slice ai l.length ci)) sG bJ O O O O (kZ O O)) ?_
          rintro _ w12 tN
          refine ql O (jy O O (aW (jS ay O) (fE O func151 (Ry tN.r4 (by omega) (by omega)) ?_)))
          rintro _ Qz ⟨x, Ak⟩
          obtain ⟨ax, cx, hx, _⟩ := (Ak.swap.aN).form
          subst hx
          refine ql O (dO O (bn 3 bQ O aj O (fB aB O Ak.get.2 O (jy O O (aW (lW O O (by omega)) (aW (fP O O (by omega)) (dO O (bn 3 bQ O aj O (aI (iK Ak aj O O O (by rw [pJ]; decide)) ?_)))))))))
          rintro _ TL Dh
          rw [Hg] at Dh
          have agO := Dh.get.2
          refine rV ?_
          refine tC (n := 11) [0, 1, 2, 3, 4, 5, 6, 7, 8, 9, 10] (fun W => W.heap[p]? = some (.cells (jL (.slice ax (nU L i l.length).length cx) i ((i + l.length + 16 : Nat) + ((j : Int) - i)) pt mk) 189 (0, 0))) (by kernel_rfl) (by kernel_rfl) O ?_
          have hS0 : (fun W => W.heap[p]? = some (.cells (jL (.slice ax (nU L i l.length).length cx) i ((i + l.length + 16 : Nat) + ((j : Int) - i)) pt mk) 189 (0, 0))) (TL.drew) := agO
          have aax := Dh.drew
          refine gQ 0 O hS0 O (jQ 1 O hS0 O (fQ 2 O hS0 1 bQ O bF O (iO 3 O hS0 (fun W hW => jT ay O hW O) (gQ 4 O hS0 O (jQ 5 O hS0 O (fQ 6 O hS0 2 bQ O aj O (iO 7 O hS0 (fun W hW => jT aB O hW O) (iL 8 O hS0 (fun _ => uV ay iE O O O (by omega)) ?_))))))))
          refine gQ 9 O hS0 O (lU 10 O (EU (i := i) (m := l) aax.swap (hr _ aax.right.right.right.right.right.right) ay (by kernel_rfl) O O (by omega)) ?_)
          rintro _ Ws ⟨rfl, CG⟩
          have HS := CG.swap
          refine TV (by kernel_rfl) ?_
          refine qj (aZ (bY O (dO O (bn 2 bQ O aj O (fB aB O HS.get.2 O (bT O (aW (jS ay O) (aW (fP O O (by omega)) (dO O (bn 2 bQ O aj O (aI (iK HS aj O O O (by rw [pJ]; decide)) ?_)))))))))))
          rintro _ w16 yj
          rw [Ee] at yj
          refine rV (bg (bY O (dO O (bn 4 bQ O aj O (fB aB O yj.get.2 O (bT O (aW (iT O O) (iP O (dA O (fun h7 => ?_) (fun h7 => ?_))))))))))
          · (try simp only [aF] at h7)
            refine aA (mJ O O (bn 4 bQ O aj O (fB aB O yj.get.2 O (bT O (aW (jS ay O) (jy O O (aW (lW O O (by omega)) (aW (lW O O (by omega)) (aW (fP O O (by omega)) (dO O (bn 4 bQ O aj O (aI (iK yj aj O O O (by rw [pJ]; decide)) ?_))))))))))))
            rintro _ w17 EH
            rw [Dc] at EH
            refine bZ (aP (aZ (aO (bg (bY O (dO O (bn 5 bQ O aj O (fB aB O EH.get.2 O (bT O (aW (iT O O) (iP O (dA O (fun h8 => ?_) (fun h8 => ?_)))))))))))))
            · (try simp only [aF] at h8)
              refine aA (mJ O O (bn 5 bQ O aj O (fB aB O EH.get.2 O (bT O (aW (jS ay O) (jy O O (aW (lW O O (by omega)) (aW (lW O O (by omega)) (aW (fP O O (by omega)) (dO O (bn 5 bQ O aj O (aI (iK EH aj O O O (by rw [pJ]; decide)) ?_))))))))))))
              rintro _ ZN EM
              rw [vk] at EM
              refine bZ (aP (aZ (aO ?_)))
              have wG := EM.Qj
              refine aA (aW (dI aU O bJ O O wG.get.2) (aI (dP (cs := eU i (.slice ad ((L.drop i).take (j - i)).length cd) (.slice ai l.length ci)) wG.r6 bJ O O O O (kZ O O)) ?_))
              rintro _ ZO DY
              refine ig O ?_
              refine jH (.inl O) lQ O O aU O (by rw [ny]; rfl) DY.get.2 ?_
              refine ⟨_, _, O, ?_⟩
              first
                | rw [show dV pt i j l.length = pt + ((l.length : Int) - ((j : Int) - i)) from by unfold dV; rw [if_pos (by omega)]]
                | rw [show dV pt i j l.length = (i : Int) + l.length from by unfold dV; rw [if_neg (by omega), if_pos (by omega)]]
                | rw [show dV pt i j l.length = pt from by unfold dV; rw [if_neg (by omega), if_neg (by omega)]]
              first
                | rw [show dW mk i j l.length = mk + ((l.length : Int) - ((j : Int) - i)) from by unfold dW; rw [if_pos (by omega)]]
                | rw [show dW mk i j l.length = (i : Int) from by unfold dW; rw [if_neg (by omega), if_pos (by omega)]]
                | rw [show dW mk i j l.length = mk from by unfold dW; rw [if_neg (by omega), if_neg (by omega)]]
              refine (V.xZ (f := i + l.length) (t := i + l.length + 16 + (j - i)) (v := .slice ax (nU L i l.length).length cx) (xs := jU (nU L i l.length) i l) (by omega) (by rw [gI (by omega)]; omega) hL' (by omega) (by rw [gI (by omega)]; omega) (by omega) (by omega) ?_).d3.swap
              rw [show ((i + l.length : Nat) : Int) = (i : Int) + l.length from by omega, show ((i + l.length + 16 + (j - i) : Nat) : Int) = ((i + l.length + 16 : Nat) : Int) + ((j : Int) - i) from by omega]
              exact DY.right.right
            · (try simp only [aF] at h8)
              refine bY O (dO O (bn 5 bQ O aj O (fB aB O EH.get.2 O (bT O (aW (iT O O) (iP O (dA O (fun h9 => ?_) (fun h9 => ?_))))))))
              · (try simp only [aF] at h9)
                refine aA (jy O O (dO O (bn 5 bQ O aj O (aI (iK EH aj O O O (by rw [pJ]; decide)) ?_))))
                rintro _ YT EI
                rw [vk] at EI
                refine bZ (aP (aZ (aO ?_)))
                have wG := EI.Qj
                refine aA (aW (dI aU O bJ O O wG.get.2) (aI (dP (cs := eU i (.slice ad ((L.drop i).take (j - i)).length cd) (.slice ai l.length ci)) wG.r6 bJ O O O O (kZ O O)) ?_))
                rintro _ YU wG
                refine ig O ?_
                refine jH (.inl O) lQ O O aU O (by rw [ny]; rfl) wG.get.2 ?_
                refine ⟨_, _, O, ?_⟩
                first
                  | rw [show dV pt i j l.length = pt + ((l.length : Int) - ((j : Int) - i)) from by unfold dV; rw [if_pos (by omega)]]
                  | rw [show dV pt i j l.length = (i : Int) + l.length from by unfold dV; rw [if_neg (by omega), if_pos (by omega)]]
                  | rw [show dV pt i j l.length = pt from by unfold dV; rw [if_neg (by omega), if_neg (by omega)]]
                first
                  | rw [show dW mk i j l.length = mk + ((l.length : Int) - ((j : Int) - i)) from by unfold dW; rw [if_pos (by omega)]]
                  | rw [show dW mk i j l.length = (i : Int) from by unfold dW; rw [if_neg (by omega), if_pos (by omega)]]
                  | rw [show dW mk i j l.length = mk from by unfold dW; rw [if_neg (by omega), if_neg (by omega)]]
                refine (V.xZ (f := i + l.length) (t := i + l.length + 16 + (j - i)) (v := .slice ax (nU L i l.length).length cx) (xs := jU (nU L i l.length) i l) (by omega) (by rw [gI (by omega)]; omega) hL' (by omega) (by rw [gI (by omega)]; omega) (by omega) (by omega) ?_).d3.swap
                rw [show ((i + l.length : Nat) : Int) = (i : Int) + l.length from by omega, show ((i + l.length + 16 + (j - i) : Nat) : Int) = ((i + l.length + 16 : Nat) : Int) + ((j : Int) - i) from by omega]
                exact wG.right.right
              · (try simp only [aF] at h9)
                refine dS (aP (aZ (aO ?_)))
                have wG := EH.Qj
                refine aA (aW (dI aU O bJ O O wG.get.2) (aI (dP (cs := eU i (.slice ad ((L.drop i).take (j - i)).length cd) (.slice ai l.length ci)) wG.r6 bJ O O O O (kZ O O)) ?_))
                rintro _ w22 IQ
                refine ig O ?_
                refine jH (.inl O) lQ O O aU O (by rw [ny]; rfl) IQ.get.2 ?_
                refine ⟨_, _, O, ?_⟩
                first
                  | rw [show dV pt i j l.length = pt + ((l.length : Int) - ((j : Int) - i)) from by unfold dV; rw [if_pos (by omega)]]
                  | rw [show dV pt i j l.length = (i : Int) + l.length from by unfold dV; rw [if_neg (by omega), if_pos (by omega)]]
                  | rw [show dV pt i j l.length = pt from by unfold dV; rw [if_neg (by omega), if_neg (by omega)]]
                first
                  | rw [show dW mk i j l.length = mk + ((l.length : Int) - ((j : Int) - i)) from by unfold dW; rw [if_pos (by omega)]]
                  | rw [show dW mk i j l.length = (i : Int) from by unfold dW; rw [if_neg (by omega), if_pos (by omega)]]
                  | rw [show dW mk i j l.length = mk from by unfold dW; rw [if_neg (by omega), if_neg (by omega)]]
                refine (V.xZ (f := i + l.length) (t := i + l.length + 16 + (j - i)) (v := .slice ax (nU L i l.length).length cx) (xs := jU (nU L i l.length) i l) (by omega) (by rw [gI (by omega)]; omega) hL' (by omega) (by rw [gI (by omega)]; omega) (by omega) (by omega) ?_).d3.swap
                rw [show ((i + l.length : Nat) : Int) = (i : Int) + l.length from by omega, show ((i + l.length + 16 + (j - i) : Nat) : Int) = ((i + l.length + 16 : Nat) : Int) + ((j : Int) - i) from by omega]
                exact IQ.right.right
          · (try simp only [aF] at h7)
            refine bY O (dO O (bn 4 bQ O aj O (fB aB O yj.get.2 O (bT O (aW (nM O O) (iP O (dA O (fun h10 => ?_) (fun h10 => ?_))))))))
            · (try simp only [aF] at h10)
              refine aA (jy O O (bT O (aW (jS ay O) (aW (fP O O (by omega)) (dO O (bn 4 bQ O aj O (aI (iK yj aj O O O (by rw [pJ]; decide)) ?_)))))))
              rintro _ YV DC
              rw [Dc] at DC
              refine bZ (aP (aZ (aO (bg (bY O (dO O (bn 5 bQ O aj O (fB aB O DC.get.2 O (bT O (aW (iT O O) (iP O (dA O (fun h11 => ?_) (fun h11 => ?_)))))))))))))
              · (try simp only [aF] at h11)
                refine aA (mJ O O (bn 5 bQ O aj O (fB aB O DC.get.2 O (bT O (aW (jS ay O) (jy O O (aW (lW O O (by omega)) (aW (lW O O (by omega)) (aW (fP O O (by omega)) (dO O (bn 5 bQ O aj O (aI (iK DC aj O O O (by rw [pJ]; decide)) ?_))))))))))))
                rintro _ w24 MN
                rw [vk] at MN
                refine bZ (aP (aZ (aO ?_)))
                have wG := MN.Qj
                refine aA (aW (dI aU O bJ O O wG.get.2) (aI (dP (cs := eU i (.slice ad ((L.drop i).take (j - i)).length cd) (.slice ai l.length ci)) wG.r6 bJ O O O O (kZ O O)) ?_))
                rintro _ w25 NZ
                refine ig O ?_
                refine jH (.inl O) lQ O O aU O (by rw [ny]; rfl) NZ.get.2 ?_
                refine ⟨_, _, O, ?_⟩
                first
                  | rw [show dV pt i j l.length = pt + ((l.length : Int) - ((j : Int) - i)) from by unfold dV; rw [if_pos (by omega)]]
                  | rw [show dV pt i j l.length = (i : Int) + l.length from by unfold dV; rw [if_neg (by omega), if_pos (by omega)]]
                  | rw [show dV pt i j l.length = pt from by unfold dV; rw [if_neg (by omega), if_neg (by omega)]]
                first
                  | rw [show dW mk i j l.length = mk + ((l.length : Int) - ((j : Int) - i)) from by unfold dW; rw [if_pos (by omega)]]
                  | rw [show dW mk i j l.length = (i : Int) from by unfold dW; rw [if_neg (by omega), if_pos (by omega)]]
                  | rw [show dW mk i j l.length = mk from by unfold dW; rw [if_neg (by omega), if_neg (by omega)]]
                refine (V.xZ (f := i + l.length) (t := i + l.length + 16 + (j - i)) (v := .slice ax (nU L i l.length).length cx) (xs := jU (nU L i l.length) i l) (by omega) (by rw [gI (by omega)]; omega) hL' (by omega) (by rw [gI (by omega)]; omega) (by omega) (by omega) ?_).d3.swap
                rw [show ((i + l.length : Nat) : Int) = (i : Int) + l.length from by omega, show ((i + l.length + 16 + (j - i) : Nat) : Int) = ((i + l.length + 16 : Nat) : Int) + ((j : Int) - i) from by omega]
                exact NZ.right.right
              · (try simp only [aF] at h11)
                refine bY O (dO O (bn 5 bQ O aj O (fB aB O DC.get.2 O (bT O (aW (iT O O) (iP O (dA O (fun h12 => ?_) (fun h12 => ?_))))))))
                · (try simp only [aF] at h12)
                  refine aA (jy O O (dO O (bn 5 bQ O aj O (aI (iK DC aj O O O (by rw [pJ]; decide)) ?_))))
                  rintro _ w26 Gh
                  rw [vk] at Gh
                  refine bZ (aP (aZ (aO ?_)))
                  have wG := Gh.Qj
                  refine aA (aW (dI aU O bJ O O wG.get.2) (aI (dP (cs := eU i (.slice ad ((L.drop i).take (j - i)).length cd) (.slice ai l.length ci)) wG.r6 bJ O O O O (kZ O O)) ?_))
                  rintro _ w27 JO
                  refine ig O ?_
                  refine jH (.inl O) lQ O O aU O (by rw [ny]; rfl) JO.get.2 ?_
                  refine ⟨_, _, O, ?_⟩
                  first
                    | rw [show dV pt i j l.length = pt + ((l.length : Int) - ((j : Int) - i)) from by unfold dV; rw [if_pos (by omega)]]
                    | rw [show dV pt i j l.length = (i : Int) + l.length from by unfold dV; rw [if_neg (by omega), if_pos (by omega)]]
                    | rw [show dV pt i j l.length = pt from by unfold dV; rw [if_neg (by omega), if_neg (by omega)]]
                  first
                    | rw [show dW mk i j l.length = mk + ((l.length : Int) - ((j : Int) - i)) from by unfold dW; rw [if_pos (by omega)]]
                    | rw [show dW mk i j l.length = (i : Int) from by unfold dW; rw [if_neg (by omega), if_pos (by omega)]]
                    | rw [show dW mk i j l.length = mk from by unfold dW; rw [if_neg (by omega), if_neg (by omega)]]
                  refine (V.xZ (f := i + l.length) (t := i + l.length + 16 + (j - i)) (v := .slice ax (nU L i l.length).length cx) (xs := jU (nU L i l.length) i l) (by omega) (by rw [gI (by omega)]; omega) hL' (by omega) (by rw [gI (by omega)]; omega) (by omega) (by omega) ?_).d3.swap
                  rw [show ((i + l.length : Nat) : Int) = (i : Int) + l.length from by omega, show ((i + l.length + 16 + (j - i) : Nat) : Int) = ((i + l.length + 16 : Nat) : Int) + ((j : Int) - i) from by omega]
                  exact JO.right.right
                · (try simp only [aF] at h12)
                  refine dS (aP (aZ (aO ?_)))
                  have wG := DC.Qj
                  refine aA (aW (dI aU O bJ O O wG.get.2) (aI (dP (cs := eU i (.slice ad ((L.drop i).take (j - i)).length cd) (.slice ai l.length ci)) wG.r6 bJ O O O O (kZ O O)) ?_))
                  rintro _ w28 ZP
                  refine ig O ?_
                  refine jH (.inl O) lQ O O aU O (by rw [ny]; rfl) ZP.get.2 ?_
                  refine ⟨_, _, O, ?_⟩
                  first
                    | rw [show dV pt i j l.length = pt + ((l.length : Int) - ((j : Int) - i)) from by unfold dV; rw [if_pos (by omega)]]
                    | rw [show dV pt i j l.length = (i : Int) + l.length from by unfold dV; rw [if_neg (by omega), if_pos (by omega)]]
                    | rw [show dV pt i j l.length = pt from by unfold dV; rw [if_neg (by omega), if_neg (by omega)]]
                  first
                    | rw [show dW mk i j l.length = mk + ((l.length : Int) - ((j : Int) - i)) from by unfold dW; rw [if_pos (by omega)]]
                    | rw [show dW mk i j l.length = (i : Int) from by unfold dW; rw [if_neg (by omega), if_pos (by omega)]]
                    | rw [show dW mk i j l.length = mk from by unfold dW; rw [if_neg (by omega), if_neg (by omega)]]
                  refine (V.xZ (f := i + l.length) (t := i + l.length + 16 + (j - i)) (v := .slice ax (nU L i l.length).length cx) (xs := jU (nU L i l.length) i l) (by omega) (by rw [gI (by omega)]; omega) hL' (by omega) (by rw [gI (by omega)]; omega) (by omega) (by omega) ?_).d3.swap
                  rw [show ((i + l.length : Nat) : Int) = (i : Int) + l.length from by omega, show ((i + l.length + 16 + (j - i) : Nat) : Int) = ((i + l.length + 16 : Nat) : Int) + ((j : Int) - i) from by omega]
                  exact ZP.right.right
            · (try simp only [aF] at h10)
              refine dS (aP (aZ (aO (bg (bY O (dO O (bn 5 bQ O aj O (fB aB O yj.get.2 O (bT O (aW (iT O O) (iP O (dA O (fun h13 => ?_) (fun h13 => ?_)))))))))))))
              · (try simp only [aF] at h13)
                refine aA (mJ O O (bn 5 bQ O aj O (fB aB O yj.get.2 O (bT O (aW (jS ay O) (jy O O (aW (lW O O (by omega)) (aW (lW O O (by omega)) (aW (fP O O (by omega)) (dO O (bn 5 bQ O aj O (aI (iK yj aj O O O (by rw [pJ]; decide)) ?_))))))))))))
                rintro _ w29 JQ
                rw [vk] at JQ
                refine bZ (aP (aZ (aO ?_)))
                have wG := JQ.Qj
                refine aA (aW (dI aU O bJ O O wG.get.2) (aI (dP (cs := eU i (.slice ad ((L.drop i).take (j - i)).length cd) (.slice ai l.length ci)) wG.r6 bJ O O O O (kZ O O)) ?_))
                rintro _ w30 PG
                refine ig O ?_
                refine jH (.inl O) lQ O O aU O (by rw [ny]; rfl) PG.get.2 ?_
                refine ⟨_, _, O, ?_⟩
                first
                  | rw [show dV pt i j l.length = pt + ((l.length : Int) - ((j : Int) - i)) from by unfold dV; rw [if_pos (by omega)]]
                  | rw [show dV pt i j l.length = (i : Int) + l.length from by unfold dV; rw [if_neg (by omega), if_pos (by omega)]]
                  | rw [show dV pt i j l.length = pt from by unfold dV; rw [if_neg (by omega), if_neg (by omega)]]
                first
                  | rw [show dW mk i j l.length = mk + ((l.length : Int) - ((j : Int) - i)) from by unfold dW; rw [if_pos (by omega)]]
                  | rw [show dW mk i j l.length = (i : Int) from by unfold dW; rw [if_neg (by omega), if_pos (by omega)]]
                  | rw [show dW mk i j l.length = mk from by unfold dW; rw [if_neg (by omega), if_neg (by omega)]]
                refine (V.xZ (f := i + l.length) (t := i + l.length + 16 + (j - i)) (v := .slice ax (nU L i l.length).length cx) (xs := jU (nU L i l.length) i l) (by omega) (by rw [gI (by omega)]; omega) hL' (by omega) (by rw [gI (by omega)]; omega) (by omega) (by omega) ?_).d3.swap
                rw [show ((i + l.length : Nat) : Int) = (i : Int) + l.length from by omega, show ((i + l.length + 16 + (j - i) : Nat) : Int) = ((i + l.length + 16 : Nat) : Int) + ((j : Int) - i) from by omega]
                exact PG.right.right
              · (try simp only [aF] at h13)
                refine bY O (dO O (bn 5 bQ O aj O (fB aB O yj.get.2 O (bT O (aW (iT O O) (iP O (dA O (fun h14 => ?_) (fun h14 => ?_))))))))
                · (try simp only [aF] at h14)
                  refine aA (jy O O (dO O (bn 5 bQ O aj O (aI (iK yj aj O O O (by rw [pJ]; decide)) ?_))))
                  rintro _ w31 Rz
                  rw [vk] at Rz
                  refine bZ (aP (aZ (aO ?_)))
                  have wG := Rz.Qj
                  refine aA (aW (dI aU O bJ O O wG.get.2) (aI (dP (cs := eU i (.slice ad ((L.drop i).take (j - i)).length cd) (.slice ai l.length ci)) wG.r6 bJ O O O O (kZ O O)) ?_))
                  rintro _ w32 Pn
                  refine ig O ?_
                  refine jH (.inl O) lQ O O aU O (by rw [ny]; rfl) Pn.get.2 ?_
                  refine ⟨_, _, O, ?_⟩
                  first
                    | rw [show dV pt i j l.length = pt + ((l.length : Int) - ((j : Int) - i)) from by unfold dV; rw [if_pos (by omega)]]
                    | rw [show dV pt i j l.length = (i : Int) + l.length from by unfold dV; rw [if_neg (by omega), if_pos (by omega)]]
                    | rw [show dV pt i j l.length = pt from by unfold dV; rw [if_neg (by omega), if_neg (by omega)]]
                  first
                    | rw [show dW mk i j l.length = mk + ((l.length : Int) - ((j : Int) - i)) from by unfold dW; rw [if_pos (by omega)]]
                    | rw [show dW mk i j l.length = (i : Int) from by unfold dW; rw [if_neg (by omega), if_pos (by omega)]]
                    | rw [show dW mk i j l.length = mk from by unfold dW; rw [if_neg (by omega), if_neg (by omega)]]
                  refine (V.xZ (f := i + l.length) (t := i + l.length + 16 + (j - i)) (v := .slice ax (nU L i l.length).length cx) (xs := jU (nU L i l.length) i l) (by omega) (by rw [gI (by omega)]; omega) hL' (by omega) (by rw [gI (by omega)]; omega) (by omega) (by omega) ?_).d3.swap
                  rw [show ((i + l.length : Nat) : Int) = (i : Int) + l.length from by omega, show ((i + l.length + 16 + (j - i) : Nat) : Int) = ((i + l.length + 16 : Nat) : Int) + ((j : Int) - i) from by omega]
                  exact Pn.right.right
                · (try simp only [aF] at h14)
                  refine dS (aP (aZ (aO ?_)))
                  have wG := yj.Qj
                  refine aA (aW (dI aU O bJ O O wG.get.2) (aI (dP (cs := eU i (.slice ad ((L.drop i).take (j - i)).length cd) (.slice ai l.length ci)) wG.r6 bJ O O O O (kZ O O)) ?_))
                  rintro _ w33 TM
                  refine ig O ?_
                  refine jH (.inl O) lQ O O aU O (by rw [ny]; rfl) TM.get.2 ?_
                  refine ⟨_, _, O, ?_⟩
                  first
                    | rw [show dV pt i j l.length = pt + ((l.length : Int) - ((j : Int) - i)) from by unfold dV; rw [if_pos (by omega)]]
                    | rw [show dV pt i j l.length = (i : Int) + l.length from by unfold dV; rw [if_neg (by omega), if_pos (by omega)]]
                    | rw [show dV pt i j l.length = pt from by unfold dV; rw [if_neg (by omega), if_neg (by omega)]]
                  first
                    | rw [show dW mk i j l.length = mk + ((l.length : Int) - ((j : Int) - i)) from by unfold dW; rw [if_pos (by omega)]]
                    | rw [show dW mk i j l.length = (i : Int) from by unfold dW; rw [if_neg (by omega), if_pos (by omega)]]
                    | rw [show dW mk i j l.length = mk from by unfold dW; rw [if_neg (by omega), if_neg (by omega)]]
                  refine (V.xZ (f := i + l.length) (t := i + l.length + 16 + (j - i)) (v := .slice ax (nU L i l.length).length cx) (xs := jU (nU L i l.length) i l) (by omega) (by rw [gI (by omega)]; omega) hL' (by omega) (by rw [gI (by omega)]; omega) (by omega) (by omega) ?_).d3.swap
                  rw [show ((i + l.length : Nat) : Int) = (i : Int) + l.length from by omega, show ((i + l.length + 16 + (j - i) : Nat) : Int) = ((i + l.length + 16 : Nat) : Int) + ((j : Int) - i) from by omega]
                  exact TM.right.right
end
def YW (n : Nat) (pt x : Int) : Int := if 0 ≤ x ∧ x ≤ n then x else pt
def mvE (n : Nat) (x : Int) : Int := if 0 ≤ x ∧ x ≤ n then 0 else 70
def qX (v : Value) (pt mk : Int) : Array Value := #[v, .int .i64 pt, .int .i64 mk]
theorem QA {v : Value} {pt mk : Int} (h : v.oneCell' = true) : ∀ u ∈ (qX v pt mk).toList, u.oneCell' = true := by
  intro u hu
  simp [qX] at hu
  rcases hu with rfl | rfl | rfl
  · exact h
  · rfl
  · rfl
section
variable {w0 w : World} {F : HP} {p : Nat} {L : List Int} {pt mk x : Int} {v : Value} {l : List Int}
theorem RD (H : V w0 w (ji p L pt mk • F)) : iM prog 66 #[.pointer (some ⟨p, 0, none⟩), .int .i64 x] w fun v w' => v = .int .i64 (mvE L.length x) ∧ V w0 w' (ji p L (YW L.length pt x) mk • F) := by
 refine qI func66 ntmps66 ?_
 refine kQ O (aO (bg (bY O (fE O func115 (yh H) ?_))))
 rintro _ _ ⟨rfl, rfl⟩
 refine iP O (dA O (fun h1 => ?_) (fun h1 => ?_))
 ·(try simp only [aF] at h1)
  exfalso; first | contradiction | omega
 ·(try simp only [aF] at h1)
  refine bY O (aW (fG O O) (mX O (fun h2 => ?_) (fun h2 => ?_)))
  ·(try simp only [aF] at h2)
   refine dF (dF (dF (dF (nZ O O (iP O (GV (mP O (aX (aC (fD results66 O ?_))))))))))
   exact ⟨by rw [mvE, if_neg (by omega)], by rw [YW, if_neg (by omega)]; exact H⟩
  ·(try simp only [aF] at h2)
   refine bW (bT O (bW (bT O (bW (fE O func116 (CB H) ?_)))))
   rintro _ w2 ⟨rfl, hD⟩
   have HL := H.Gp hD
   refine bW (aW (iT O O) (kX O O (iP O (dA O (fun h3 => ?_) (fun h3 => ?_)))))
   ·(try simp only [aF] at h3)
    refine mP O (aX (aC (fD results66 O ?_)))
    exact ⟨by rw [mvE, if_neg (by omega)], by rw [YW, if_neg (by omega)]; exact HL⟩
   ·(try simp only [aF] at h3)
    refine dS (aP (aZ (aO ?_)))
    obtain ⟨a, c, xs, f, t, h11, h12, h13, h14, h15, h16, h17, hc1, hc2, hl, HB⟩ := HL.buf
    refine aA (jy O O (dO O (bn 4 bQ O aj O (aI (iK HB aj O O O (by rw [pJ]; decide)) ?_))))
    rintro _ w3 H3
    rw [Dc] at H3
    refine jd (mP O (fD results66 O ?_))
    exact ⟨by rw [mvE, if_pos (by omega)], by rw [YW, if_pos (by omega)]; exact V.xZ h11 h12 h13 h14 h15 (by omega) h17 H3⟩
theorem IU (H : V w0 w (ji p L pt mk • F)) : iM prog 50 #[.pointer (some ⟨p, 0, none⟩)] w fun v' w' => ∃ u, v' = .agg (qX u pt mk) ∧ V w0 w' (jR 21 .i32 u L • ji p L pt mk • F) := by
 refine iQ func50 ntmps50 ?_
 refine jw (iY (xM H sU) ?_)
 rintro _ w1 ⟨b1, rfl, H1⟩
 refine ql O (fE O func95 (yg H1.swap) ?_)
 rintro u w2 H2
 obtain ⟨au, cu, hu, _⟩ := (H2.aN).form
 subst hu
 refine bT O (fE O func65 (Df H2.swap) ?_)
 rintro _ _ ⟨rfl, rfl⟩
 refine bT O (fE O func96 (Rx H2.swap) ?_)
 rintro _ _ ⟨rfl, rfl⟩
 refine aW (jB (pl := #[(0, 1), (1, 1), (2, 1)]) (qX (.slice au L.length cu) pt mk) lC sU (fun w => by kernel_rfl) O (by kernel_rfl)) (aI (dP (cs := qX (.slice au L.length cu) pt mk) H2.Qj sizeOf52 O O O O (QA O)) ?_)
 rintro _ w5 H5
 refine zkc ?_
 refine XK (.inl O) results50 O lC O (by rw [Uo]; rfl) H5.get.2 ?_
 exact ⟨_, O, H5.right⟩
end
end Go.Proofs.YtgofgnlkpeghcaaGreatDoor
end
section
namespace Go.Proofs.YtgofgnlkpeghcaaGreatDoor
open Go.RowKit
def aay (g : Int → Bool) (l : List Int) (at_ : Nat) : Nat := at_ + ((l.drop at_).takeWhile g).length
def aaz (g : Int → Bool) (l : List Int) (at_ : Nat) : Nat := at_ - ((l.take at_).reverse.takeWhile g).length
def IV (n : Nat) (x : Int) : Nat := (min (max x 0) n).toNat
section
variable {w0 w : World} {F G : HP} {v fv : Value} {l : List Int} {g : Int → Bool}
def afn (l : List Int) (x : Int) : Nat := aay MI l (aay (fun r => !MI r) l (IV l.length x))
def ad1 (l : List Int) (x : Int) : Nat := aaz MI l (aaz (fun r => !MI r) l (IV l.length x))
def XT (r : Int) : Bool := decide (aae r ≠ 0) || Ub r
def aii (l : List Int) (x : Int) : Nat := if IV l.length x < l.length then aay (fun r => !XT r) l (IV l.length x + 1) else l.length
def aij (l : List Int) (x : Int) : Nat := aaz (fun r => !XT r) l (IV l.length x) - 1
end
section
variable {w0 w : World} {F : HP} {p : Nat} {L : List Int} {pt mk : Int} {v : Value} {l : List Int}
end
end Go.Proofs.YtgofgnlkpeghcaaGreatDoor
end
section
namespace Go.Proofs.YtgofgnlkpeghcaaGreatDoor
open Go.RowKit
open _root_.Go.Proofs.Tryz
theorem aaA (w : World) (v1 v2 : Value) (l1 l2 : List Int) (h1 : jP w .i32 v1 l1) (h2 : jP w .i32 v2 l2) :
  iM prog 123 #[v1, v2] w fun v w' => v = .bool (l1 == l2) ∧ wH w w' := by
 obtain ⟨a1, c1, rfl, hc1, hm1, hr1⟩ := h1.open
 obtain ⟨a2, c2, rfl, hc2, hm2, hr2⟩ := h2.open
 clear h1 h2
 refine qI func123 ntmps123 ?_
 refine kQ O (aO (bY O (aW (jS ay O) (bT O (aW (jS ay O) (aW (gy O O) (jv O (fun h1 => ?_) (fun h1 => ?_))))))))
 ·(try simp only [aF] at h1)
  refine mP O (aC (fD results123 O ?_))
  exact ⟨by rw [show (l1 == l2) = false from beq_eq_false_iff_ne.2 (by rintro rfl; exact h1 rfl)], wH.refl _⟩
 ·(try simp only [aF] at h1)
  refine iy (aO (kQ O (bg ?_)))
  refine gq [(0, _), (1, _)] (fun (k : Nat) => [(5, .int .i64 (k : Int))]) (fun (k : Nat) W => k ≤ l1.length ∧ l1.length = l2.length ∧ l1.take k = l2.take k ∧ wH w W) (fun (k : Nat) => l1.length - k) (0) rP oO ⟨by omega, by omega, by simp, wH.refl _⟩ ?_
  rintro k w1 ⟨hk, hl, ht, hD⟩
  dsimp only [List.cons_append, List.nil_append]
  refine aO (bY O (bT O (aW (jS ay O) (aW (fG O O) (jv O (fun h2 => ?_) (fun h2 => ?_))))))
  ·(try simp only [aF] at h2)
   refine iy (aO (bg (aO ?_)))
   obtain ⟨b1, o1, rfl, hq1⟩ := hr1 (by omega)
   obtain ⟨b2, o2, rfl, hq2⟩ := hr2 (by omega)
   have hc1 := hq1 k (by omega)
   have hc2 := hq2 k (by omega)
   refine tC (n := 9) [0, 1, 2, 3, 4, 5, 6, 7, 8] (fun W => W.heap = w1.heap) (by kernel_rfl) (by kernel_rfl) O ?_
   have hS0 : (fun W => W.heap = w1.heap) (w1.drew) := rfl
   refine gQ 0 O hS0 O (gQ 1 O hS0 O (iL 2 O hS0 (fun _ => dD ay iE O O (by omega)) ?_))
   refine iO 3 O hS0 (fun W hW => eG (dn dM O) O (by rw [yZ (hW.trans hD.heap)]; simpa using hc1)) ?_
   refine gQ 4 O hS0 O (gQ 5 O hS0 O (iL 6 O hS0 (fun _ => dD ay iE O O (by omega)) ?_))
   refine iO 7 O hS0 (fun W hW => eG (dn dM O) O (by rw [yZ (hW.trans hD.heap)]; simpa using hc2)) ?_
   refine iL 8 O hS0 (fun _ => gy O O) (qj (aZ (dA O (fun h3 => ?_) (fun h3 => ?_))))
   ·(try simp only [aF] at h3)
    refine mP O (aX (aC (aC (aX (aC (fD results123 O ?_))))))
    exact ⟨by rw [show (l1 == l2) = false from beq_eq_false_iff_ne.2 (by rintro rfl; exact h3 rfl)], hD.drew⟩
   ·(try simp only [aF] at h3)
    refine dS (aP (aZ (aA (bT O (aW (fP O O (by omega)) (iC O (bZ ?_)))))))
    refine dN (k + 1) ?_ ?_ ?_ ?_
    ·exact oO
    ·exact rP
    ·(try dsimp only)
     first | done | exact ⟨by omega, by omega, Eb (by omega) (by omega) ht (by simpa using h3), hD.drew⟩
    ·(try dsimp only); omega
  ·(try simp only [aF] at h2)
   refine eH (aT (aT (bU (aZ (mP O (fD results123 O ?_))))))
   exact ⟨by rw [show (l1 == l2) = true from beq_iff_eq.2 (by rw [List.take_of_length_le (by omega), List.take_of_length_le (by omega)] at ht; exact ht)], hD⟩
end Go.Proofs.YtgofgnlkpeghcaaGreatDoor
end
section
namespace Go.Proofs.YtgofgnlkpeghcaaGreatDoor
open Go.RowKit
section
variable {w0 w : World} {F : HP} {p : Nat} {L : List Int} {pt mk a : Int} {d i : Value} {dl il : List Int}
end
end Go.Proofs.YtgofgnlkpeghcaaGreatDoor
end
section
namespace Go.Proofs.YtgofgnlkpeghcaaGreatDoor
open Go.RowKit
open _root_.Go.Proofs.Tryz
def qx (L : List Int) (i j : Int) (l : List Int) : Int := if i < 0 ∨ L.length < i ∨ j < i ∨ L.length < j then 70 else if 1024 < L.length - (j - i) + l.length then 3 else 0
def wP (L : List Int) (i j : Int) (l : List Int) : List Int := if qx L i j l = 0 then L.take i.toNat ++ l ++ L.drop j.toNat else L
def wQ (L : List Int) (pt i j : Int) (l : List Int) : Int := if qx L i j l = 0 then dV pt i j l.length else pt
def wR (L : List Int) (mk i j : Int) (l : List Int) : Int := if qx L i j l = 0 then dW mk i j l.length else mk
def vY (L : List Int) (i j : Int) (l : List Int) : Int := if qx L i j l = 0 then i else 0
def rC (L : List Int) (i j : Int) (l : List Int) : List Int := if qx L i j l = 0 then (L.drop i.toNat).take (j - i).toNat else []
def rD (L : List Int) (i j : Int) (l : List Int) : List Int := if qx L i j l = 0 then l else []
section
variable {w0 w : World} {F : HP} {p : Nat} {L : List Int} {pt mk : Int} {v d s : Value} {l dl il : List Int} {i j a x : Int}
theorem LG (H : V w0 w (ji p L pt mk • F)) (hr : jm w0 F .i32 v l) :
    iM prog 112 #[.pointer (some ⟨p, 0, none⟩), .int .i64 i, .int .i64 j, v] w fun v' w' => ∃ d s, v' = .tuple #[.agg #[.int .i64 (vY L i j l), d, s], .int .i64 (qx L i j l)] ∧
      V w0 w' (jR 21 .i32 d (rC L i j l) • jR 21 .i32 s (rD L i j l) • ji p (wP L i j l) (wQ L pt i j l) (wR L mk i j l) • F) := by
  unfold vY wP wQ wR rC rD
  by_cases h1 : i < 0 ∨ L.length < i ∨ j < i ∨ L.length < j
  · have e : qx L i j l = 70 := by unfold qx; rw [if_pos h1]
    simp only [e, show ¬ (70 : Int) = 0 from by decide, if_false]
    exact (LD H hr h1).mono fun v' w' h => ⟨_, _, h.1, (h.2.zN none).zN none⟩
  · have h2 : 0 ≤ i ∧ i ≤ j ∧ j ≤ L.length := by omega
    by_cases h3 : 1024 < L.length - (j - i) + l.length
    · have e : qx L i j l = 3 := by unfold qx; rw [if_neg h1, if_pos h3]
      simp only [e, show ¬ (3 : Int) = 0 from by decide, if_false]
      exact (JM H hr h2 h3).mono fun v' w' h => ⟨_, _, h.1, (h.2.zN none).zN none⟩
    · have e : qx L i j l = 0 := by unfold qx; rw [if_neg h1, if_neg h3]
      simp only [e, if_true]
      obtain ⟨i', rfl⟩ := Int.eq_ofNat_of_zero_le h2.1
      obtain ⟨j', rfl⟩ := Int.eq_ofNat_of_zero_le (show 0 ≤ j by omega)
      have hij : i' ≤ j' ∧ j' ≤ L.length := by omega
      have := NY (i := i') (j := j') H hr hij (by omega)
      simpa only [Int.toNat_natCast, show ((j' : Int) - (i' : Int)).toNat = j' - i' from by omega, eU] using this
def smE (L : List Int) (x : Int) : Int := if x < -1 ∨ L.length < x then 70 else 0
def smM (L : List Int) (mk x : Int) : Int := if x < -1 ∨ L.length < x then mk else x
def swE (mk : Int) : Int := if mk < 0 then 6 else 0
def swP (pt mk : Int) : Int := if mk < 0 then pt else mk
def swM (pt mk : Int) : Int := if mk < 0 then mk else pt
theorem PI (H : V w0 w (ji p L pt mk • F)) : iM prog 99 #[.pointer (some ⟨p, 0, none⟩)] w fun v' w' => ∃ q, v' = .pointer (some ⟨q, 0, none⟩) ∧ V w0 w' (ji q L pt mk • ji p L pt mk • F) := by
 refine iQ func99 ntmps99 ?_
 refine kQ O (aO (bY O (fE O func115 (yh H) ?_)))
 rintro _ _ ⟨rfl, rfl⟩
 refine jd (vS (iy (aO ?_)))
 obtain ⟨aiV, aiW, aiX, f_p, t_p, afo, afp, afq, afr, afs, afu, aiY, aiZ, ai0, aik, afv⟩ := (H).buf
 refine aA (mJ O O (aW (dI bQ O sizeOf189 O O (afv).get.2) (iY (fK (l := [_, _, _, _, _, _]) afv zeroValue189 O) ?_)))
 rintro _ w3 ⟨b3, rfl, H3⟩
 refine aI (dG 0 (l' := [_, _, _, _, _, _]) (us := [_, _, _, _, _, _]) H3 sizeOf189 O O O (aG (aY (by first | rfl | exact Rd.one ((H3.f3).aN)) (aG (aG (aG (aG bK)))))) O O) ?_
 rintro _ w4 H4
 refine ql O (dO O (bn 1 bQ O bF O (fB ay O (H4.f2).get.2 O (fE O func43 (uY H4 (fun W HW => (HW.f3).aN) (by omega)) ?_))))
 rintro u5 w5 H5
 refine bn 1 bQ O bF O (aI (eY 1 (l' := [_, _, _, _, _, _]) H5.f2 bF O O (by first | rfl | exact Rd.one ((H5).aN)) O O) ?_)
 rintro _ w6 H6
 refine jd (mP O (fD results99 O ?_))
 exact ⟨_, O, (V.xZ afo afp afq afr afs afu (by omega) (V.xZ afo afp afq afr afs afu (by omega) H6.f4.f4.f4.f4).f2.f3.f2).f2⟩
def afw (L : List Int) (a : Int) (dl : List Int) : Bool := decide ((dl.length : Int) ≤ L.length - a) && ((L.drop a.toNat).take dl.length == dl)
def ad2 (L : List Int) (a : Int) (dl il : List Int) : Int := if a < 0 ∨ L.length < a then 70 else if afw L a dl then qx L a (a + dl.length) il else 71
def agP (L : List Int) (a : Int) (dl il : List Int) : List Int := if ad2 L a dl il = 0 then wP L a (a + dl.length) il else L
def agQ (L : List Int) (pt a : Int) (dl il : List Int) : Int := if ad2 L a dl il = 0 then wQ L pt a (a + dl.length) il else pt
def agR (L : List Int) (mk a : Int) (dl il : List Int) : Int := if ad2 L a dl il = 0 then wR L mk a (a + dl.length) il else mk
end
def kE (s : List Value) (h n p : Nat) : Array Value := (Value.bool true :: (s ++ [.int .i64 h, .int .i64 n, .int .i64 p])).toArray
section
variable {s : List Value} {h n p : Nat}
theorem JR (hs : s.length = 60) : (kE s h n p).size = 64 := by simp [kE, hs]
theorem RF : (kE s h n p)[0]? = some (.bool true) := by simp [kE]
theorem YX (hs : s.length = 60) {i : Nat} (hi : i < 60) : (kE s h n p)[1 + i]? = some (s.getD i undef) := by
  simp [kE, Nat.add_comm 1 i, List.getElem?_append_left (show i < s.length by omega), List.getD_eq_getElem?_getD, show i < s.length by omega]
theorem YZ (hs : s.length = 60) : (kE s h n p)[61]? = some (.int .i64 h) := by simp [kE, hs]
theorem zh (hs : s.length = 60) : (kE s h n p)[62]? = some (.int .i64 n) := by simp [kE, hs]
theorem N7 (hs : s.length = 60) : (kE s h n p)[63]? = some (.int .i64 p) := by simp [kE, hs]
theorem N8 (hs : s.length = 60) (x : Nat) : (kE s h n p).setIfInBounds 63 (.int .i64 x) = kE s h n x := by
  apply Array.ext'; simp [kE, List.set_append, hs]
end
def afx (I : Hp) (s : List Value) (h : Nat) (E : List (List Int)) : Prop := ∀ i, i < E.length → Gf I .i32 (s.getD ((h + i) % 60) undef) (E.getD i [])
def Ef (s : List Value) (h : Nat) (E : List (List Int)) : HP := know (fun I => afx I s h E) fun _ _ hl hk i hi => (hk i hi).mono hl
def jV (p : Nat) (E : List (List Int)) (place : Nat) : HP := yC fun (x : List Value × Nat) =>
  fact (x.1.length = 60 ∧ x.2 < 60 ∧ E.length ≤ 60 ∧ (place < E.length ∨ place = 0) ∧ (∀ e ∈ E, e.length ≤ 1024) ∧ ∀ v ∈ x.1, v.oneCell' = true) • eF p (.cells (kE x.1 x.2 E.length place) 172 (0, 0)) • Ef x.1 x.2 E
section
variable {w0 w : World} {F : HP} {p place : Nat} {E : List (List Int)}
theorem V.ring (H : V w0 w (jV p E place • F)) : ∃ s h, s.length = 60 ∧ h < 60 ∧ E.length ≤ 60 ∧ (place < E.length ∨ place = 0) ∧ (∀ e ∈ E, e.length ≤ 1024) ∧ (∀ v ∈ s, v.oneCell' = true) ∧ V w0 w (eF p (.cells (kE s h E.length place) 172 (0, 0)) • Ef s h E • F) := by
  obtain ⟨⟨s, h⟩, H⟩ := H.pO
  obtain ⟨⟨h1, h2, h3, h4, h5, h6⟩, H⟩ := H.flat.fact
  exact ⟨s, h, h1, h2, h3, h4, h5, h6, H.flat⟩
theorem V.MO {s : List Value} {h : Nat} (h1 : s.length = 60) (h2 : h < 60) (h3 : E.length ≤ 60) (h4 : place < E.length ∨ place = 0) (h5 : ∀ e ∈ E, e.length ≤ 1024) (h6 : ∀ v ∈ s, v.oneCell' = true) (H : V w0 w (eF p (.cells (kE s h E.length place) 172 (0, 0)) • Ef s h E • F)) : V w0 w (jV p E place • F) :=
  V.jG (s, h) (V.deep (V.oG ⟨h1, h2, h3, h4, h5, h6⟩ H.deep))
theorem RG (H : V w0 w F) : iM prog 54 #[] w fun v w' => ∃ p, v = .pointer (some ⟨p, 0, none⟩) ∧ V w0 w' (jV p [] 0 • F) := by
  refine adV func54 ntmps54 ?_
  refine kQ O (jw (aW (jB (pl := #[(0, 1), (1, 60), (61, 1), (62, 1), (63, 1)]) (kE (List.replicate 60 (.slice none 0 0)) 0 0 0) jc zeroValue172 (fun w => by kernel_rfl) O (by kernel_rfl)) (iY (XI H O) ?_)))
  rintro _ w1 ⟨b1, rfl, H1⟩
  refine ig O (fD results54 O ?_)
  refine ⟨b1, O, V.MO (s := List.replicate 60 (.slice none 0 0)) (h := 0) (by simp) (by omega) (by simp) (.inr O) (by simp) (by intro v hv; rw [List.eq_of_mem_replicate hv]; rfl) ?_⟩
  exact V.swap (V.xU (fun I i hi => by simp at hi) H1)
theorem zD (t : TypeId) {cs : Array Value} {fr : Nat × Nat} {m : Bool} (hb : w.heap[p]? = some (.cells cs t fr)) (h0 : cs[0]? = some (.bool m)) :
    iM prog 139 #[.pointer (some ⟨p, 0, none⟩)] w fun v w' => v = .bool (!m) ∧ w = w' := by
  refine iQ func139 ntmps139 ?_
  refine kQ O (bY O (aW (iJ underlying106 O O) (TJ O (fun h1 => ?_))))
  (try simp only [aF] at h1)
  refine bW (bT O (bW (dO O (bW (bn 0 jc O aQ O (bW (fB cZ O hb h0 (bW (aW (mG O) (kX O O (ig O (fD results139 O ?_))))))))))))
  exact ⟨O, O⟩
theorem V.aaB {s : List Value} {h i : Nat} (H : V w0 w (Ef s h E • F)) (hi : i < E.length) : jP w .i32 (s.getD ((h + i) % 60) undef) (E.getD i []) := let ⟨I, k, hI⟩ := H.wC; (k i hi).rd hI
theorem Ur {s : List Value} {h n m : Nat} {t : TypeId} {fr : Nat × Nat} {k : Nat} (hs : s.length = 60) (hh : h < 60) (hk : k < 60) (hb : w.heap[p]? = some (.cells (kE s h n m) t fr)) :
  iM prog 156 #[.pointer (some ⟨p, 0, none⟩), .int .i64 k] w fun v w' => v = s.getD ((h + k) % 60) undef ∧ wH w w' := by
 refine qI func156 ntmps156 ?_
 refine kQ O (aO ?_)
 refine tC (n := 13) [0, 1, 2, 3, 4, 5, 6, 7, 8, 9, 10, 11, 12] (fun W => W.heap = w.heap) (by kernel_rfl) (by kernel_rfl) O ?_
 have hS0 : (fun W => W.heap = w.heap) (w.drew) := rfl
 refine gQ 0 O hS0 O (gQ 1 O hS0 O (jQ 2 O hS0 O (fQ 3 O hS0 61 jc O aj O ?_)))
 refine iO 4 O hS0 (fun W hW => jT aB O (by rw [hW]; exact hb) (YZ hs)) ?_
 refine gQ 5 O hS0 O (iL 6 O hS0 (fun _ => fP O O (by omega)) ?_)
 refine iL 7 O hS0 (fun _ => afd O O (by omega) (by  omega)) ?_
 refine jQ 8 O hS0 O (fQ 9 O hS0 1 jc O sizeOf170 O (iL 10 O hS0 (fun _ => ER underlying170 bF O O (by omega)) ?_))
 refine iO 11 O hS0 (fun W hW => jT ay O (by rw [hW]; exact hb) (by rw [show (1 + (((h : Int) + (k : Int)) % 60).toNat * 1) = 1 + (h + k) % 60 from by omega]; exact YX hs (by omega))) ?_
 refine iL 12 O hS0 (fun _ => fU O) (qj (aZ (mZ (fD results156 O ?_))))
 exact ⟨O, ⟨1, O⟩⟩
theorem RH (H : V w0 w (jV p E place • F)) : iM prog 130 #[.pointer (some ⟨p, 0, none⟩)] w fun v w' => v = .int .i64 E.length ∧ w = w' := by
  obtain ⟨s, h, hs, hh, hE, hp, hm, ho, H1⟩ := H.ring
  have hb := H1.get.2
  refine iQ func130 ntmps130 ?_
  refine kQ O (aO (bY O (fE O func139 (zD _ hb RF) ?_)))
  rintro _ _ ⟨rfl, rfl⟩
  refine jd (vS (iy (bY O (dO O (bn 62 jc O aj O (fB aB O hb (zh hs) (ig O (fD results130 O ?_))))))))
  exact ⟨O, O⟩
end
end Go.Proofs.YtgofgnlkpeghcaaGreatDoor
end
section
namespace Go.Proofs.YtgofgnlkpeghcaaGreatDoor
open Go.RowKit
def afy (E : List (List Int)) (place : Nat) (way : Int) (l : List Int) : Int × List (List Int) × Nat :=
  if way < 0 ∨ 2 < way then (1, E, place)
  else if 1024 < l.length then (3, E, place)
  else if way ≠ 0 ∧ 0 < E.length then
    if 1024 < l.length + (E.getD 0 []).length then (3, E, place)
    else (0, (if way = 1 then E.getD 0 [] ++ l else l ++ E.getD 0 []) :: E.tail, 0)
  else if way = 0 ∧ l.length = 0 then (0, E, place)
  else (0, (l :: E).take 60, 0)
section
variable {w0 w : World} {F : HP} {p place : Nat} {E : List (List Int)} {v : Value} {l : List Int} {way : Int}
end
end Go.Proofs.YtgofgnlkpeghcaaGreatDoor
end
