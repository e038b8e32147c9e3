import Derived.Test.YtimndnfpcomhlaaGreatDoorZ4
import Derived.Test.YtimndnfpcomhlaaGreatDoorZ5
set_option linter.unusedSimpArgs false
set_option linter.unusedVariables false
/- Texts of mine, joined, their names in short: Buf2 Buf3 LineP Move BLive Same Apply. -/
section
namespace Go.Proofs.YtimndnfpcomhlaaGreatDoor
open Go.RowKit
open _root_.Go.Proofs.Tryz
def kQ (L : List Int) (i r : Nat) : List Int := iK (iK (List.replicate (L.length + r + 16) 0) 0 (L.take i)) (i + r + 16) (L.drop i)
theorem PI {L : List Int} {i r : Nat} (h : i ≤ L.length) : (kQ L i r).length = L.length + r + 16 := by
  unfold kQ
  rw [dS, dS] <;> simp [dS] <;> first | omega | (rw [dS] <;> simp <;> omega)
theorem Fb {l ys : List Int} {i : Nat} (h : i + ys.length ≤ l.length) : (iK l i ys).take (i + ys.length) = l.take i ++ ys := by
  unfold iK
  rw [List.take_append_of_le_length (by simp; omega), List.take_of_length_le (by simp; omega)]
theorem Nc {l ys : List Int} {i j : Nat} (h : i + ys.length ≤ j) (h2 : j ≤ l.length) : (iK l i ys).drop j = l.drop j := by
  unfold iK
  rw [List.drop_append, List.drop_eq_nil_of_le (by simp; omega), List.nil_append, List.drop_drop]
  congr 1
  simp
  omega
theorem GX {l ys : List Int} {i j : Nat} (h : j ≤ i) (h2 : i ≤ l.length) : (iK l i ys).take j = l.take j := by
  unfold iK
  rw [List.append_assoc, List.take_append_of_le_length (by simp; omega), List.take_take, Nat.min_eq_left h]
theorem GY {l ys : List Int} {i : Nat} (h : i + ys.length = l.length) : (iK l i ys).drop i = ys := by
  unfold iK
  rw [List.append_assoc, List.drop_append, List.drop_eq_nil_of_le (by simp; omega), List.nil_append]
  simp [show i - min i l.length = 0 from by omega, show l.length ≤ i + ys.length from by omega]
theorem Nh {L : List Int} {i r : Nat} (h : i ≤ L.length) : (kQ L i r).take i = L.take i := by
  have h1 : (iK (List.replicate (L.length + r + 16) (0 : Int)) 0 (L.take i)).length = L.length + r + 16 := by rw [dS] <;> simp; omega
  unfold kQ
  rw [GX (by omega) (by rw [h1]; omega)]
  have := Fb (l := List.replicate (L.length + r + 16) (0 : Int)) (ys := L.take i) (i := 0) (by simp; omega)
  rw [show 0 + (L.take i).length = i from by simp; omega] at this
  simpa using this
theorem Nj {L : List Int} {i r : Nat} (h : i ≤ L.length) : (kQ L i r).drop (i + r + 16) = L.drop i := by
  have h1 : (iK (List.replicate (L.length + r + 16) (0 : Int)) 0 (L.take i)).length = L.length + r + 16 := by rw [dS] <;> simp; omega
  exact GY (by rw [h1]; simp; omega)
section
variable {w0 w : World} {F : HP} {p : Nat} {L : List Int} {pt mk : Int}
theorem KY {i r : Nat} (H : V w0 w (fF p L pt mk • F)) (hi : i ≤ L.length) (hr : r ≤ 1024) :
  iU prog 97 #[.pointer (some ⟨p, 0, none⟩), .int .i64 i, .int .i64 r] w fun _ w' => ∃ v, V w0 w' (dR p (.cells (iH v i (i + r + 16 : Nat) pt mk) 162 (0, 0)) • jR 21 .i32 v (kQ L i r) • F) := by
 have hL4 : L.length ≤ 1024 := by obtain ⟨a, c, xs, f, t, h1, h2, h3, h4, h5, h6, h7, hc1, hc2, hl, H1⟩ := H.buf; exact h4
 have e1 : ((L.length : Int) + r + 16).toNat = L.length + r + 16 := by omega
 refine FQ func97 ntmps97 ?_
 refine bM O (dZ O func59 (oK H) ?_)
 rintro u w1 H1
 obtain ⟨au, cu, hu, hcu, adl, _⟩ := (H1.aP).form
 subst hu
 obtain ⟨a, c, xs, f, t, h1, h2, h3, h4, h5, h6, h7, hc1, hc2, hl, HB⟩ := H1.swap.buf
 refine gY O (bM O (cZ O (aV (jy aG O) (cZ O (aV (gX O O (by omega)) (aV (gX O O (by omega)) (jL (MS HB aG Au O O (by omega) (by omega) (by omega)) ?_)))))))
 rintro v w2 H2
 rw [e1] at H2
 have hm : (List.replicate (L.length + r + 16) (0 : Int)).length = L.length + r + 16 := by simp
 obtain ⟨av, cv, hv, hcv, hcv2, _⟩ := (H2.aP).form
 rw [hm] at hv hcv
 subst hv
 refine dM O (bf 1 aW O dD O (aI (jk H2.swap dD O O O (by rw [lY]; decide)) ?_))
 rintro _ w3 H3
 rw [SV] at H3
 refine sU O (ny O O (bf 2 aW O aj O (aI (jk H3 aj O O O (by rw [lY]; decide)) ?_)))
 rintro _ w4 H4
 rw [y9] at H4
 refine sU O (ny O O (bf 1 aW O dD O (dQ aG O H4.get.2 O (aV (jy aG O) (cZ O (aV (jy aG O) (cZ O (aV (lX O O (by omega)) (aV (lX O O (by omega)) (dM O (bf 3 aW O aj O (aI (jk H4 aj O O O (by rw [lY]; decide)) ?_))))))))))))
 rintro _ w5 H5
 rw [C9, show (((L.length + r + 16 : Nat) : Int) - ((L.length : Int) - (i : Int))) = ((i + r + 16 : Nat) : Int) from by omega] at H5
 have hb3 := H5.get.2
 refine qj ?_
 refine oC (n := 8) [0, 1, 2, 3, 4, 5, 6, 7] (fun W => W.heap[p]? = some (.cells (iH (.slice av (L.length + r + 16) cv) i (i + r + 16 : Nat) pt mk) 162 (0, 0))) (by kernel_rfl) (by kernel_rfl) O ?_
 have hS0 : (fun W => W.heap[p]? = some (.cells (iH (.slice av (L.length + r + 16) cv) i (i + r + 16 : Nat) pt mk) 162 (0, 0))) (w5.drew) := hb3
 have H4d := H5.drew
 refine jc 0 O hS0 O (kN 1 O hS0 O (fV 2 O hS0 1 aW O dD O (jq 3 O hS0 (fun W hW => jV aG O hW O) (jc 4 O hS0 O (jc 5 O hS0 O (jW 6 O hS0 (fun _ => uN aG jr O O O (by omega)) ?_))))))
 refine mP 7 O (Aq (i := 0) (m := L.take i) H4d.swap (mM.upto H4d.r4.aP (by omega)) aG (by kernel_rfl) (by rw [hm, Px]; rfl) O (by simp; omega)) ?_
 rintro _ w6 ⟨rfl, H6⟩
 have hm2 : (iK (List.replicate (L.length + r + 16) (0 : Int)) 0 (L.take i)).length = L.length + r + 16 := by rw [dS] <;> simp; omega
 refine Gy (by kernel_rfl) ?_
 refine qp (bg ?_)
 refine oC (n := 13) [0, 1, 2, 3, 4, 5, 6, 7, 8, 9, 10, 11, 12] (fun W => W.heap[p]? = some (.cells (iH (.slice av (L.length + r + 16) cv) i (i + r + 16 : Nat) pt mk) 162 (0, 0))) (by kernel_rfl) (by kernel_rfl) O ?_
 have hS0 : (fun W => W.heap[p]? = some (.cells (iH (.slice av (L.length + r + 16) cv) i (i + r + 16 : Nat) pt mk) 162 (0, 0))) (w6.drew) := H6.swap.get.2
 have H5d := H6.drew
 refine jc 0 O hS0 O (kN 1 O hS0 O (fV 2 O hS0 1 aW O dD O (jq 3 O hS0 (fun W hW => jV aG O hW O) (jc 4 O hS0 O (kN 5 O hS0 O (fV 6 O hS0 3 aW O aj O (jq 7 O hS0 (fun W hW => jV ay O hW O) (jW 8 O hS0 (fun _ => uN aG jr O O O (by omega)) ?_))))))))
 refine jc 9 O hS0 O (jc 10 O hS0 O (jW 11 O hS0 (fun _ => uN aG jr O O O (by omega)) ?_))
 refine mP 12 O (Aq (i := i + r + 16) (m := L.drop i) H5d (mM.from H5d.r4.aP (by omega)) aG (by kernel_rfl) (by rw [hm2]; rfl) O (by rw [hm2]; simp; omega)) ?_
 rintro _ w7 ⟨rfl, H7⟩
 refine Gy (by kernel_rfl) ?_
 refine qp (gQ (.inr O) results97 ?_)
 exact ⟨_, H7.swap.I7.right.I7.right⟩
theorem nM (H : V w0 w (fF p L pt mk • F)) : iU prog 92 #[.pointer (some ⟨p, 0, none⟩)] w fun v w' => v = .bool false ∧ w = w' := by
  obtain ⟨a, c, xs, f, t, h1, h2, h3, h4, h5, h6, h7, hc1, hc2, hl, H1⟩ := H.buf
  exact tV _ H1.get.2 rfl
def dX (pt i j n : Int) : Int := if j < pt then pt + (n - (j - i)) else if i ≤ pt then i + n else pt
def eG (mk i j n : Int) : Int := if j < mk then mk + (n - (j - i)) else if i < mk then i else mk
def jv (at_ : Int) (d i : Value) : Array Value := #[.int .i64 at_, d, i]
theorem oL {at_ : Int} {d i : Value} (hd : d.oneCell' = true) (hi : i.oneCell' = true) : ∀ v ∈ (jv at_ d i).toList, v.oneCell' = true := by
  intro v hv
  simp [jv] at hv
  rcases hv with rfl | rfl | rfl <;> first | rfl | assumption
variable {v : Value} {l : List Int} {i j : Int}
theorem FV (H : V w0 w (fF p L pt mk • F)) (hr : kP w0 F .i32 v l) (hb : i < 0 ∨ L.length < i ∨ j < i ∨ L.length < j) :
  iU prog 54 #[.pointer (some ⟨p, 0, none⟩), .int .i64 i, .int .i64 j, v] w fun v' w' => v' = .tuple #[.agg (jv 0 (.slice none 0 0) (.slice none 0 0)), .int .i64 70] ∧ V w0 w' (fF p L pt mk • F) := by
 obtain ⟨a, c, rfl, _, _, _⟩ := (hr w H.right).open
 refine SE func54 ntmps54 ?_
 refine jg (jL (y5 H dB) ?_)
 rintro _ w1 ⟨b1, rfl, H1⟩
 refine gY O (bM O (dZ O func50 (mG H1.right) ?_))
 rintro _ w2 ⟨rfl, hD⟩
 have HL := H1.qW hD
 refine tJ O (bn (bM O (dZ O func92 (nM HL.right) ?_)))
 rintro _ _ ⟨rfl, rfl⟩
 refine gY O (bI O (fun h1 => ?_) (fun h1 => ?_))
 ·(try simp only [aH] at h1)
  exfalso; first | contradiction | omega
 ·(try simp only [aH] at h1)
  refine bM O (aV (fJ O O) (qC O (fun h2 => ?_) (fun h2 => ?_)))
  ·(try simp only [aH] at h2)
   refine dH (dH (dH (pW O O (cZ O (dH (dH (dH (pW O O (cZ O (dH (dH (dH (pW O O (gY O (EY (jg (aV (lQ (pl := #[(0, 1), (1, 1), (2, 1)]) (jv 0 (.slice none 0 0) (.slice none 0 0)) aS dB (fun w => by kernel_rfl) O (by kernel_rfl)) (aI (gq (cs := jv 0 (.slice none 0 0) (.slice none 0 0)) HL bG O O O O (oL O O)) ?_))))))))))))))))))
   rintro _ w5 H5
   refine iW O (bD (aK ?_))
   refine nK (.inl O) ku O O aS O (by rw [qU]; rfl) H5.get.2 ?_
   exact ⟨O, H5.right⟩
  ·(try simp only [aH] at h2)
   refine bU (cZ O (bU (cZ O (bU (aV (fZ O O) (lV O O (qC O (fun h3 => ?_) (fun h3 => ?_))))))))
   ·(try simp only [aH] at h3)
    refine dH (dH (dH (pW O O (cZ O (dH (dH (dH (pW O O (gY O (EY (jg (aV (lQ (pl := #[(0, 1), (1, 1), (2, 1)]) (jv 0 (.slice none 0 0) (.slice none 0 0)) aS dB (fun w => by kernel_rfl) O (by kernel_rfl)) (aI (gq (cs := jv 0 (.slice none 0 0) (.slice none 0 0)) HL bG O O O O (oL O O)) ?_)))))))))))))
    rintro _ w6 H6
    refine iW O (bD (aK ?_))
    refine nK (.inl O) ku O O aS O (by rw [qU]; rfl) H6.get.2 ?_
    exact ⟨O, H6.right⟩
   ·(try simp only [aH] at h3)
    refine bU (cZ O (bU (cZ O (bU (aV (fJ O O) (lV O O (qC O (fun h4 => ?_) (fun h4 => ?_))))))))
    ·(try simp only [aH] at h4)
     refine dH (dH (dH (pW O O (gY O (EY (jg (aV (lQ (pl := #[(0, 1), (1, 1), (2, 1)]) (jv 0 (.slice none 0 0) (.slice none 0 0)) aS dB (fun w => by kernel_rfl) O (by kernel_rfl)) (aI (gq (cs := jv 0 (.slice none 0 0) (.slice none 0 0)) HL bG O O O O (oL O O)) ?_))))))))
     rintro _ w7 H7
     refine iW O (bD (aK ?_))
     refine nK (.inl O) ku O O aS O (by rw [qU]; rfl) H7.get.2 ?_
     exact ⟨O, H7.right⟩
    ·(try simp only [aH] at h4)
     refine bU (cZ O (bU (cZ O (bU (aV (fZ O O) (lV O O (gY O (wcA O (fun h5 => ?_)))))))))
     (try simp only [aH] at h5)
     refine jg (aV (lQ (pl := #[(0, 1), (1, 1), (2, 1)]) (jv 0 (.slice none 0 0) (.slice none 0 0)) aS dB (fun w => by kernel_rfl) O (by kernel_rfl)) (aI (gq (cs := jv 0 (.slice none 0 0) (.slice none 0 0)) HL bG O O O O (oL O O)) ?_))
     rintro _ w8 H8
     refine iW O (bD (aK ?_))
     refine nK (.inl O) ku O O aS O (by rw [qU]; rfl) H8.get.2 ?_
     exact ⟨O, H8.right⟩
theorem EH (H : V w0 w (fF p L pt mk • F)) (hr : kP w0 F .i32 v l) (hb : 0 ≤ i ∧ i ≤ j ∧ j ≤ L.length) (hl : 1024 < L.length - (j - i) + l.length) :
  iU prog 54 #[.pointer (some ⟨p, 0, none⟩), .int .i64 i, .int .i64 j, v] w fun v' w' => v' = .tuple #[.agg (jv 0 (.slice none 0 0) (.slice none 0 0)), .int .i64 3] ∧ V w0 w' (fF p L pt mk • F) := by
 obtain ⟨a, c, rfl, _, _, _⟩ := (hr w H.right).open
 have hL4 : L.length ≤ 1024 := by obtain ⟨a, c, xs, f, t, h1, h2, h3, h4, h5, h6, h7, hc1, hc2, hl, H1⟩ := H.buf; exact h4
 refine SE func54 ntmps54 ?_
 refine jg (jL (y5 H dB) ?_)
 rintro _ w1 ⟨b1, rfl, H1⟩
 refine gY O (bM O (dZ O func50 (mG H1.right) ?_))
 rintro _ w2 ⟨rfl, hD⟩
 have HL := H1.qW hD
 refine tJ O (bn (bM O (dZ O func92 (nM HL.right) ?_)))
 rintro _ _ ⟨rfl, rfl⟩
 refine gY O (bI O (fun h1 => ?_) (fun h1 => ?_))
 ·(try simp only [aH] at h1)
  exfalso; first | contradiction | omega
 ·(try simp only [aH] at h1)
  refine bM O (aV (fJ O O) (qC O (fun h2 => ?_) (fun h2 => ?_)))
  ·(try simp only [aH] at h2)
   exfalso; first | contradiction | omega
  ·(try simp only [aH] at h2)
   refine bU (cZ O (bU (cZ O (bU (aV (fZ O O) (lV O O (qC O (fun h3 => ?_) (fun h3 => ?_))))))))
   ·(try simp only [aH] at h3)
    exfalso; first | contradiction | omega
   ·(try simp only [aH] at h3)
    refine bU (cZ O (bU (cZ O (bU (aV (fJ O O) (lV O O (qC O (fun h4 => ?_) (fun h4 => ?_))))))))
    ·(try simp only [aH] at h4)
     exfalso; first | contradiction | omega
    ·(try simp only [aH] at h4)
     refine bU (cZ O (bU (cZ O (bU (aV (fZ O O) (lV O O (gY O (O7 O (fun h5 => ?_)))))))))
     (try simp only [aH] at h5)
     refine bM O (aV (jy aG O) (mQ O O (cZ O (aV (lX O O (by omega)) (aV (lX O O (by omega)) (aV (lX O O (by omega)) (aV (fZ O O) (gY O (wcA O (fun h6 => ?_))))))))))
     (try simp only [aH] at h6)
     refine jg (aV (lQ (pl := #[(0, 1), (1, 1), (2, 1)]) (jv 0 (.slice none 0 0) (.slice none 0 0)) aS dB (fun w => by kernel_rfl) O (by kernel_rfl)) (aI (gq (cs := jv 0 (.slice none 0 0) (.slice none 0 0)) HL bG O O O O (oL O O)) ?_))
     rintro _ w8 H8
     refine iW O (bD (aK ?_))
     refine nK (.inl O) ku O O aS O (by rw [qU]; rfl) H8.get.2 ?_
     exact ⟨O, H8.right⟩
end
section
variable {w0 w : World} {F : HP} {p : Nat} {L : List Int} {pt mk : Int} {v : Value} {l : List Int} {i j : Int}
theorem GZ {i j : Nat} (H : V w0 w (fF p L pt mk • F)) (hr : kP w0 F .i32 v l) (hb : i ≤ j ∧ j ≤ L.length) (hl : (L.length : Int) - ((j : Int) - i) + l.length ≤ 1024) :
    iU prog 54 #[.pointer (some ⟨p, 0, none⟩), .int .i64 i, .int .i64 j, v] w fun v' w' => ∃ d s, v' = .tuple #[.agg (jv i d s), .int .i64 0] ∧
      V w0 w' (jR 21 .i32 d ((L.drop i).take (j - i)) • jR 21 .i32 s l • fF p (L.take i ++ l ++ L.drop j) (dX pt i j l.length) (eG mk i j l.length) • F) := by
  obtain ⟨a, c, rfl, hac, adn, _⟩ := (hr w H.right).open
  obtain ⟨hL4, hpt, hmk⟩ : L.length ≤ 1024 ∧ (0 ≤ pt ∧ pt ≤ L.length) ∧ (-1 ≤ mk ∧ mk ≤ L.length) := by obtain ⟨a, c, xs, f, t, h1, h2, h3, h4, h5, h6, h7, hc1, hc2, hl, H1⟩ := H.buf; exact ⟨h4, h6, h7⟩
  have hg1 := PI (L := L) (i := i) (r := l.length) (by omega)
  have hg2 := Nh (L := L) (i := i) (r := l.length) (by omega)
  have hg3 := Nj (L := L) (i := i) (r := l.length) (by omega)
  have hL' : L.take i ++ l ++ L.drop j = (iK (kQ L i l.length) i l).take (i + l.length) ++ (iK (kQ L i l.length) i l).drop (i + l.length + 16 + (j - i)) := by
    rw [Fb (by omega), Nc (by omega) (by omega), hg2]
    congr 1
    rw [← List.drop_drop, hg3, List.drop_drop]
    congr 1; omega
  have hlen' : (L.take i ++ l ++ L.drop j).length = L.length - (j - i) + l.length := by simp; omega
  refine SE func54 ntmps54 ?_
  refine jg (jL (y5 H dB) ?_)
  rintro _ w1 ⟨b1, rfl, H1⟩
  refine gY O (bM O (dZ O func50 (mG H1.right) ?_))
  rintro _ w2 ⟨rfl, hD⟩
  have HL := H1.qW hD
  refine tJ O (bn (bM O (dZ O func92 (nM HL.right) ?_)))
  rintro _ _ ⟨rfl, rfl⟩
  refine gY O (bI O (fun h1 => ?_) (fun h1 => ?_))
  · (try simp only [aH] at h1)
    exfalso; first | contradiction | omega
  · (try simp only [aH] at h1)
    refine bM O (aV (fJ O O) (qC O (fun h2 => ?_) (fun h2 => ?_)))
    · (try simp only [aH] at h2)
      exfalso; first | contradiction | omega
    · (try simp only [aH] at h2)
      refine bU (cZ O (bU (cZ O (bU (aV (fZ O O) (lV O O (qC O (fun h3 => ?_) (fun h3 => ?_))))))))
      · (try simp only [aH] at h3)
        exfalso; first | contradiction | omega
      · (try simp only [aH] at h3)
        refine bU (cZ O (bU (cZ O (bU (aV (fJ O O) (lV O O (qC O (fun h4 => ?_) (fun h4 => ?_))))))))
        · (try simp only [aH] at h4)
          exfalso; first | contradiction | omega
        · (try simp only [aH] at h4)
          refine bU (cZ O (bU (cZ O (bU (aV (fZ O O) (lV O O (gY O (O7 O (fun h5 => ?_)))))))))
          (try simp only [aH] at h5)
          refine bM O (aV (jy aG O) (mQ O O (cZ O (aV (lX O O (by omega)) (aV (lX O O (by omega)) (aV (lX O O (by omega)) (aV (fZ O O) (gY O (O7 O (fun h6 => ?_))))))))))
          (try simp only [aH] at h6)
          refine fU (aN (bg (bM O (cZ O (dZ O func59 (oK HL.swap) ?_)))))
          rintro u w8 H8
          obtain ⟨au, cu, hu, _⟩ := (H8.aP).form
          subst hu
          refine mQ O O (aV (uN aG jr O O O (by omega)) ?_)
          refine dZ O func93 (sK H8 (fun W HW => mM.cut HW.aP (i := i) (j := j) (by omega) (by omega)) (by simp; omega)) ?_
          rintro d w9 H9
          have HC := H9.swap.right
          obtain ⟨ad, cd, hd, _⟩ := (HC.aP).form
          subst hd
          refine cZ O (dZ O func93 (sK HC hr.under.under.under (by omega)) ?_)
          rintro s w10 sV
          obtain ⟨ai, ci, hs, _⟩ := (sV.aP).form
          subst hs
          refine aV (lQ (pl := #[(0, 1), (1, 1), (2, 1)]) (jv i (.slice ad ((L.drop i).take (j - i)).length cd) (.slice ai l.length ci)) aS dB (fun w => by kernel_rfl) O (by kernel_rfl)) (jL (y5 sV dB) ?_)
          rintro _ I9 ⟨b11, rfl, yt⟩
          refine aI (gq (cs := jv i (.slice ad ((L.drop i).take (j - i)).length cd) (.slice ai l.length ci)) yt bG O O O O (oL O O)) ?_
          rintro _ w12 wz
          refine sU O (mQ O O (aV (jy aG O) (dZ O func97 (KY wz.r4 (by omega) (by omega)) ?_)))
          rintro _ O8 ⟨x, yY⟩
          obtain ⟨ax, cx, hx, _⟩ := (yY.swap.aP).form
          subst hx
          refine sU O (dM O (bf 3 aW O aj O (dQ ay O yY.get.2 O (mQ O O (aV (lX O O (by omega)) (aV (gX O O (by omega)) (dM O (bf 3 aW O aj O (aI (jk yY aj O O O (by rw [lY]; decide)) ?_)))))))))
          rintro _ MK yu
          rw [C9] at yu
          have abK := yu.get.2
          refine qj ?_
          refine oC (n := 11) [0, 1, 2, 3, 4, 5, 6, 7, 8, 9, 10] (fun W => W.heap[p]? = some (.cells (iH (.slice ax (kQ L i l.length).length cx) i ((i + l.length + 16 : Nat) + ((j : Int) - i)) pt mk) 162 (0, 0))) (by kernel_rfl) (by kernel_rfl) O ?_
          have hS0 : (fun W => W.heap[p]? = some (.cells (iH (.slice ax (kQ L i l.length).length cx) i ((i + l.length + 16 : Nat) + ((j : Int) - i)) pt mk) 162 (0, 0))) (MK.drew) := abK
          have UY := yu.drew
          refine jc 0 O hS0 O (kN 1 O hS0 O (fV 2 O hS0 1 aW O dD O (jq 3 O hS0 (fun W hW => jV aG O hW O) (jc 4 O hS0 O (kN 5 O hS0 O (fV 6 O hS0 2 aW O aj O (jq 7 O hS0 (fun W hW => jV ay O hW O) (jW 8 O hS0 (fun _ => uN aG jr O O O (by omega)) ?_))))))))
          refine jc 9 O hS0 O (mP 10 O (Aq (i := i) (m := l) UY.swap (hr _ UY.right.right.right.right.right.right) aG (by kernel_rfl) O O (by omega)) ?_)
          rintro _ SX ⟨rfl, BA⟩
          have HS := BA.swap
          refine Gy (by kernel_rfl) ?_
          refine qp (bg (bM O (dM O (bf 2 aW O aj O (dQ ay O HS.get.2 O (cZ O (aV (jy aG O) (aV (gX O O (by omega)) (dM O (bf 2 aW O aj O (aI (jk HS aj O O O (by rw [lY]; decide)) ?_)))))))))))
          rintro _ w16 uO
          rw [y9] at uO
          refine qj (bn (bM O (dM O (bf 4 aW O aj O (dQ ay O uO.get.2 O (cZ O (aV (fZ O O) (gY O (bI O (fun h7 => ?_) (fun h7 => ?_))))))))))
          · (try simp only [aH] at h7)
            refine aC (ny O O (bf 4 aW O aj O (dQ ay O uO.get.2 O (cZ O (aV (jy aG O) (mQ O O (aV (lX O O (by omega)) (aV (lX O O (by omega)) (aV (gX O O (by omega)) (dM O (bf 4 aW O aj O (aI (jk uO aj O O O (by rw [lY]; decide)) ?_))))))))))))
            rintro _ Xc Dx
            rw [xR] at Dx
            refine bY (aN (bg (aO (bn (bM O (dM O (bf 5 aW O aj O (dQ ay O Dx.get.2 O (cZ O (aV (fZ O O) (gY O (bI O (fun h8 => ?_) (fun h8 => ?_)))))))))))))
            · (try simp only [aH] at h8)
              refine aC (ny O O (bf 5 aW O aj O (dQ ay O Dx.get.2 O (cZ O (aV (jy aG O) (mQ O O (aV (lX O O (by omega)) (aV (lX O O (by omega)) (aV (gX O O (by omega)) (dM O (bf 5 aW O aj O (aI (jk Dx aj O O O (by rw [lY]; decide)) ?_))))))))))))
              rintro _ Xd Es
              rw [qF] at Es
              refine bY (aN (bg (aO ?_)))
              have sW := Es.I7
              refine aC (aV (dG aS O bG O O sW.get.2) (aI (gq (cs := jv i (.slice ad ((L.drop i).take (j - i)).length cd) (.slice ai l.length ci)) sW.r6 bG O O O O (oL O O)) ?_))
              rintro _ Xf zO
              refine iW O ?_
              refine nK (.inl O) ku O O aS O (by rw [qU]; rfl) zO.get.2 ?_
              refine ⟨_, _, O, ?_⟩
              first
                | rw [show dX pt i j l.length = pt + ((l.length : Int) - ((j : Int) - i)) from by unfold dX; rw [if_pos (by omega)]]
                | rw [show dX pt i j l.length = (i : Int) + l.length from by unfold dX; rw [if_neg (by omega), if_pos (by omega)]]
                | rw [show dX pt i j l.length = pt from by unfold dX; rw [if_neg (by omega), if_neg (by omega)]]
              first
                | rw [show eG mk i j l.length = mk + ((l.length : Int) - ((j : Int) - i)) from by unfold eG; rw [if_pos (by omega)]]
                | rw [show eG mk i j l.length = (i : Int) from by unfold eG; rw [if_neg (by omega), if_pos (by omega)]]
                | rw [show eG mk i j l.length = mk from by unfold eG; rw [if_neg (by omega), if_neg (by omega)]]
              refine (V.qx (f := i + l.length) (t := i + l.length + 16 + (j - i)) (v := .slice ax (kQ L i l.length).length cx) (xs := iK (kQ L i l.length) i l) (by omega) (by rw [dS (by omega)]; omega) hL' (by omega) (by rw [dS (by omega)]; omega) (by omega) (by omega) ?_).d3.swap
              rw [show ((i + l.length : Nat) : Int) = (i : Int) + l.length from by omega, show ((i + l.length + 16 + (j - i) : Nat) : Int) = ((i + l.length + 16 : Nat) : Int) + ((j : Int) - i) from by omega]
              exact zO.right.right
            · (try simp only [aH] at h8)
              refine bM O (dM O (bf 5 aW O aj O (dQ ay O Dx.get.2 O (cZ O (aV (fZ O O) (gY O (bI O (fun h9 => ?_) (fun h9 => ?_))))))))
              · (try simp only [aH] at h9)
                refine aC (mQ O O (dM O (bf 5 aW O aj O (aI (jk Dx aj O O O (by rw [lY]; decide)) ?_))))
                rintro _ XJ BD
                rw [qF] at BD
                refine bY (aN (bg (aO ?_)))
                have sW := BD.I7
                refine aC (aV (dG aS O bG O O sW.get.2) (aI (gq (cs := jv i (.slice ad ((L.drop i).take (j - i)).length cd) (.slice ai l.length ci)) sW.r6 bG O O O O (oL O O)) ?_))
                rintro _ XK sW
                refine iW O ?_
                refine nK (.inl O) ku O O aS O (by rw [qU]; rfl) sW.get.2 ?_
                refine ⟨_, _, O, ?_⟩
                first
                  | rw [show dX pt i j l.length = pt + ((l.length : Int) - ((j : Int) - i)) from by unfold dX; rw [if_pos (by omega)]]
                  | rw [show dX pt i j l.length = (i : Int) + l.length from by unfold dX; rw [if_neg (by omega), if_pos (by omega)]]
                  | rw [show dX pt i j l.length = pt from by unfold dX; rw [if_neg (by omega), if_neg (by omega)]]
                first
                  | rw [show eG mk i j l.length = mk + ((l.length : Int) - ((j : Int) - i)) from by unfold eG; rw [if_pos (by omega)]]
                  | rw [show eG mk i j l.length = (i : Int) from by unfold eG; rw [if_neg (by omega), if_pos (by omega)]]
                  | rw [show eG mk i j l.length = mk from by unfold eG; rw [if_neg (by omega), if_neg (by omega)]]
                refine (V.qx (f := i + l.length) (t := i + l.length + 16 + (j - i)) (v := .slice ax (kQ L i l.length).length cx) (xs := iK (kQ L i l.length) i l) (by omega) (by rw [dS (by omega)]; omega) hL' (by omega) (by rw [dS (by omega)]; omega) (by omega) (by omega) ?_).d3.swap
                rw [show ((i + l.length : Nat) : Int) = (i : Int) + l.length from by omega, show ((i + l.length + 16 + (j - i) : Nat) : Int) = ((i + l.length + 16 : Nat) : Int) + ((j : Int) - i) from by omega]
                exact sW.right.right
              · (try simp only [aH] at h9)
                refine fU (aN (bg (aO ?_)))
                have sW := Dx.I7
                refine aC (aV (dG aS O bG O O sW.get.2) (aI (gq (cs := jv i (.slice ad ((L.drop i).take (j - i)).length cd) (.slice ai l.length ci)) sW.r6 bG O O O O (oL O O)) ?_))
                rintro _ w22 Gi
                refine iW O ?_
                refine nK (.inl O) ku O O aS O (by rw [qU]; rfl) Gi.get.2 ?_
                refine ⟨_, _, O, ?_⟩
                first
                  | rw [show dX pt i j l.length = pt + ((l.length : Int) - ((j : Int) - i)) from by unfold dX; rw [if_pos (by omega)]]
                  | rw [show dX pt i j l.length = (i : Int) + l.length from by unfold dX; rw [if_neg (by omega), if_pos (by omega)]]
                  | rw [show dX pt i j l.length = pt from by unfold dX; rw [if_neg (by omega), if_neg (by omega)]]
                first
                  | rw [show eG mk i j l.length = mk + ((l.length : Int) - ((j : Int) - i)) from by unfold eG; rw [if_pos (by omega)]]
                  | rw [show eG mk i j l.length = (i : Int) from by unfold eG; rw [if_neg (by omega), if_pos (by omega)]]
                  | rw [show eG mk i j l.length = mk from by unfold eG; rw [if_neg (by omega), if_neg (by omega)]]
                refine (V.qx (f := i + l.length) (t := i + l.length + 16 + (j - i)) (v := .slice ax (kQ L i l.length).length cx) (xs := iK (kQ L i l.length) i l) (by omega) (by rw [dS (by omega)]; omega) hL' (by omega) (by rw [dS (by omega)]; omega) (by omega) (by omega) ?_).d3.swap
                rw [show ((i + l.length : Nat) : Int) = (i : Int) + l.length from by omega, show ((i + l.length + 16 + (j - i) : Nat) : Int) = ((i + l.length + 16 : Nat) : Int) + ((j : Int) - i) from by omega]
                exact Gi.right.right
          · (try simp only [aH] at h7)
            refine bM O (dM O (bf 4 aW O aj O (dQ ay O uO.get.2 O (cZ O (aV (Gv O O) (gY O (bI O (fun h10 => ?_) (fun h10 => ?_))))))))
            · (try simp only [aH] at h10)
              refine aC (mQ O O (cZ O (aV (jy aG O) (aV (gX O O (by omega)) (dM O (bf 4 aW O aj O (aI (jk uO aj O O O (by rw [lY]; decide)) ?_)))))))
              rintro _ UZ xu
              rw [xR] at xu
              refine bY (aN (bg (aO (bn (bM O (dM O (bf 5 aW O aj O (dQ ay O xu.get.2 O (cZ O (aV (fZ O O) (gY O (bI O (fun h11 => ?_) (fun h11 => ?_)))))))))))))
              · (try simp only [aH] at h11)
                refine aC (ny O O (bf 5 aW O aj O (dQ ay O xu.get.2 O (cZ O (aV (jy aG O) (mQ O O (aV (lX O O (by omega)) (aV (lX O O (by omega)) (aV (gX O O (by omega)) (dM O (bf 5 aW O aj O (aI (jk xu aj O O O (by rw [lY]; decide)) ?_))))))))))))
                rintro _ w24 JW
                rw [qF] at JW
                refine bY (aN (bg (aO ?_)))
                have sW := JW.I7
                refine aC (aV (dG aS O bG O O sW.get.2) (aI (gq (cs := jv i (.slice ad ((L.drop i).take (j - i)).length cd) (.slice ai l.length ci)) sW.r6 bG O O O O (oL O O)) ?_))
                rintro _ w25 JX
                refine iW O ?_
                refine nK (.inl O) ku O O aS O (by rw [qU]; rfl) JX.get.2 ?_
                refine ⟨_, _, O, ?_⟩
                first
                  | rw [show dX pt i j l.length = pt + ((l.length : Int) - ((j : Int) - i)) from by unfold dX; rw [if_pos (by omega)]]
                  | rw [show dX pt i j l.length = (i : Int) + l.length from by unfold dX; rw [if_neg (by omega), if_pos (by omega)]]
                  | rw [show dX pt i j l.length = pt from by unfold dX; rw [if_neg (by omega), if_neg (by omega)]]
                first
                  | rw [show eG mk i j l.length = mk + ((l.length : Int) - ((j : Int) - i)) from by unfold eG; rw [if_pos (by omega)]]
                  | rw [show eG mk i j l.length = (i : Int) from by unfold eG; rw [if_neg (by omega), if_pos (by omega)]]
                  | rw [show eG mk i j l.length = mk from by unfold eG; rw [if_neg (by omega), if_neg (by omega)]]
                refine (V.qx (f := i + l.length) (t := i + l.length + 16 + (j - i)) (v := .slice ax (kQ L i l.length).length cx) (xs := iK (kQ L i l.length) i l) (by omega) (by rw [dS (by omega)]; omega) hL' (by omega) (by rw [dS (by omega)]; omega) (by omega) (by omega) ?_).d3.swap
                rw [show ((i + l.length : Nat) : Int) = (i : Int) + l.length from by omega, show ((i + l.length + 16 + (j - i) : Nat) : Int) = ((i + l.length + 16 : Nat) : Int) + ((j : Int) - i) from by omega]
                exact JX.right.right
              · (try simp only [aH] at h11)
                refine bM O (dM O (bf 5 aW O aj O (dQ ay O xu.get.2 O (cZ O (aV (fZ O O) (gY O (bI O (fun h12 => ?_) (fun h12 => ?_))))))))
                · (try simp only [aH] at h12)
                  refine aC (mQ O O (dM O (bf 5 aW O aj O (aI (jk xu aj O O O (by rw [lY]; decide)) ?_))))
                  rintro _ w26 Nk
                  rw [qF] at Nk
                  refine bY (aN (bg (aO ?_)))
                  have sW := Nk.I7
                  refine aC (aV (dG aS O bG O O sW.get.2) (aI (gq (cs := jv i (.slice ad ((L.drop i).take (j - i)).length cd) (.slice ai l.length ci)) sW.r6 bG O O O O (oL O O)) ?_))
                  rintro _ w27 Jh
                  refine iW O ?_
                  refine nK (.inl O) ku O O aS O (by rw [qU]; rfl) Jh.get.2 ?_
                  refine ⟨_, _, O, ?_⟩
                  first
                    | rw [show dX pt i j l.length = pt + ((l.length : Int) - ((j : Int) - i)) from by unfold dX; rw [if_pos (by omega)]]
                    | rw [show dX pt i j l.length = (i : Int) + l.length from by unfold dX; rw [if_neg (by omega), if_pos (by omega)]]
                    | rw [show dX pt i j l.length = pt from by unfold dX; rw [if_neg (by omega), if_neg (by omega)]]
                  first
                    | rw [show eG mk i j l.length = mk + ((l.length : Int) - ((j : Int) - i)) from by unfold eG; rw [if_pos (by omega)]]
                    | rw [show eG mk i j l.length = (i : Int) from by unfold eG; rw [if_neg (by omega), if_pos (by omega)]]
                    | rw [show eG mk i j l.length = mk from by unfold eG; rw [if_neg (by omega), if_neg (by omega)]]
                  refine (V.qx (f := i + l.length) (t := i + l.length + 16 + (j - i)) (v := .slice ax (kQ L i l.length).length cx) (xs := iK (kQ L i l.length) i l) (by omega) (by rw [dS (by omega)]; omega) hL' (by omega) (by rw [dS (by omega)]; omega) (by omega) (by omega) ?_).d3.swap
                  rw [show ((i + l.length : Nat) : Int) = (i : Int) + l.length from by omega, show ((i + l.length + 16 + (j - i) : Nat) : Int) = ((i + l.length + 16 : Nat) : Int) + ((j : Int) - i) from by omega]
                  exact Jh.right.right
                · (try simp only [aH] at h12)
                  refine fU (aN (bg (aO ?_)))
                  have sW := xu.I7
                  refine aC (aV (dG aS O bG O O sW.get.2) (aI (gq (cs := jv i (.slice ad ((L.drop i).take (j - i)).length cd) (.slice ai l.length ci)) sW.r6 bG O O O O (oL O O)) ?_))
                  rintro _ w28 U0
                  refine iW O ?_
                  refine nK (.inl O) ku O O aS O (by rw [qU]; rfl) U0.get.2 ?_
                  refine ⟨_, _, O, ?_⟩
                  first
                    | rw [show dX pt i j l.length = pt + ((l.length : Int) - ((j : Int) - i)) from by unfold dX; rw [if_pos (by omega)]]
                    | rw [show dX pt i j l.length = (i : Int) + l.length from by unfold dX; rw [if_neg (by omega), if_pos (by omega)]]
                    | rw [show dX pt i j l.length = pt from by unfold dX; rw [if_neg (by omega), if_neg (by omega)]]
                  first
                    | rw [show eG mk i j l.length = mk + ((l.length : Int) - ((j : Int) - i)) from by unfold eG; rw [if_pos (by omega)]]
                    | rw [show eG mk i j l.length = (i : Int) from by unfold eG; rw [if_neg (by omega), if_pos (by omega)]]
                    | rw [show eG mk i j l.length = mk from by unfold eG; rw [if_neg (by omega), if_neg (by omega)]]
                  refine (V.qx (f := i + l.length) (t := i + l.length + 16 + (j - i)) (v := .slice ax (kQ L i l.length).length cx) (xs := iK (kQ L i l.length) i l) (by omega) (by rw [dS (by omega)]; omega) hL' (by omega) (by rw [dS (by omega)]; omega) (by omega) (by omega) ?_).d3.swap
                  rw [show ((i + l.length : Nat) : Int) = (i : Int) + l.length from by omega, show ((i + l.length + 16 + (j - i) : Nat) : Int) = ((i + l.length + 16 : Nat) : Int) + ((j : Int) - i) from by omega]
                  exact U0.right.right
            · (try simp only [aH] at h10)
              refine fU (aN (bg (aO (bn (bM O (dM O (bf 5 aW O aj O (dQ ay O uO.get.2 O (cZ O (aV (fZ O O) (gY O (bI O (fun h13 => ?_) (fun h13 => ?_)))))))))))))
              · (try simp only [aH] at h13)
                refine aC (ny O O (bf 5 aW O aj O (dQ ay O uO.get.2 O (cZ O (aV (jy aG O) (mQ O O (aV (lX O O (by omega)) (aV (lX O O (by omega)) (aV (gX O O (by omega)) (dM O (bf 5 aW O aj O (aI (jk uO aj O O O (by rw [lY]; decide)) ?_))))))))))))
                rintro _ w29 U1
                rw [qF] at U1
                refine bY (aN (bg (aO ?_)))
                have sW := U1.I7
                refine aC (aV (dG aS O bG O O sW.get.2) (aI (gq (cs := jv i (.slice ad ((L.drop i).take (j - i)).length cd) (.slice ai l.length ci)) sW.r6 bG O O O O (oL O O)) ?_))
                rintro _ w30 PK
                refine iW O ?_
                refine nK (.inl O) ku O O aS O (by rw [qU]; rfl) PK.get.2 ?_
                refine ⟨_, _, O, ?_⟩
                first
                  | rw [show dX pt i j l.length = pt + ((l.length : Int) - ((j : Int) - i)) from by unfold dX; rw [if_pos (by omega)]]
                  | rw [show dX pt i j l.length = (i : Int) + l.length from by unfold dX; rw [if_neg (by omega), if_pos (by omega)]]
                  | rw [show dX pt i j l.length = pt from by unfold dX; rw [if_neg (by omega), if_neg (by omega)]]
                first
                  | rw [show eG mk i j l.length = mk + ((l.length : Int) - ((j : Int) - i)) from by unfold eG; rw [if_pos (by omega)]]
                  | rw [show eG mk i j l.length = (i : Int) from by unfold eG; rw [if_neg (by omega), if_pos (by omega)]]
                  | rw [show eG mk i j l.length = mk from by unfold eG; rw [if_neg (by omega), if_neg (by omega)]]
                refine (V.qx (f := i + l.length) (t := i + l.length + 16 + (j - i)) (v := .slice ax (kQ L i l.length).length cx) (xs := iK (kQ L i l.length) i l) (by omega) (by rw [dS (by omega)]; omega) hL' (by omega) (by rw [dS (by omega)]; omega) (by omega) (by omega) ?_).d3.swap
                rw [show ((i + l.length : Nat) : Int) = (i : Int) + l.length from by omega, show ((i + l.length + 16 + (j - i) : Nat) : Int) = ((i + l.length + 16 : Nat) : Int) + ((j : Int) - i) from by omega]
                exact PK.right.right
              · (try simp only [aH] at h13)
                refine bM O (dM O (bf 5 aW O aj O (dQ ay O uO.get.2 O (cZ O (aV (fZ O O) (gY O (bI O (fun h14 => ?_) (fun h14 => ?_))))))))
                · (try simp only [aH] at h14)
                  refine aC (mQ O O (dM O (bf 5 aW O aj O (aI (jk uO aj O O O (by rw [lY]; decide)) ?_))))
                  rintro _ w31 KZ
                  rw [qF] at KZ
                  refine bY (aN (bg (aO ?_)))
                  have sW := KZ.I7
                  refine aC (aV (dG aS O bG O O sW.get.2) (aI (gq (cs := jv i (.slice ad ((L.drop i).take (j - i)).length cd) (.slice ai l.length ci)) sW.r6 bG O O O O (oL O O)) ?_))
                  rintro _ Zg Ja
                  refine iW O ?_
                  refine nK (.inl O) ku O O aS O (by rw [qU]; rfl) Ja.get.2 ?_
                  refine ⟨_, _, O, ?_⟩
                  first
                    | rw [show dX pt i j l.length = pt + ((l.length : Int) - ((j : Int) - i)) from by unfold dX; rw [if_pos (by omega)]]
                    | rw [show dX pt i j l.length = (i : Int) + l.length from by unfold dX; rw [if_neg (by omega), if_pos (by omega)]]
                    | rw [show dX pt i j l.length = pt from by unfold dX; rw [if_neg (by omega), if_neg (by omega)]]
                  first
                    | rw [show eG mk i j l.length = mk + ((l.length : Int) - ((j : Int) - i)) from by unfold eG; rw [if_pos (by omega)]]
                    | rw [show eG mk i j l.length = (i : Int) from by unfold eG; rw [if_neg (by omega), if_pos (by omega)]]
                    | rw [show eG mk i j l.length = mk from by unfold eG; rw [if_neg (by omega), if_neg (by omega)]]
                  refine (V.qx (f := i + l.length) (t := i + l.length + 16 + (j - i)) (v := .slice ax (kQ L i l.length).length cx) (xs := iK (kQ L i l.length) i l) (by omega) (by rw [dS (by omega)]; omega) hL' (by omega) (by rw [dS (by omega)]; omega) (by omega) (by omega) ?_).d3.swap
                  rw [show ((i + l.length : Nat) : Int) = (i : Int) + l.length from by omega, show ((i + l.length + 16 + (j - i) : Nat) : Int) = ((i + l.length + 16 : Nat) : Int) + ((j : Int) - i) from by omega]
                  exact Ja.right.right
                · (try simp only [aH] at h14)
                  refine fU (aN (bg (aO ?_)))
                  have sW := uO.I7
                  refine aC (aV (dG aS O bG O O sW.get.2) (aI (gq (cs := jv i (.slice ad ((L.drop i).take (j - i)).length cd) (.slice ai l.length ci)) sW.r6 bG O O O O (oL O O)) ?_))
                  rintro _ w33 SY
                  refine iW O ?_
                  refine nK (.inl O) ku O O aS O (by rw [qU]; rfl) SY.get.2 ?_
                  refine ⟨_, _, O, ?_⟩
                  first
                    | rw [show dX pt i j l.length = pt + ((l.length : Int) - ((j : Int) - i)) from by unfold dX; rw [if_pos (by omega)]]
                    | rw [show dX pt i j l.length = (i : Int) + l.length from by unfold dX; rw [if_neg (by omega), if_pos (by omega)]]
                    | rw [show dX pt i j l.length = pt from by unfold dX; rw [if_neg (by omega), if_neg (by omega)]]
                  first
                    | rw [show eG mk i j l.length = mk + ((l.length : Int) - ((j : Int) - i)) from by unfold eG; rw [if_pos (by omega)]]
                    | rw [show eG mk i j l.length = (i : Int) from by unfold eG; rw [if_neg (by omega), if_pos (by omega)]]
                    | rw [show eG mk i j l.length = mk from by unfold eG; rw [if_neg (by omega), if_neg (by omega)]]
                  refine (V.qx (f := i + l.length) (t := i + l.length + 16 + (j - i)) (v := .slice ax (kQ L i l.length).length cx) (xs := iK (kQ L i l.length) i l) (by omega) (by rw [dS (by omega)]; omega) hL' (by omega) (by rw [dS (by omega)]; omega) (by omega) (by omega) ?_).d3.swap
                  rw [show ((i + l.length : Nat) : Int) = (i : Int) + l.length from by omega, show ((i + l.length + 16 + (j - i) : Nat) : Int) = ((i + l.length + 16 : Nat) : Int) + ((j : Int) - i) from by omega]
                  exact SY.right.right
end
def Yx (n : Nat) (pt x : Int) : Int := if 0 ≤ x ∧ x ≤ n then x else pt
def mvE (n : Nat) (x : Int) : Int := if 0 ≤ x ∧ x ≤ n then 0 else 70
def pR (v : Value) (pt mk : Int) : Array Value := #[v, .int .i64 pt, .int .i64 mk]
theorem S9 {v : Value} {pt mk : Int} (h : v.oneCell' = true) : ∀ u ∈ (pR v pt mk).toList, u.oneCell' = true := by
  intro u hu
  simp [pR] at hu
  rcases hu with rfl | rfl | rfl
  · exact h
  · rfl
  · rfl
section
variable {w0 w : World} {F : HP} {p : Nat} {L : List Int} {pt mk x : Int} {v : Value} {l : List Int}
theorem La (H : V w0 w (fF p L pt mk • F)) : iU prog 63 #[.pointer (some ⟨p, 0, none⟩), .int .i64 x] w fun v w' => v = .int .i64 (mvE L.length x) ∧ V w0 w' (fF p L (Yx L.length pt x) mk • F) := by
 refine oP func63 ntmps63 ?_
 refine lZ O (aO (bn (bM O (dZ O func92 (nM H) ?_))))
 rintro _ _ ⟨rfl, rfl⟩
 refine gY O (bI O (fun h1 => ?_) (fun h1 => ?_))
 ·(try simp only [aH] at h1)
  exfalso; first | contradiction | omega
 ·(try simp only [aH] at h1)
  refine bM O (aV (fJ O O) (qC O (fun h2 => ?_) (fun h2 => ?_)))
  ·(try simp only [aH] at h2)
   refine dH (dH (dH (dH (pW O O (gY O (EY (lF O (bD (aK (fB results63 O ?_))))))))))
   exact ⟨by rw [mvE, if_neg (by omega)], by rw [Yx, if_neg (by omega)]; exact H⟩
  ·(try simp only [aH] at h2)
   refine bU (cZ O (bU (cZ O (bU (dZ O func50 (mG H) ?_)))))
   rintro _ w2 ⟨rfl, hD⟩
   have HL := H.qW hD
   refine bU (aV (fZ O O) (lV O O (gY O (bI O (fun h3 => ?_) (fun h3 => ?_)))))
   ·(try simp only [aH] at h3)
    refine lF O (bD (aK (fB results63 O ?_)))
    exact ⟨by rw [mvE, if_neg (by omega)], by rw [Yx, if_neg (by omega)]; exact HL⟩
   ·(try simp only [aH] at h3)
    refine fU (aN (bg (aO ?_)))
    obtain ⟨a, c, xs, f, t, h11, h12, h13, h14, h15, h16, h17, hc1, hc2, hl, HB⟩ := HL.buf
    refine aC (mQ O O (dM O (bf 4 aW O aj O (aI (jk HB aj O O O (by rw [lY]; decide)) ?_))))
    rintro _ w3 H3
    rw [xR] at H3
    refine iT (lF O (fB results63 O ?_))
    exact ⟨by rw [mvE, if_pos (by omega)], by rw [Yx, if_pos (by omega)]; exact V.qx h11 h12 h13 h14 h15 (by omega) h17 H3⟩
theorem Lc (H : V w0 w (fF p L pt mk • F)) : iU prog 78 #[.pointer (some ⟨p, 0, none⟩)] w fun v' w' => ∃ u, v' = .agg (pR u pt mk) ∧ V w0 w' (jR 21 .i32 u L • fF p L pt mk • F) := by
 refine ji func78 ntmps78 ?_
 refine jg (jL (y5 H zeroValue40) ?_)
 rintro _ w1 ⟨b1, rfl, H1⟩
 refine sU O (dZ O func59 (oK H1.swap) ?_)
 rintro u w2 H2
 obtain ⟨au, cu, hu, _⟩ := (H2.aP).form
 subst hu
 refine cZ O (dZ O func49 (nS H2.swap) ?_)
 rintro _ _ ⟨rfl, rfl⟩
 refine cZ O (dZ O func110 (KX H2.swap) ?_)
 rintro _ _ ⟨rfl, rfl⟩
 refine aV (lQ (pl := #[(0, 1), (1, 1), (2, 1)]) (pR (.slice au L.length cu) pt mk) jo zeroValue40 (fun w => by kernel_rfl) O (by kernel_rfl)) (aI (gq (cs := pR (.slice au L.length cu) pt mk) H2.I7 sizeOf40 O O O O (S9 O)) ?_)
 rintro _ w5 H5
 refine zkc ?_
 refine Xw (.inl O) results78 O jo O (by rw [Yy]; rfl) H5.get.2 ?_
 exact ⟨_, O, H5.right⟩
end
end Go.Proofs.YtimndnfpcomhlaaGreatDoor
end
section
namespace Go.Proofs.YtimndnfpcomhlaaGreatDoor
open Go.RowKit
def U2 (g : Int → Bool) (l : List Int) (at_ : Nat) : Nat := at_ + ((l.drop at_).takeWhile g).length
def U3 (g : Int → Bool) (l : List Int) (at_ : Nat) : Nat := at_ - ((l.take at_).reverse.takeWhile g).length
def DW (n : Nat) (x : Int) : Nat := (min (max x 0) n).toNat
section
variable {w0 w : World} {F G : HP} {v fv : Value} {l : List Int} {g : Int → Bool}
def aaA (l : List Int) (x : Int) : Nat := U2 Gh l (U2 (fun r => !Gh r) l (DW l.length x))
def Zh (l : List Int) (x : Int) : Nat := U3 Gh l (U3 (fun r => !Gh r) l (DW l.length x))
def QT (r : Int) : Bool := decide (UF r ≠ 0) || MW r
def ac4 (l : List Int) (x : Int) : Nat := if DW l.length x < l.length then U2 (fun r => !QT r) l (DW l.length x + 1) else l.length
def ac5 (l : List Int) (x : Int) : Nat := U3 (fun r => !QT r) l (DW l.length x) - 1
end
section
variable {w0 w : World} {F : HP} {p : Nat} {L : List Int} {pt mk : Int} {v : Value} {l : List Int}
end
end Go.Proofs.YtimndnfpcomhlaaGreatDoor
end
section
namespace Go.Proofs.YtimndnfpcomhlaaGreatDoor
open Go.RowKit
open _root_.Go.Proofs.Tryz
theorem Nl (w : World) (v1 v2 : Value) (l1 l2 : List Int) (h1 : mM w .i32 v1 l1) (h2 : mM w .i32 v2 l2) :
  iU prog 41 #[v1, v2] w fun v w' => v = .bool (l1 == l2) ∧ uy w w' := by
 obtain ⟨a1, c1, rfl, hc1, hm1, hr1⟩ := h1.open
 obtain ⟨a2, c2, rfl, hc2, hm2, hr2⟩ := h2.open
 clear h1 h2
 refine oP func41 ntmps41 ?_
 refine lZ O (aO (bM O (aV (jy aG O) (cZ O (aV (jy aG O) (aV (dO O O) (kK O (fun h1 => ?_) (fun h1 => ?_))))))))
 ·(try simp only [aH] at h1)
  refine lF O (aK (fB results41 O ?_))
  exact ⟨by rw [show (l1 == l2) = false from beq_eq_false_iff_ne.2 (by rintro rfl; exact h1 rfl)], uy.refl _⟩
 ·(try simp only [aH] at h1)
  refine iq (aO (lZ O (bn ?_)))
  refine iR [(0, _), (1, _)] (fun (k : Nat) => [(5, .int .i64 (k : Int))]) (fun (k : Nat) W => k ≤ l1.length ∧ l1.length = l2.length ∧ l1.take k = l2.take k ∧ uy w W) (fun (k : Nat) => l1.length - k) (0) vT sJ ⟨by omega, by omega, by simp, uy.refl _⟩ ?_
  rintro k w1 ⟨hk, hl, ht, hD⟩
  dsimp only [List.cons_append, List.nil_append]
  refine aO (bM O (cZ O (aV (jy aG O) (aV (fJ O O) (kK O (fun h2 => ?_) (fun h2 => ?_))))))
  ·(try simp only [aH] at h2)
   refine iq (aO (bn (aO ?_)))
   obtain ⟨b1, o1, rfl, hq1⟩ := hr1 (by omega)
   obtain ⟨b2, o2, rfl, hq2⟩ := hr2 (by omega)
   have hc1 := hq1 k (by omega)
   have hc2 := hq2 k (by omega)
   refine oC (n := 9) [0, 1, 2, 3, 4, 5, 6, 7, 8] (fun W => W.heap = w1.heap) (by kernel_rfl) (by kernel_rfl) O ?_
   have hS0 : (fun W => W.heap = w1.heap) (w1.drew) := rfl
   refine jc 0 O hS0 O (jc 1 O hS0 O (jW 2 O hS0 (fun _ => gU aG jr O O (by omega)) ?_))
   refine jq 3 O hS0 (fun W hW => jM (fK fH O) O (by rw [yw (hW.trans hD.heap)]; simpa using hc1)) ?_
   refine jc 4 O hS0 O (jc 5 O hS0 O (jW 6 O hS0 (fun _ => gU aG jr O O (by omega)) ?_))
   refine jq 7 O hS0 (fun W hW => jM (fK fH O) O (by rw [yw (hW.trans hD.heap)]; simpa using hc2)) ?_
   refine jW 8 O hS0 (fun _ => dO O O) (qp (bg (bI O (fun h3 => ?_) (fun h3 => ?_))))
   ·(try simp only [aH] at h3)
    refine lF O (bD (aK (aK (bD (aK (fB results41 O ?_))))))
    exact ⟨by rw [show (l1 == l2) = false from beq_eq_false_iff_ne.2 (by rintro rfl; exact h3 rfl)], hD.drew⟩
   ·(try simp only [aH] at h3)
    refine fU (aN (bg (aC (cZ O (aV (gX O O (by omega)) (lU O (bY ?_)))))))
    refine fG (k + 1) ?_ ?_ ?_ ?_
    ·exact sJ
    ·exact vT
    ·(try dsimp only)
     first | done | exact ⟨by omega, by omega, DV (by omega) (by omega) ht (by simpa using h3), hD.drew⟩
    ·(try dsimp only); omega
  ·(try simp only [aH] at h2)
   refine iJ (aX (aX (dA (bg (lF O (fB results41 O ?_))))))
   exact ⟨by rw [show (l1 == l2) = true from beq_iff_eq.2 (by rw [List.take_of_length_le (by omega), List.take_of_length_le (by omega)] at ht; exact ht)], hD⟩
theorem Np (w : World) (v1 v2 : Value) (l : List Int) (h1 : mM w .i32 v1 l) (h2 : mM w .i32 v2 l) :
    iU prog 41 #[v1, v2] w fun v w' => v = .bool true ∧ uy w w' := by
  have := Nl w v1 v2 l l h1 h2
  simpa using this
end Go.Proofs.YtimndnfpcomhlaaGreatDoor
end
section
namespace Go.Proofs.YtimndnfpcomhlaaGreatDoor
open Go.RowKit
section
variable {w0 w : World} {F : HP} {p : Nat} {L : List Int} {pt mk a : Int} {d i : Value} {dl il : List Int}
end
end Go.Proofs.YtimndnfpcomhlaaGreatDoor
end
