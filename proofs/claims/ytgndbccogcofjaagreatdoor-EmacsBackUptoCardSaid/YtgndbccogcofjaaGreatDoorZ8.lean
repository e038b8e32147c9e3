import Derived.Test.YtgndbccogcofjaaGreatDoorZ2
import Derived.Test.YtgndbccogcofjaaGreatDoorZ7
set_option linter.unusedSimpArgs false
set_option linter.unusedVariables false
/- Texts of mine, joined, their names in short: Buf2 Buf3. -/
section
namespace Go.Proofs.YtgndbccogcofjaaGreatDoor
open Go.RowKit
open _root_.Go.Proofs.Tryz
def fD (L : List Int) (i r : Nat) : List Int := dP (dP (List.replicate (L.length + r + 16) 0) 0 (L.take i)) (i + r + 16) (L.drop i)
theorem La {L : List Int} {i r : Nat} (h : i ≤ L.length) : (fD L i r).length = L.length + r + 16 := by
  unfold fD
  rw [bP, bP] <;> simp [bP] <;> first | omega | (rw [bP] <;> simp <;> omega)
theorem Bl {l ys : List Int} {i : Nat} (h : i + ys.length ≤ l.length) : (dP l i ys).take (i + ys.length) = l.take i ++ ys := by
  unfold dP
  rw [List.take_append_of_le_length (by simp; omega), List.take_of_length_le (by simp; omega)]
theorem Js {l ys : List Int} {i j : Nat} (h : i + ys.length ≤ j) (h2 : j ≤ l.length) : (dP l i ys).drop j = l.drop j := by
  unfold dP
  rw [List.drop_append, List.drop_eq_nil_of_le (by simp; omega), List.nil_append, List.drop_drop]
  congr 1
  simp
  omega
theorem Dt {l ys : List Int} {i j : Nat} (h : j ≤ i) (h2 : i ≤ l.length) : (dP l i ys).take j = l.take j := by
  unfold dP
  rw [List.append_assoc, List.take_append_of_le_length (by simp; omega), List.take_take, Nat.min_eq_left h]
theorem Du {l ys : List Int} {i : Nat} (h : i + ys.length = l.length) : (dP l i ys).drop i = ys := by
  unfold dP
  rw [List.append_assoc, List.drop_append, List.drop_eq_nil_of_le (by simp; omega), List.nil_append]
  simp [show i - min i l.length = 0 from by omega, show l.length ≤ i + ys.length from by omega]
theorem Jt {L : List Int} {i r : Nat} (h : i ≤ L.length) : (fD L i r).take i = L.take i := by
  have h1 : (dP (List.replicate (L.length + r + 16) (0 : Int)) 0 (L.take i)).length = L.length + r + 16 := by rw [bP] <;> simp; omega
  unfold fD
  rw [Dt (by omega) (by rw [h1]; omega)]
  have := Bl (l := List.replicate (L.length + r + 16) (0 : Int)) (ys := L.take i) (i := 0) (by simp; omega)
  rw [show 0 + (L.take i).length = i from by simp; omega] at this
  simpa using this
theorem Ju {L : List Int} {i r : Nat} (h : i ≤ L.length) : (fD L i r).drop (i + r + 16) = L.drop i := by
  have h1 : (dP (List.replicate (L.length + r + 16) (0 : Int)) 0 (L.take i)).length = L.length + r + 16 := by rw [bP] <;> simp; omega
  exact Du (by rw [h1]; simp; omega)
section
variable {w0 w : World} {F : HP} {p : Nat} {L : List Int} {pt mk : Int}
theorem Hu {i r : Nat} (H : aB w0 w (dW p L pt mk • F)) (hi : i ≤ L.length) (hr : r ≤ 1024) :
  fG prog 229 #[.pointer (some ⟨p, 0, none⟩), .int .i64 i, .int .i64 r] w fun _ w' => ∃ v, aB w0 w' (dH p (.cells (eu v i (i + r + 16 : Nat) pt mk) 184 (0, 0)) • gW 21 .i32 v (fD L i r) • F) := by
 have hL4 : L.length ≤ 1024 := by obtain ⟨a, c, xs, f, t, h1, h2, h3, h4, h5, h6, h7, hc1, hc2, hl, H1⟩ := H.buf; exact h4
 have e1 : ((L.length : Int) + r + 16).toNat = L.length + r + 16 := by omega
 refine gG func229 ntmps229 ?_
 dsimp only [bf, Nat.reduceAdd]
 refine ay (ah (aN rfl (bW rfl func112 (qZ H) ?_)))
 rintro u w1 H1
 obtain ⟨au, cu, hu, Nl, abS, _⟩ := (H1.aS).form
 subst hu
 obtain ⟨a, c, xs, f, t, h1, h2, h3, h4, h5, h6, h7, hc1, hc2, hl, HB⟩ := H1.swap.buf
 refine aV rfl (aA (aj (ay (ah (aN rfl (aN rfl (aU (fO underlying22 rfl) (aN rfl (aU (fC rfl rfl (by omega)) (aU (fC rfl rfl (by omega)) (iy (Jb HB underlying22 zx rfl rfl (by omega) (by omega) (by omega)) ?_)))))))))))
 rintro v w2 H2
 rw [e1] at H2
 have hm : (List.replicate (L.length + r + 16) (0 : Int)).length = L.length + r + 16 := by simp
 obtain ⟨av, cv, hv, hcv, hcv2, _⟩ := (H2.aS).form
 rw [hm] at hv hcv
 subst hv
 refine bM rfl (bG 1 underlying184 rfl sizeOf22 rfl (aJ (dJ H2.swap sizeOf22 rfl rfl rfl (by rw [je]; decide)) ?_))
 rintro _ w3 H3
 rw [Oz] at H3
 refine aA (aj (ay (ah (aN rfl (aN rfl (bM rfl (bG 2 underlying184 rfl sizeOf3 rfl (aJ (dJ H3 sizeOf3 rfl rfl rfl (by rw [je]; decide)) ?_))))))))
 rintro _ w4 H4
 rw [vM] at H4
 refine aA (aj (ay (ah (aN rfl (aN rfl (bM rfl (bG 1 underlying184 rfl sizeOf22 rfl (dX underlying22 rfl H4.get.2 rfl (aU (fO underlying22 rfl) (aN rfl (aU (fO underlying22 rfl) (aN rfl (aU (iP rfl rfl (by omega)) (aU (iP rfl rfl (by omega)) (bM rfl (bG 3 underlying184 rfl sizeOf3 rfl (aJ (dJ H4 sizeOf3 rfl rfl rfl (by rw [je]; decide)) ?_)))))))))))))))))
 rintro _ w5 H5
 rw [yN, show (((L.length + r + 16 : Nat) : Int) - ((L.length : Int) - (i : Int))) = ((i + r + 16 : Nat) : Int) from by omega] at H5
 have hb3 := H5.get.2
 refine aA (aj (ay ?_))
 refine kM (n := 8) [0, 1, 2, 3, 4, 5, 6, 7] (fun W => W.heap[p]? = some (.cells (eu (.slice av (L.length + r + 16) cv) i (i + r + 16 : Nat) pt mk) 184 (0, 0))) (by kernel_rfl) (by kernel_rfl) rfl ?_
 have hS0 : (fun W => W.heap[p]? = some (.cells (eu (.slice av (L.length + r + 16) cv) i (i + r + 16 : Nat) pt mk) 184 (0, 0))) (w5.drew) := hb3
 have H4d := H5.drew
 refine iD 0 rfl hS0 rfl (jS 1 rfl hS0 rfl (gV 2 rfl hS0 1 underlying184 rfl sizeOf22 rfl (jB 3 rfl hS0 (fun W hW => jR underlying22 rfl hW rfl) (iD 4 rfl hS0 rfl (iD 5 rfl hS0 rfl (jr 6 rfl hS0 (fun _ => qg underlying22 sizeOf21 rfl rfl rfl (by omega)) (kQ 7 rfl (wM (i := 0) (m := L.take i) H4d.swap (iw.upto H4d.r4.aS (by omega)) underlying22 (by kernel_rfl) (by rw [hm, KT]; rfl) rfl (by simp; omega)) ?_)))))))
 rintro _ w6 ⟨rfl, H6⟩
 have hm2 : (dP (List.replicate (L.length + r + 16) (0 : Int)) 0 (L.take i)).length = L.length + r + 16 := by rw [bP] <;> simp; omega
 refine CW (by kernel_rfl) ?_
 refine qQ (aj ?_)
 refine kM (n := 13) [0, 1, 2, 3, 4, 5, 6, 7, 8, 9, 10, 11, 12] (fun W => W.heap[p]? = some (.cells (eu (.slice av (L.length + r + 16) cv) i (i + r + 16 : Nat) pt mk) 184 (0, 0))) (by kernel_rfl) (by kernel_rfl) rfl ?_
 have hS0 : (fun W => W.heap[p]? = some (.cells (eu (.slice av (L.length + r + 16) cv) i (i + r + 16 : Nat) pt mk) 184 (0, 0))) (w6.drew) := H6.swap.get.2
 have Y9 := H6.drew
 refine iD 0 rfl hS0 rfl (jS 1 rfl hS0 rfl (gV 2 rfl hS0 1 underlying184 rfl sizeOf22 rfl (jB 3 rfl hS0 (fun W hW => jR underlying22 rfl hW rfl) (iD 4 rfl hS0 rfl (jS 5 rfl hS0 rfl (gV 6 rfl hS0 3 underlying184 rfl sizeOf3 rfl (jB 7 rfl hS0 (fun W hW => jR underlying3 rfl hW rfl) (jr 8 rfl hS0 (fun _ => qg underlying22 sizeOf21 rfl rfl rfl (by omega)) (iD 9 rfl hS0 rfl (iD 10 rfl hS0 rfl (jr 11 rfl hS0 (fun _ => qg underlying22 sizeOf21 rfl rfl rfl (by omega)) (kQ 12 rfl (wM (i := i + r + 16) (m := L.drop i) Y9 (iw.from Y9.r4.aS (by omega)) underlying22 (by kernel_rfl) (by rw [hm2]; rfl) rfl (by rw [hm2]; simp; omega)) ?_))))))))))))
 rintro _ w7 ⟨rfl, H7⟩
 refine CW (by kernel_rfl) ?_
 refine qQ (gU (.inr rfl) results229 ?_)
 exact ⟨_, H7.swap.EP.right.EP.right⟩
theorem lQ (H : aB w0 w (dW p L pt mk • F)) : fG prog 185 #[.pointer (some ⟨p, 0, none⟩)] w fun v w' => v = .bool false ∧ w = w' := by
  obtain ⟨a, c, xs, f, t, h1, h2, h3, h4, h5, h6, h7, hc1, hc2, hl, H1⟩ := H.buf
  exact nU _ H1.get.2 rfl
def bI (pt i j n : Int) : Int := if j < pt then pt + (n - (j - i)) else if i ≤ pt then i + n else pt
def bJ (mk i j n : Int) : Int := if j < mk then mk + (n - (j - i)) else if i < mk then i else mk
def fQ (at_ : Int) (d i : Value) : Array Value := #[.int .i64 at_, d, i]
theorem kH {at_ : Int} {d i : Value} (hd : d.oneCell' = true) (hi : i.oneCell' = true) : ∀ v ∈ (fQ at_ d i).toList, v.oneCell' = true := by
  intro v hv
  simp [fQ] at hv
  rcases hv with rfl | rfl | rfl <;> first | rfl | assumption
variable {v : Value} {l : List Int} {i j : Int}
theorem BK (H : aB w0 w (dW p L pt mk • F)) (hr : iI w0 F .i32 v l) (hb : i < 0 ∨ L.length < i ∨ j < i ∨ L.length < j) :
  fG prog 193 #[.pointer (some ⟨p, 0, none⟩), .int .i64 i, .int .i64 j, v] w fun v' w' => v' = .tuple #[.agg (fQ 0 (.slice none 0 0) (.slice none 0 0)), .int .i64 70] ∧ aB w0 w' (dW p L pt mk • F) := by
 obtain ⟨a, c, rfl, _, _, _⟩ := (hr w H.right).open
 refine gG func193 ntmps193 ?_
 dsimp only [bf, Nat.reduceAdd]
 refine ay (ah (iy (sQ H zeroValue101) ?_))
 rintro _ w1 ⟨b1, rfl, H1⟩
 refine aV rfl (aA (aj (ay (ah (aN rfl (bW rfl func186 (lg H1.right) ?_))))))
 rintro _ w2 ⟨rfl, hD⟩
 have HL := H1.lW hD
 refine aV rfl (aA (aj (ay (bF (ay (ah (aN rfl (bW rfl func185 (lQ HL.right) ?_))))))))
 rintro _ _ ⟨rfl, rfl⟩
 refine aV rfl (aA (aj (aP rfl (fun h1 => ?_) (fun h1 => ?_))))
 ·(try simp only [aF] at h1)
  try (exfalso; first | contradiction | omega)
  all_goals
   refine ay (ah (aU (fF (pl := #[(0, 1), (1, 1), (2, 1)]) (_) underlying101 zeroValue101 (fun w => by kernel_rfl) rfl (rfl)) (aJ (dJ HL sizeOf101 rfl rfl rfl (by decide)) ?_)))
   rintro _ w4 H4
   refine aV rfl (aA (aj (aI (aY (aK ?_)))))
   refine fH (.inl rfl) results193 rfl rfl underlying101 rfl (by rw [show (prog.info? 101).map (·.size) = some 3 from by kernel_rfl]; rfl) H4.get.2 ?_
   exact ⟨rfl, H4.right⟩
 ·(try simp only [aF] at h1)
  try (exfalso; first | contradiction | omega)
  all_goals
   refine ay (ah (aN rfl (aU (eF rfl rfl) (eP rfl (fun h2 => ?_) (fun h2 => ?_)))))
   ·(try simp only [aF] at h2)
    try (exfalso; first | contradiction | omega)
    all_goals
     refine bD (bD (bD (fP rfl rfl (aN rfl (bD (bD (bD (fP rfl rfl (aN rfl (bD (bD (bD (fP rfl rfl (aV rfl (aA (aj (wK (ay (ah (aU (fF (pl := #[(0, 1), (1, 1), (2, 1)]) (fQ 0 (.slice none 0 0) (.slice none 0 0)) underlying101 zeroValue101 (fun w => by kernel_rfl) rfl (by kernel_rfl)) (aJ (dI (cs := fQ 0 (.slice none 0 0) (.slice none 0 0)) HL sizeOf101 rfl rfl rfl rfl (kH rfl rfl)) ?_)))))))))))))))))))))
     rintro _ w5 H5
     refine aV rfl (aA (aj (aI (aY (aK ?_)))))
     refine fH (.inl rfl) results193 rfl rfl underlying101 rfl (by rw [show (prog.info? 101).map (·.size) = some 3 from by kernel_rfl]; rfl) H5.get.2 ?_
     exact ⟨rfl, H5.right⟩
   ·(try simp only [aF] at h2)
    try (exfalso; first | contradiction | omega)
    all_goals
     refine aX (aN rfl (aX (aN rfl (aX (aU (dF rfl rfl) (dL rfl rfl (eP rfl (fun h3 => ?_) (fun h3 => ?_))))))))
     ·(try simp only [aF] at h3)
      try (exfalso; first | contradiction | omega)
      all_goals
       refine bD (bD (bD (fP rfl rfl (aN rfl (bD (bD (bD (fP rfl rfl (aV rfl (aA (aj (wK (ay (ah (aU (fF (pl := #[(0, 1), (1, 1), (2, 1)]) (fQ 0 (.slice none 0 0) (.slice none 0 0)) underlying101 zeroValue101 (fun w => by kernel_rfl) rfl (by kernel_rfl)) (aJ (dI (cs := fQ 0 (.slice none 0 0) (.slice none 0 0)) HL sizeOf101 rfl rfl rfl rfl (kH rfl rfl)) ?_))))))))))))))))
       rintro _ w6 H6
       refine aV rfl (aA (aj (aI (aY (aK ?_)))))
       refine fH (.inl rfl) results193 rfl rfl underlying101 rfl (by rw [show (prog.info? 101).map (·.size) = some 3 from by kernel_rfl]; rfl) H6.get.2 ?_
       exact ⟨rfl, H6.right⟩
     ·(try simp only [aF] at h3)
      try (exfalso; first | contradiction | omega)
      all_goals
       refine aX (aN rfl (aX (aN rfl (aX (aU (eF rfl rfl) (dL rfl rfl (eP rfl (fun h4 => ?_) (fun h4 => ?_))))))))
       ·(try simp only [aF] at h4)
        try (exfalso; first | contradiction | omega)
        all_goals
         refine bD (bD (bD (fP rfl rfl (aV rfl (aA (aj (wK (ay (ah (aU (fF (pl := #[(0, 1), (1, 1), (2, 1)]) (fQ 0 (.slice none 0 0) (.slice none 0 0)) underlying101 zeroValue101 (fun w => by kernel_rfl) rfl (by kernel_rfl)) (aJ (dI (cs := fQ 0 (.slice none 0 0) (.slice none 0 0)) HL sizeOf101 rfl rfl rfl rfl (kH rfl rfl)) ?_)))))))))))
         rintro _ w7 H7
         refine aV rfl (aA (aj (aI (aY (aK ?_)))))
         refine fH (.inl rfl) results193 rfl rfl underlying101 rfl (by rw [show (prog.info? 101).map (·.size) = some 3 from by kernel_rfl]; rfl) H7.get.2 ?_
         exact ⟨rfl, H7.right⟩
       ·(try simp only [aF] at h4)
        try (exfalso; first | contradiction | omega)
        all_goals
         refine aX (aN rfl (aX (aN rfl (aX (aU (dF rfl rfl) (dL rfl rfl (aV rfl (aA (aj (aP rfl (fun h5 => ?_) (fun h => by exfalso; (try simp only [aF] at h); first | contradiction | omega | (simp at h <;> omega))))))))))))
         (try simp only [aF] at h5)
         refine ay (ah (aU (fF (pl := #[(0, 1), (1, 1), (2, 1)]) (fQ 0 (.slice none 0 0) (.slice none 0 0)) underlying101 zeroValue101 (fun w => by kernel_rfl) rfl (by kernel_rfl)) (aJ (dI (cs := fQ 0 (.slice none 0 0) (.slice none 0 0)) HL sizeOf101 rfl rfl rfl rfl (kH rfl rfl)) ?_)))
         rintro _ w8 H8
         refine aV rfl (aA (aj (aI (aY (aK ?_)))))
         refine fH (.inl rfl) results193 rfl rfl underlying101 rfl (by rw [show (prog.info? 101).map (·.size) = some 3 from by kernel_rfl]; rfl) H8.get.2 ?_
         exact ⟨rfl, H8.right⟩
theorem Af (H : aB w0 w (dW p L pt mk • F)) (hr : iI w0 F .i32 v l) (hb : 0 ≤ i ∧ i ≤ j ∧ j ≤ L.length) (hl : 1024 < L.length - (j - i) + l.length) :
  fG prog 193 #[.pointer (some ⟨p, 0, none⟩), .int .i64 i, .int .i64 j, v] w fun v' w' => v' = .tuple #[.agg (fQ 0 (.slice none 0 0) (.slice none 0 0)), .int .i64 3] ∧ aB w0 w' (dW p L pt mk • F) := by
 obtain ⟨a, c, rfl, _, _, _⟩ := (hr w H.right).open
 have hL4 : L.length ≤ 1024 := by obtain ⟨a, c, xs, f, t, h1, h2, h3, h4, h5, h6, h7, hc1, hc2, hl, H1⟩ := H.buf; exact h4
 refine gG func193 ntmps193 ?_
 dsimp only [bf, Nat.reduceAdd]
 refine ay (ah (iy (sQ H zeroValue101) ?_))
 rintro _ w1 ⟨b1, rfl, H1⟩
 refine aV rfl (aA (aj (ay (ah (aN rfl (bW rfl func186 (lg H1.right) ?_))))))
 rintro _ w2 ⟨rfl, hD⟩
 have HL := H1.lW hD
 refine aV rfl (aA (aj (ay (bF (ay (ah (aN rfl (bW rfl func185 (lQ HL.right) ?_))))))))
 rintro _ _ ⟨rfl, rfl⟩
 refine aV rfl (aA (aj (aP rfl (fun h1 => ?_) (fun h1 => ?_))))
 ·(try simp only [aF] at h1)
  try (exfalso; first | contradiction | omega)
  all_goals
   refine ay (ah (aU (fF (pl := #[(0, 1), (1, 1), (2, 1)]) (_) underlying101 zeroValue101 (fun w => by kernel_rfl) rfl (rfl)) (aJ (dJ HL sizeOf101 rfl rfl rfl (by decide)) ?_)))
   rintro _ w4 H4
   refine aV rfl (aA (aj (aI (aY (aK ?_)))))
   refine fH (.inl rfl) results193 rfl rfl underlying101 rfl (by rw [show (prog.info? 101).map (·.size) = some 3 from by kernel_rfl]; rfl) H4.get.2 ?_
   exact ⟨rfl, H4.right⟩
 ·(try simp only [aF] at h1)
  try (exfalso; first | contradiction | omega)
  all_goals
   refine ay (ah (aN rfl (aU (eF rfl rfl) (eP rfl (fun h2 => ?_) (fun h2 => ?_)))))
   ·(try simp only [aF] at h2)
    try (exfalso; first | contradiction | omega)
    all_goals
     refine bD (bD (bD (fP rfl rfl (aN rfl (bD (bD (bD (fP rfl rfl (aN rfl (bD (bD (bD (fP rfl rfl (aV rfl (aA (aj (wK (ay (ah (aU (fF (pl := #[(0, 1), (1, 1), (2, 1)]) (_) underlying101 zeroValue101 (fun w => by kernel_rfl) rfl (rfl)) (aJ (dJ HL sizeOf101 rfl rfl rfl (by decide)) ?_)))))))))))))))))))))
     rintro _ w5 H5
     refine aV rfl (aA (aj (aI (aY (aK ?_)))))
     refine fH (.inl rfl) results193 rfl rfl underlying101 rfl (by rw [show (prog.info? 101).map (·.size) = some 3 from by kernel_rfl]; rfl) H5.get.2 ?_
     exact ⟨rfl, H5.right⟩
   ·(try simp only [aF] at h2)
    try (exfalso; first | contradiction | omega)
    all_goals
     refine aX (aN rfl (aX (aN rfl (aX (aU (dF rfl rfl) (dL rfl rfl (eP rfl (fun h3 => ?_) (fun h3 => ?_))))))))
     ·(try simp only [aF] at h3)
      try (exfalso; first | contradiction | omega)
      all_goals
       refine bD (bD (bD (fP rfl rfl (aN rfl (bD (bD (bD (fP rfl rfl (aV rfl (aA (aj (wK (ay (ah (aU (fF (pl := #[(0, 1), (1, 1), (2, 1)]) (_) underlying101 zeroValue101 (fun w => by kernel_rfl) rfl (rfl)) (aJ (dJ HL sizeOf101 rfl rfl rfl (by decide)) ?_))))))))))))))))
       rintro _ w6 H6
       refine aV rfl (aA (aj (aI (aY (aK ?_)))))
       refine fH (.inl rfl) results193 rfl rfl underlying101 rfl (by rw [show (prog.info? 101).map (·.size) = some 3 from by kernel_rfl]; rfl) H6.get.2 ?_
       exact ⟨rfl, H6.right⟩
     ·(try simp only [aF] at h3)
      try (exfalso; first | contradiction | omega)
      all_goals
       refine aX (aN rfl (aX (aN rfl (aX (aU (eF rfl rfl) (dL rfl rfl (eP rfl (fun h4 => ?_) (fun h4 => ?_))))))))
       ·(try simp only [aF] at h4)
        try (exfalso; first | contradiction | omega)
        all_goals
         refine bD (bD (bD (fP rfl rfl (aV rfl (aA (aj (wK (ay (ah (aU (fF (pl := #[(0, 1), (1, 1), (2, 1)]) (_) underlying101 zeroValue101 (fun w => by kernel_rfl) rfl (rfl)) (aJ (dJ HL sizeOf101 rfl rfl rfl (by decide)) ?_)))))))))))
         rintro _ w7 H7
         refine aV rfl (aA (aj (aI (aY (aK ?_)))))
         refine fH (.inl rfl) results193 rfl rfl underlying101 rfl (by rw [show (prog.info? 101).map (·.size) = some 3 from by kernel_rfl]; rfl) H7.get.2 ?_
         exact ⟨rfl, H7.right⟩
       ·(try simp only [aF] at h4)
        try (exfalso; first | contradiction | omega)
        all_goals
         refine aX (aN rfl (aX (aN rfl (aX (aU (dF rfl rfl) (dL rfl rfl (aV rfl (aA (aj (aP rfl (fun h => by exfalso; (try simp only [aF] at h); first | contradiction | omega | (simp at h <;> omega)) (fun h5 => ?_)))))))))))
         (try simp only [aF] at h5)
         refine ay (ah (aN rfl (aU (fO underlying22 rfl) (aN rfl (aN rfl (aN rfl (aU (iP rfl rfl (by omega)) (aU (iP rfl rfl (by omega)) (aU (iP rfl rfl (by omega)) (aU (dF rfl rfl) (aV rfl (aA (aj (aP rfl (fun h6 => ?_) (fun h => by exfalso; (try simp only [aF] at h); first | contradiction | omega | (simp at h <;> omega))))))))))))))))
         (try simp only [aF] at h6)
         refine ay (ah (aU (fF (pl := #[(0, 1), (1, 1), (2, 1)]) (fQ 0 (.slice none 0 0) (.slice none 0 0)) underlying101 zeroValue101 (fun w => by kernel_rfl) rfl (by kernel_rfl)) (aJ (dI (cs := fQ 0 (.slice none 0 0) (.slice none 0 0)) HL sizeOf101 rfl rfl rfl rfl (kH rfl rfl)) ?_)))
         rintro _ w8 H8
         refine aV rfl (aA (aj (aI (aY (aK ?_)))))
         refine fH (.inl rfl) results193 rfl rfl underlying101 rfl (by rw [show (prog.info? 101).map (·.size) = some 3 from by kernel_rfl]; rfl) H8.get.2 ?_
         exact ⟨rfl, H8.right⟩
end
end Go.Proofs.YtgndbccogcofjaaGreatDoor
end
section
namespace Go.Proofs.YtgndbccogcofjaaGreatDoor
open Go.RowKit
open _root_.Go.Proofs.Tryz
section
variable {w0 w : World} {F : HP} {p : Nat} {L : List Int} {pt mk : Int} {v : Value} {l : List Int} {i j : Int}
theorem Dv {i j : Nat} (H : aB w0 w (dW p L pt mk • F)) (hr : iI w0 F .i32 v l) (hb : i ≤ j ∧ j ≤ L.length) (hl : (L.length : Int) - ((j : Int) - i) + l.length ≤ 1024) :
    fG prog 193 #[.pointer (some ⟨p, 0, none⟩), .int .i64 i, .int .i64 j, v] w fun v' w' => ∃ d s, v' = .tuple #[.agg (fQ i d s), .int .i64 0] ∧
      aB w0 w' (gW 21 .i32 d ((L.drop i).take (j - i)) • gW 21 .i32 s l • dW p (L.take i ++ l ++ L.drop j) (bI pt i j l.length) (bJ mk i j l.length) • F) := by
  obtain ⟨a, c, rfl, hac, Ox, _⟩ := (hr w H.right).open
  obtain ⟨hL4, hpt, hmk⟩ : L.length ≤ 1024 ∧ (0 ≤ pt ∧ pt ≤ L.length) ∧ (-1 ≤ mk ∧ mk ≤ L.length) := by obtain ⟨a, c, xs, f, t, h1, h2, h3, h4, h5, h6, h7, hc1, hc2, hl, H1⟩ := H.buf; exact ⟨h4, h6, h7⟩
  have hg1 := La (L := L) (i := i) (r := l.length) (by omega)
  have hg2 := Jt (L := L) (i := i) (r := l.length) (by omega)
  have hg3 := Ju (L := L) (i := i) (r := l.length) (by omega)
  have hL' : L.take i ++ l ++ L.drop j = (dP (fD L i l.length) i l).take (i + l.length) ++ (dP (fD L i l.length) i l).drop (i + l.length + 16 + (j - i)) := by
    rw [Bl (by omega), Js (by omega) (by omega), hg2]
    congr 1
    rw [← List.drop_drop, hg3, List.drop_drop]
    congr 1; omega
  have hlen' : (L.take i ++ l ++ L.drop j).length = L.length - (j - i) + l.length := by simp; omega
  refine gG func193 ntmps193 ?_
  dsimp only [bf, Nat.reduceAdd]
  refine ay (ah (iy (sQ H zeroValue101) ?_))
  rintro _ w1 ⟨b1, rfl, H1⟩
  refine aV rfl (aA (aj (ay (ah (aN rfl (bW rfl func186 (lg H1.right) ?_))))))
  rintro _ w2 ⟨rfl, hD⟩
  have HL := H1.lW hD
  refine aV rfl (aA (aj (ay (bF (ay (ah (aN rfl (bW rfl func185 (lQ HL.right) ?_))))))))
  rintro _ _ ⟨rfl, rfl⟩
  refine aV rfl (aA (aj (aP rfl (fun h1 => ?_) (fun h1 => ?_))))
  · (try simp only [aF] at h1)
    try (exfalso; first | contradiction | omega)
    all_goals
      refine ay (ah (aU (fF (pl := #[(0, 1), (1, 1), (2, 1)]) (_) underlying101 zeroValue101 (fun w => by kernel_rfl) rfl (rfl)) (aJ (dJ HL sizeOf101 rfl rfl rfl (by decide)) ?_)))
      rintro _ w4 H4
      refine aV rfl (aA (aj (aI (aY (aK ?_)))))
      refine fH (.inl rfl) results193 rfl rfl underlying101 rfl (by rw [show (prog.info? 101).map (·.size) = some 3 from by kernel_rfl]; rfl) H4.get.2 ?_
      refine ⟨_, _, rfl, ?_⟩
      first
        | rw [show bI pt i j l.length = pt + ((l.length : Int) - ((j : Int) - i)) from by unfold bI; rw [if_pos (by omega)]]
        | rw [show bI pt i j l.length = (i : Int) + l.length from by unfold bI; rw [if_neg (by omega), if_pos (by omega)]]
        | rw [show bI pt i j l.length = pt from by unfold bI; rw [if_neg (by omega), if_neg (by omega)]]
      first
        | rw [show bJ mk i j l.length = mk + ((l.length : Int) - ((j : Int) - i)) from by unfold bJ; rw [if_pos (by omega)]]
        | rw [show bJ mk i j l.length = (i : Int) from by unfold bJ; rw [if_neg (by omega), if_pos (by omega)]]
        | rw [show bJ mk i j l.length = mk from by unfold bJ; rw [if_neg (by omega), if_neg (by omega)]]
      refine (aB.kG (f := i + l.length) (t := i + l.length + 16 + (j - i)) (v := .slice ax (fD L i l.length).length cx) (xs := dP (fD L i l.length) i l) (by omega) (by rw [bP (by omega)]; omega) hL' (by omega) (by rw [bP (by omega)]; omega) (by omega) (by omega) ?_).d3.swap
      rw [show ((i + l.length : Nat) : Int) = (i : Int) + l.length from by omega, show ((i + l.length + 16 + (j - i) : Nat) : Int) = ((i + l.length + 16 : Nat) : Int) + ((j : Int) - i) from by omega]
      exact H4.right.right
  · (try simp only [aF] at h1)
    try (exfalso; first | contradiction | omega)
    all_goals
      refine ay (ah (aN rfl (aU (eF rfl rfl) (eP rfl (fun h2 => ?_) (fun h2 => ?_)))))
      · (try simp only [aF] at h2)
        try (exfalso; first | contradiction | omega)
        all_goals
          refine bD (bD (bD (fP rfl rfl (aN rfl (bD (bD (bD (fP rfl rfl (aN rfl (bD (bD (bD (fP rfl rfl (aV rfl (aA (aj (wK (ay (ah (aU (fF (pl := #[(0, 1), (1, 1), (2, 1)]) (_) underlying101 zeroValue101 (fun w => by kernel_rfl) rfl (rfl)) (aJ (dJ HL sizeOf101 rfl rfl rfl (by decide)) ?_)))))))))))))))))))))
          rintro _ w5 H5
          refine aV rfl (aA (aj (aI (aY (aK ?_)))))
          refine fH (.inl rfl) results193 rfl rfl underlying101 rfl (by rw [show (prog.info? 101).map (·.size) = some 3 from by kernel_rfl]; rfl) H5.get.2 ?_
          refine ⟨_, _, rfl, ?_⟩
          first
            | rw [show bI pt i j l.length = pt + ((l.length : Int) - ((j : Int) - i)) from by unfold bI; rw [if_pos (by omega)]]
            | rw [show bI pt i j l.length = (i : Int) + l.length from by unfold bI; rw [if_neg (by omega), if_pos (by omega)]]
            | rw [show bI pt i j l.length = pt from by unfold bI; rw [if_neg (by omega), if_neg (by omega)]]
          first
            | rw [show bJ mk i j l.length = mk + ((l.length : Int) - ((j : Int) - i)) from by unfold bJ; rw [if_pos (by omega)]]
            | rw [show bJ mk i j l.length = (i : Int) from by unfold bJ; rw [if_neg (by omega), if_pos (by omega)]]
            | rw [show bJ mk i j l.length = mk from by unfold bJ; rw [if_neg (by omega), if_neg (by omega)]]
          refine (aB.kG (f := i + l.length) (t := i + l.length + 16 + (j - i)) (v := .slice ax (fD L i l.length).length cx) (xs := dP (fD L i l.length) i l) (by omega) (by rw [bP (by omega)]; omega) hL' (by omega) (by rw [bP (by omega)]; omega) (by omega) (by omega) ?_).d3.swap
          rw [show ((i + l.length : Nat) : Int) = (i : Int) + l.length from by omega, show ((i + l.length + 16 + (j - i) : Nat) : Int) = ((i + l.length + 16 : Nat) : Int) + ((j : Int) - i) from by omega]
          exact H5.right.right
      · (try simp only [aF] at h2)
        try (exfalso; first | contradiction | omega)
        all_goals
          refine aX (aN rfl (aX (aN rfl (aX (aU (dF rfl rfl) (dL rfl rfl (eP rfl (fun h3 => ?_) (fun h3 => ?_))))))))
          · (try simp only [aF] at h3)
            try (exfalso; first | contradiction | omega)
            all_goals
              refine bD (bD (bD (fP rfl rfl (aN rfl (bD (bD (bD (fP rfl rfl (aV rfl (aA (aj (wK (ay (ah (aU (fF (pl := #[(0, 1), (1, 1), (2, 1)]) (_) underlying101 zeroValue101 (fun w => by kernel_rfl) rfl (rfl)) (aJ (dJ HL sizeOf101 rfl rfl rfl (by decide)) ?_))))))))))))))))
              rintro _ w6 H6
              refine aV rfl (aA (aj (aI (aY (aK ?_)))))
              refine fH (.inl rfl) results193 rfl rfl underlying101 rfl (by rw [show (prog.info? 101).map (·.size) = some 3 from by kernel_rfl]; rfl) H6.get.2 ?_
              refine ⟨_, _, rfl, ?_⟩
              first
                | rw [show bI pt i j l.length = pt + ((l.length : Int) - ((j : Int) - i)) from by unfold bI; rw [if_pos (by omega)]]
                | rw [show bI pt i j l.length = (i : Int) + l.length from by unfold bI; rw [if_neg (by omega), if_pos (by omega)]]
                | rw [show bI pt i j l.length = pt from by unfold bI; rw [if_neg (by omega), if_neg (by omega)]]
              first
                | rw [show bJ mk i j l.length = mk + ((l.length : Int) - ((j : Int) - i)) from by unfold bJ; rw [if_pos (by omega)]]
                | rw [show bJ mk i j l.length = (i : Int) from by unfold bJ; rw [if_neg (by omega), if_pos (by omega)]]
                | rw [show bJ mk i j l.length = mk from by unfold bJ; rw [if_neg (by omega), if_neg (by omega)]]
              refine (aB.kG (f := i + l.length) (t := i + l.length + 16 + (j - i)) (v := .slice ax (fD L i l.length).length cx) (xs := dP (fD L i l.length) i l) (by omega) (by rw [bP (by omega)]; omega) hL' (by omega) (by rw [bP (by omega)]; omega) (by omega) (by omega) ?_).d3.swap
              rw [show ((i + l.length : Nat) : Int) = (i : Int) + l.length from by omega, show ((i + l.length + 16 + (j - i) : Nat) : Int) = ((i + l.length + 16 : Nat) : Int) + ((j : Int) - i) from by omega]
              exact H6.right.right
          · (try simp only [aF] at h3)
            try (exfalso; first | contradiction | omega)
            all_goals
              refine aX (aN rfl (aX (aN rfl (aX (aU (eF rfl rfl) (dL rfl rfl (eP rfl (fun h4 => ?_) (fun h4 => ?_))))))))
              · (try simp only [aF] at h4)
                try (exfalso; first | contradiction | omega)
                all_goals
                  refine bD (bD (bD (fP rfl rfl (aV rfl (aA (aj (wK (ay (ah (aU (fF (pl := #[(0, 1), (1, 1), (2, 1)]) (_) underlying101 zeroValue101 (fun w => by kernel_rfl) rfl (rfl)) (aJ (dJ HL sizeOf101 rfl rfl rfl (by decide)) ?_)))))))))))
                  rintro _ w7 H7
                  refine aV rfl (aA (aj (aI (aY (aK ?_)))))
                  refine fH (.inl rfl) results193 rfl rfl underlying101 rfl (by rw [show (prog.info? 101).map (·.size) = some 3 from by kernel_rfl]; rfl) H7.get.2 ?_
                  refine ⟨_, _, rfl, ?_⟩
                  first
                    | rw [show bI pt i j l.length = pt + ((l.length : Int) - ((j : Int) - i)) from by unfold bI; rw [if_pos (by omega)]]
                    | rw [show bI pt i j l.length = (i : Int) + l.length from by unfold bI; rw [if_neg (by omega), if_pos (by omega)]]
                    | rw [show bI pt i j l.length = pt from by unfold bI; rw [if_neg (by omega), if_neg (by omega)]]
                  first
                    | rw [show bJ mk i j l.length = mk + ((l.length : Int) - ((j : Int) - i)) from by unfold bJ; rw [if_pos (by omega)]]
                    | rw [show bJ mk i j l.length = (i : Int) from by unfold bJ; rw [if_neg (by omega), if_pos (by omega)]]
                    | rw [show bJ mk i j l.length = mk from by unfold bJ; rw [if_neg (by omega), if_neg (by omega)]]
                  refine (aB.kG (f := i + l.length) (t := i + l.length + 16 + (j - i)) (v := .slice ax (fD L i l.length).length cx) (xs := dP (fD L i l.length) i l) (by omega) (by rw [bP (by omega)]; omega) hL' (by omega) (by rw [bP (by omega)]; omega) (by omega) (by omega) ?_).d3.swap
                  rw [show ((i + l.length : Nat) : Int) = (i : Int) + l.length from by omega, show ((i + l.length + 16 + (j - i) : Nat) : Int) = ((i + l.length + 16 : Nat) : Int) + ((j : Int) - i) from by omega]
                  exact H7.right.right
              · (try simp only [aF] at h4)
                try (exfalso; first | contradiction | omega)
                all_goals
                  refine aX (aN rfl (aX (aN rfl (aX (aU (dF rfl rfl) (dL rfl rfl (aV rfl (aA (aj (aP rfl (fun h => by exfalso; (try simp only [aF] at h); first | contradiction | omega | (simp at h <;> omega)) (fun h5 => ?_)))))))))))
                  (try simp only [aF] at h5)
                  refine ay (ah (aN rfl (aU (fO underlying22 rfl) (aN rfl (aN rfl (aN rfl (aU (iP rfl rfl (by omega)) (aU (iP rfl rfl (by omega)) (aU (iP rfl rfl (by omega)) (aU (dF rfl rfl) (aV rfl (aA (aj (aP rfl (fun h => by exfalso; (try simp only [aF] at h); first | contradiction | omega | (simp at h <;> omega)) (fun h6 => ?_)))))))))))))))
                  (try simp only [aF] at h6)
                  refine aO (aQ (aj (ay (ah (aN rfl (aN rfl (bW rfl func112 (qZ HL.swap) ?_)))))))
                  rintro u w8 H8
                  obtain ⟨au, cu, hu, _⟩ := (H8.aS).form
                  subst hu
                  refine aN rfl (aN rfl (aU (qg underlying22 sizeOf21 rfl rfl rfl (by omega)) (bW rfl func178 (nG H8 (fun W HW => iw.cut HW.aS (i := i) (j := j) (by omega) (by omega)) (by simp; omega)) ?_)))
                  rintro d w9 H9
                  have HC := H9.swap.right
                  obtain ⟨ad, cd, hd, _⟩ := (HC.aS).form
                  subst hd
                  refine aN rfl (bW rfl func178 (nG HC hr.under.under.under (by omega)) ?_)
                  rintro s w10 oZ
                  obtain ⟨ai, ci, hs, _⟩ := (oZ.aS).form
                  subst hs
                  refine aU (fF (pl := #[(0, 1), (1, 1), (2, 1)]) (fQ i (.slice ad ((L.drop i).take (j - i)).length cd) (.slice ai l.length ci)) underlying101 zeroValue101 (fun w => by kernel_rfl) rfl (by kernel_rfl)) (iy (sQ oZ zeroValue101) ?_)
                  rintro _ KG ⟨b11, rfl, yt⟩
                  refine aJ (dI (cs := fQ i (.slice ad ((L.drop i).take (j - i)).length cd) (.slice ai l.length ci)) yt sizeOf101 rfl rfl rfl rfl (kH rfl rfl)) ?_
                  rintro _ w12 xR
                  refine aA (aj (ay (ah (aN rfl (aN rfl (aN rfl (aU (fO underlying22 rfl) (bW rfl func229 (Hu xR.r4 (by omega) (by omega)) ?_))))))))
                  rintro _ Po ⟨x, xE⟩
                  obtain ⟨ax, cx, hx, _⟩ := (xE.swap.aS).form
                  subst hx
                  refine aA (aj (ay (ah (aN rfl (bM rfl (bG 3 underlying184 rfl sizeOf3 rfl (dX underlying3 rfl xE.get.2 rfl (aN rfl (aN rfl (aU (iP rfl rfl (by omega)) (aU (fC rfl rfl (by omega)) (bM rfl (bG 3 underlying184 rfl sizeOf3 rfl (aJ (dJ xE sizeOf3 rfl rfl rfl (by rw [je]; decide)) ?_))))))))))))))
                  rintro _ MX yK
                  rw [yN] at yK
                  have ZC := yK.get.2
                  refine aA (aj (ay ?_))
                  refine kM (n := 11) [0, 1, 2, 3, 4, 5, 6, 7, 8, 9, 10] (fun W => W.heap[p]? = some (.cells (eu (.slice ax (fD L i l.length).length cx) i ((i + l.length + 16 : Nat) + ((j : Int) - i)) pt mk) 184 (0, 0))) (by kernel_rfl) (by kernel_rfl) rfl ?_
                  have hS0 : (fun W => W.heap[p]? = some (.cells (eu (.slice ax (fD L i l.length).length cx) i ((i + l.length + 16 : Nat) + ((j : Int) - i)) pt mk) 184 (0, 0))) (MX.drew) := ZC
                  have Qg := yK.drew
                  refine iD 0 rfl hS0 rfl (jS 1 rfl hS0 rfl (gV 2 rfl hS0 1 underlying184 rfl sizeOf22 rfl (jB 3 rfl hS0 (fun W hW => jR underlying22 rfl hW rfl) (iD 4 rfl hS0 rfl (jS 5 rfl hS0 rfl (gV 6 rfl hS0 2 underlying184 rfl sizeOf3 rfl (jB 7 rfl hS0 (fun W hW => jR underlying3 rfl hW rfl) (jr 8 rfl hS0 (fun _ => qg underlying22 sizeOf21 rfl rfl rfl (by omega)) (iD 9 rfl hS0 rfl (kQ 10 rfl (wM (i := i) (m := l) Qg.swap (hr _ Qg.right.right.right.right.right.right) underlying22 (by kernel_rfl) rfl rfl (by omega)) ?_))))))))))
                  rintro _ Pq ⟨rfl, yu⟩
                  have HS := yu.swap
                  refine CW (by kernel_rfl) ?_
                  refine qQ (aj (ay (ah (aN rfl (bM rfl (bG 2 underlying184 rfl sizeOf3 rfl (dX underlying3 rfl HS.get.2 rfl (aN rfl (aU (fO underlying22 rfl) (aU (fC rfl rfl (by omega)) (bM rfl (bG 2 underlying184 rfl sizeOf3 rfl (aJ (dJ HS sizeOf3 rfl rfl rfl (by rw [je]; decide)) ?_)))))))))))))
                  rintro _ w16 tX
                  rw [vM] at tX
                  refine aA (aj (ay (bF (ay (ah (aN rfl (bM rfl (bG 4 underlying184 rfl sizeOf3 rfl (dX underlying3 rfl tX.get.2 rfl (aN rfl (aU (dF rfl rfl) (aV rfl (aA (aj (aP rfl (fun h7 => ?_) (fun h7 => ?_))))))))))))))))
                  · (try simp only [aF] at h7)
                    try (exfalso; first | contradiction | omega)
                    all_goals
                      refine ah (aN rfl (bM rfl (bG 4 underlying184 rfl sizeOf3 rfl (dX underlying3 rfl tX.get.2 rfl (aN rfl (aU (fO underlying22 rfl) (aN rfl (aN rfl (aU (iP rfl rfl (by omega)) (aU (iP rfl rfl (by omega)) (aU (fC rfl rfl (by omega)) (bM rfl (bG 4 underlying184 rfl sizeOf3 rfl (aJ (dJ tX sizeOf3 rfl rfl rfl (by rw [je]; decide)) ?_))))))))))))))
                      rintro _ VF Hg
                      rw [tY] at Hg
                      refine aA (aQ (aj (ay (bF (ay (ah (aN rfl (bM rfl (bG 5 underlying184 rfl sizeOf3 rfl (dX underlying3 rfl Hg.get.2 rfl (aN rfl (aU (dF rfl rfl) (aV rfl (aA (aj (aP rfl (fun h8 => ?_) (fun h8 => ?_)))))))))))))))))
                      · (try simp only [aF] at h8)
                        try (exfalso; first | contradiction | omega)
                        all_goals
                          refine ah (aN rfl (bM rfl (bG 5 underlying184 rfl sizeOf3 rfl (dX underlying3 rfl Hg.get.2 rfl (aN rfl (aU (fO underlying22 rfl) (aN rfl (aN rfl (aU (iP rfl rfl (by omega)) (aU (iP rfl rfl (by omega)) (aU (fC rfl rfl (by omega)) (bM rfl (bG 5 underlying184 rfl sizeOf3 rfl (aJ (dJ Hg sizeOf3 rfl rfl rfl (by rw [je]; decide)) ?_))))))))))))))
                          rintro _ SL ER
                          rw [lN] at ER
                          refine aA (aQ (aj (ay ?_)))
                          have qF := ER.EP
                          refine ah (aU (dn underlying101 rfl sizeOf101 rfl rfl qF.get.2) (aJ (dI (cs := fQ i (.slice ad ((L.drop i).take (j - i)).length cd) (.slice ai l.length ci)) qF.r6 sizeOf101 rfl rfl rfl rfl (kH rfl rfl)) ?_))
                          rintro _ Tc BJ
                          refine aV rfl (aA (aj (aI ?_)))
                          refine fH (.inl rfl) results193 rfl rfl underlying101 rfl (by rw [show (prog.info? 101).map (·.size) = some 3 from by kernel_rfl]; rfl) BJ.get.2 ?_
                          refine ⟨_, _, rfl, ?_⟩
                          first
                            | rw [show bI pt i j l.length = pt + ((l.length : Int) - ((j : Int) - i)) from by unfold bI; rw [if_pos (by omega)]]
                            | rw [show bI pt i j l.length = (i : Int) + l.length from by unfold bI; rw [if_neg (by omega), if_pos (by omega)]]
                            | rw [show bI pt i j l.length = pt from by unfold bI; rw [if_neg (by omega), if_neg (by omega)]]
                          first
                            | rw [show bJ mk i j l.length = mk + ((l.length : Int) - ((j : Int) - i)) from by unfold bJ; rw [if_pos (by omega)]]
                            | rw [show bJ mk i j l.length = (i : Int) from by unfold bJ; rw [if_neg (by omega), if_pos (by omega)]]
                            | rw [show bJ mk i j l.length = mk from by unfold bJ; rw [if_neg (by omega), if_neg (by omega)]]
                          refine (aB.kG (f := i + l.length) (t := i + l.length + 16 + (j - i)) (v := .slice ax (fD L i l.length).length cx) (xs := dP (fD L i l.length) i l) (by omega) (by rw [bP (by omega)]; omega) hL' (by omega) (by rw [bP (by omega)]; omega) (by omega) (by omega) ?_).d3.swap
                          rw [show ((i + l.length : Nat) : Int) = (i : Int) + l.length from by omega, show ((i + l.length + 16 + (j - i) : Nat) : Int) = ((i + l.length + 16 : Nat) : Int) + ((j : Int) - i) from by omega]
                          exact BJ.right.right
                      · (try simp only [aF] at h8)
                        try (exfalso; first | contradiction | omega)
                        all_goals
                          refine ay (ah (aN rfl (bM rfl (bG 5 underlying184 rfl sizeOf3 rfl (dX underlying3 rfl Hg.get.2 rfl (aN rfl (aU (dF rfl rfl) (aV rfl (aA (aj (aP rfl (fun h9 => ?_) (fun h9 => ?_))))))))))))
                          · (try simp only [aF] at h9)
                            try (exfalso; first | contradiction | omega)
                            all_goals
                              refine ah (aN rfl (aN rfl (bM rfl (bG 5 underlying184 rfl sizeOf3 rfl (aJ (dJ Hg sizeOf3 rfl rfl rfl (by rw [je]; decide)) ?_)))))
                              rintro _ SN yh
                              rw [lN] at yh
                              refine aA (aQ (aj (ay ?_)))
                              have qF := yh.EP
                              refine ah (aU (dn underlying101 rfl sizeOf101 rfl rfl qF.get.2) (aJ (dI (cs := fQ i (.slice ad ((L.drop i).take (j - i)).length cd) (.slice ai l.length ci)) qF.r6 sizeOf101 rfl rfl rfl rfl (kH rfl rfl)) ?_))
                              rintro _ UG qF
                              refine aV rfl (aA (aj (aI ?_)))
                              refine fH (.inl rfl) results193 rfl rfl underlying101 rfl (by rw [show (prog.info? 101).map (·.size) = some 3 from by kernel_rfl]; rfl) qF.get.2 ?_
                              refine ⟨_, _, rfl, ?_⟩
                              first
                                | rw [show bI pt i j l.length = pt + ((l.length : Int) - ((j : Int) - i)) from by unfold bI; rw [if_pos (by omega)]]
                                | rw [show bI pt i j l.length = (i : Int) + l.length from by unfold bI; rw [if_neg (by omega), if_pos (by omega)]]
                                | rw [show bI pt i j l.length = pt from by unfold bI; rw [if_neg (by omega), if_neg (by omega)]]
                              first
                                | rw [show bJ mk i j l.length = mk + ((l.length : Int) - ((j : Int) - i)) from by unfold bJ; rw [if_pos (by omega)]]
                                | rw [show bJ mk i j l.length = (i : Int) from by unfold bJ; rw [if_neg (by omega), if_pos (by omega)]]
                                | rw [show bJ mk i j l.length = mk from by unfold bJ; rw [if_neg (by omega), if_neg (by omega)]]
                              refine (aB.kG (f := i + l.length) (t := i + l.length + 16 + (j - i)) (v := .slice ax (fD L i l.length).length cx) (xs := dP (fD L i l.length) i l) (by omega) (by rw [bP (by omega)]; omega) hL' (by omega) (by rw [bP (by omega)]; omega) (by omega) (by omega) ?_).d3.swap
                              rw [show ((i + l.length : Nat) : Int) = (i : Int) + l.length from by omega, show ((i + l.length + 16 + (j - i) : Nat) : Int) = ((i + l.length + 16 : Nat) : Int) + ((j : Int) - i) from by omega]
                              exact qF.right.right
                          · (try simp only [aF] at h9)
                            try (exfalso; first | contradiction | omega)
                            all_goals
                              refine aO (aQ (aj (ay ?_)))
                              have qF := Hg.EP
                              refine ah (aU (dn underlying101 rfl sizeOf101 rfl rfl qF.get.2) (aJ (dI (cs := fQ i (.slice ad ((L.drop i).take (j - i)).length cd) (.slice ai l.length ci)) qF.r6 sizeOf101 rfl rfl rfl rfl (kH rfl rfl)) ?_))
                              rintro _ XD G6
                              refine aV rfl (aA (aj (aI ?_)))
                              refine fH (.inl rfl) results193 rfl rfl underlying101 rfl (by rw [show (prog.info? 101).map (·.size) = some 3 from by kernel_rfl]; rfl) G6.get.2 ?_
                              refine ⟨_, _, rfl, ?_⟩
                              first
                                | rw [show bI pt i j l.length = pt + ((l.length : Int) - ((j : Int) - i)) from by unfold bI; rw [if_pos (by omega)]]
                                | rw [show bI pt i j l.length = (i : Int) + l.length from by unfold bI; rw [if_neg (by omega), if_pos (by omega)]]
                                | rw [show bI pt i j l.length = pt from by unfold bI; rw [if_neg (by omega), if_neg (by omega)]]
                              first
                                | rw [show bJ mk i j l.length = mk + ((l.length : Int) - ((j : Int) - i)) from by unfold bJ; rw [if_pos (by omega)]]
                                | rw [show bJ mk i j l.length = (i : Int) from by unfold bJ; rw [if_neg (by omega), if_pos (by omega)]]
                                | rw [show bJ mk i j l.length = mk from by unfold bJ; rw [if_neg (by omega), if_neg (by omega)]]
                              refine (aB.kG (f := i + l.length) (t := i + l.length + 16 + (j - i)) (v := .slice ax (fD L i l.length).length cx) (xs := dP (fD L i l.length) i l) (by omega) (by rw [bP (by omega)]; omega) hL' (by omega) (by rw [bP (by omega)]; omega) (by omega) (by omega) ?_).d3.swap
                              rw [show ((i + l.length : Nat) : Int) = (i : Int) + l.length from by omega, show ((i + l.length + 16 + (j - i) : Nat) : Int) = ((i + l.length + 16 : Nat) : Int) + ((j : Int) - i) from by omega]
                              exact G6.right.right
                  · (try simp only [aF] at h7)
                    try (exfalso; first | contradiction | omega)
                    all_goals
                      refine ay (ah (aN rfl (bM rfl (bG 4 underlying184 rfl sizeOf3 rfl (dX underlying3 rfl tX.get.2 rfl (aN rfl (aU (jh rfl rfl) (aV rfl (aA (aj (aP rfl (fun h10 => ?_) (fun h10 => ?_))))))))))))
                      · (try simp only [aF] at h10)
                        try (exfalso; first | contradiction | omega)
                        all_goals
                          refine ah (aN rfl (aN rfl (aN rfl (aU (fO underlying22 rfl) (aU (fC rfl rfl (by omega)) (bM rfl (bG 4 underlying184 rfl sizeOf3 rfl (aJ (dJ tX sizeOf3 rfl rfl rfl (by rw [je]; decide)) ?_))))))))
                          rintro _ Td y5
                          rw [tY] at y5
                          refine aA (aQ (aj (ay (bF (ay (ah (aN rfl (bM rfl (bG 5 underlying184 rfl sizeOf3 rfl (dX underlying3 rfl y5.get.2 rfl (aN rfl (aU (dF rfl rfl) (aV rfl (aA (aj (aP rfl (fun h11 => ?_) (fun h11 => ?_)))))))))))))))))
                          · (try simp only [aF] at h11)
                            try (exfalso; first | contradiction | omega)
                            all_goals
                              refine ah (aN rfl (bM rfl (bG 5 underlying184 rfl sizeOf3 rfl (dX underlying3 rfl y5.get.2 rfl (aN rfl (aU (fO underlying22 rfl) (aN rfl (aN rfl (aU (iP rfl rfl (by omega)) (aU (iP rfl rfl (by omega)) (aU (fC rfl rfl (by omega)) (bM rfl (bG 5 underlying184 rfl sizeOf3 rfl (aJ (dJ y5 sizeOf3 rfl rfl rfl (by rw [je]; decide)) ?_))))))))))))))
                              rintro _ XE Jd
                              rw [lN] at Jd
                              refine aA (aQ (aj (ay ?_)))
                              have qF := Jd.EP
                              refine ah (aU (dn underlying101 rfl sizeOf101 rfl rfl qF.get.2) (aJ (dI (cs := fQ i (.slice ad ((L.drop i).take (j - i)).length cd) (.slice ai l.length ci)) qF.r6 sizeOf101 rfl rfl rfl rfl (kH rfl rfl)) ?_))
                              rintro _ XT Nh
                              refine aV rfl (aA (aj (aI ?_)))
                              refine fH (.inl rfl) results193 rfl rfl underlying101 rfl (by rw [show (prog.info? 101).map (·.size) = some 3 from by kernel_rfl]; rfl) Nh.get.2 ?_
                              refine ⟨_, _, rfl, ?_⟩
                              first
                                | rw [show bI pt i j l.length = pt + ((l.length : Int) - ((j : Int) - i)) from by unfold bI; rw [if_pos (by omega)]]
                                | rw [show bI pt i j l.length = (i : Int) + l.length from by unfold bI; rw [if_neg (by omega), if_pos (by omega)]]
                                | rw [show bI pt i j l.length = pt from by unfold bI; rw [if_neg (by omega), if_neg (by omega)]]
                              first
                                | rw [show bJ mk i j l.length = mk + ((l.length : Int) - ((j : Int) - i)) from by unfold bJ; rw [if_pos (by omega)]]
                                | rw [show bJ mk i j l.length = (i : Int) from by unfold bJ; rw [if_neg (by omega), if_pos (by omega)]]
                                | rw [show bJ mk i j l.length = mk from by unfold bJ; rw [if_neg (by omega), if_neg (by omega)]]
                              refine (aB.kG (f := i + l.length) (t := i + l.length + 16 + (j - i)) (v := .slice ax (fD L i l.length).length cx) (xs := dP (fD L i l.length) i l) (by omega) (by rw [bP (by omega)]; omega) hL' (by omega) (by rw [bP (by omega)]; omega) (by omega) (by omega) ?_).d3.swap
                              rw [show ((i + l.length : Nat) : Int) = (i : Int) + l.length from by omega, show ((i + l.length + 16 + (j - i) : Nat) : Int) = ((i + l.length + 16 : Nat) : Int) + ((j : Int) - i) from by omega]
                              exact Nh.right.right
                          · (try simp only [aF] at h11)
                            try (exfalso; first | contradiction | omega)
                            all_goals
                              refine ay (ah (aN rfl (bM rfl (bG 5 underlying184 rfl sizeOf3 rfl (dX underlying3 rfl y5.get.2 rfl (aN rfl (aU (dF rfl rfl) (aV rfl (aA (aj (aP rfl (fun h12 => ?_) (fun h12 => ?_))))))))))))
                              · (try simp only [aF] at h12)
                                try (exfalso; first | contradiction | omega)
                                all_goals
                                  refine ah (aN rfl (aN rfl (bM rfl (bG 5 underlying184 rfl sizeOf3 rfl (aJ (dJ y5 sizeOf3 rfl rfl rfl (by rw [je]; decide)) ?_)))))
                                  rintro _ Xa KX
                                  rw [lN] at KX
                                  refine aA (aQ (aj (ay ?_)))
                                  have qF := KX.EP
                                  refine ah (aU (dn underlying101 rfl sizeOf101 rfl rfl qF.get.2) (aJ (dI (cs := fQ i (.slice ad ((L.drop i).take (j - i)).length cd) (.slice ai l.length ci)) qF.r6 sizeOf101 rfl rfl rfl rfl (kH rfl rfl)) ?_))
                                  rintro _ Xb Pv
                                  refine aV rfl (aA (aj (aI ?_)))
                                  refine fH (.inl rfl) results193 rfl rfl underlying101 rfl (by rw [show (prog.info? 101).map (·.size) = some 3 from by kernel_rfl]; rfl) Pv.get.2 ?_
                                  refine ⟨_, _, rfl, ?_⟩
                                  first
                                    | rw [show bI pt i j l.length = pt + ((l.length : Int) - ((j : Int) - i)) from by unfold bI; rw [if_pos (by omega)]]
                                    | rw [show bI pt i j l.length = (i : Int) + l.length from by unfold bI; rw [if_neg (by omega), if_pos (by omega)]]
                                    | rw [show bI pt i j l.length = pt from by unfold bI; rw [if_neg (by omega), if_neg (by omega)]]
                                  first
                                    | rw [show bJ mk i j l.length = mk + ((l.length : Int) - ((j : Int) - i)) from by unfold bJ; rw [if_pos (by omega)]]
                                    | rw [show bJ mk i j l.length = (i : Int) from by unfold bJ; rw [if_neg (by omega), if_pos (by omega)]]
                                    | rw [show bJ mk i j l.length = mk from by unfold bJ; rw [if_neg (by omega), if_neg (by omega)]]
                                  refine (aB.kG (f := i + l.length) (t := i + l.length + 16 + (j - i)) (v := .slice ax (fD L i l.length).length cx) (xs := dP (fD L i l.length) i l) (by omega) (by rw [bP (by omega)]; omega) hL' (by omega) (by rw [bP (by omega)]; omega) (by omega) (by omega) ?_).d3.swap
                                  rw [show ((i + l.length : Nat) : Int) = (i : Int) + l.length from by omega, show ((i + l.length + 16 + (j - i) : Nat) : Int) = ((i + l.length + 16 : Nat) : Int) + ((j : Int) - i) from by omega]
                                  exact Pv.right.right
                              · (try simp only [aF] at h12)
                                try (exfalso; first | contradiction | omega)
                                all_goals
                                  refine aO (aQ (aj (ay ?_)))
                                  have qF := y5.EP
                                  refine ah (aU (dn underlying101 rfl sizeOf101 rfl rfl qF.get.2) (aJ (dI (cs := fQ i (.slice ad ((L.drop i).take (j - i)).length cd) (.slice ai l.length ci)) qF.r6 sizeOf101 rfl rfl rfl rfl (kH rfl rfl)) ?_))
                                  rintro _ XU Px
                                  refine aV rfl (aA (aj (aI ?_)))
                                  refine fH (.inl rfl) results193 rfl rfl underlying101 rfl (by rw [show (prog.info? 101).map (·.size) = some 3 from by kernel_rfl]; rfl) Px.get.2 ?_
                                  refine ⟨_, _, rfl, ?_⟩
                                  first
                                    | rw [show bI pt i j l.length = pt + ((l.length : Int) - ((j : Int) - i)) from by unfold bI; rw [if_pos (by omega)]]
                                    | rw [show bI pt i j l.length = (i : Int) + l.length from by unfold bI; rw [if_neg (by omega), if_pos (by omega)]]
                                    | rw [show bI pt i j l.length = pt from by unfold bI; rw [if_neg (by omega), if_neg (by omega)]]
                                  first
                                    | rw [show bJ mk i j l.length = mk + ((l.length : Int) - ((j : Int) - i)) from by unfold bJ; rw [if_pos (by omega)]]
                                    | rw [show bJ mk i j l.length = (i : Int) from by unfold bJ; rw [if_neg (by omega), if_pos (by omega)]]
                                    | rw [show bJ mk i j l.length = mk from by unfold bJ; rw [if_neg (by omega), if_neg (by omega)]]
                                  refine (aB.kG (f := i + l.length) (t := i + l.length + 16 + (j - i)) (v := .slice ax (fD L i l.length).length cx) (xs := dP (fD L i l.length) i l) (by omega) (by rw [bP (by omega)]; omega) hL' (by omega) (by rw [bP (by omega)]; omega) (by omega) (by omega) ?_).d3.swap
                                  rw [show ((i + l.length : Nat) : Int) = (i : Int) + l.length from by omega, show ((i + l.length + 16 + (j - i) : Nat) : Int) = ((i + l.length + 16 : Nat) : Int) + ((j : Int) - i) from by omega]
                                  exact Px.right.right
                      · (try simp only [aF] at h10)
                        try (exfalso; first | contradiction | omega)
                        all_goals
                          refine aO (aQ (aj (ay (bF (ay (ah (aN rfl (bM rfl (bG 5 underlying184 rfl sizeOf3 rfl (dX underlying3 rfl tX.get.2 rfl (aN rfl (aU (dF rfl rfl) (aV rfl (aA (aj (aP rfl (fun h13 => ?_) (fun h13 => ?_)))))))))))))))))
                          · (try simp only [aF] at h13)
                            try (exfalso; first | contradiction | omega)
                            all_goals
                              refine ah (aN rfl (bM rfl (bG 5 underlying184 rfl sizeOf3 rfl (dX underlying3 rfl tX.get.2 rfl (aN rfl (aU (fO underlying22 rfl) (aN rfl (aN rfl (aU (iP rfl rfl (by omega)) (aU (iP rfl rfl (by omega)) (aU (fC rfl rfl (by omega)) (bM rfl (bG 5 underlying184 rfl sizeOf3 rfl (aJ (dJ tX sizeOf3 rfl rfl rfl (by rw [je]; decide)) ?_))))))))))))))
                              rintro _ Zt Qa
                              rw [lN] at Qa
                              refine aA (aQ (aj (ay ?_)))
                              have qF := Qa.EP
                              refine ah (aU (dn underlying101 rfl sizeOf101 rfl rfl qF.get.2) (aJ (dI (cs := fQ i (.slice ad ((L.drop i).take (j - i)).length cd) (.slice ai l.length ci)) qF.r6 sizeOf101 rfl rfl rfl rfl (kH rfl rfl)) ?_))
                              rintro _ Y6 Ov
                              refine aV rfl (aA (aj (aI ?_)))
                              refine fH (.inl rfl) results193 rfl rfl underlying101 rfl (by rw [show (prog.info? 101).map (·.size) = some 3 from by kernel_rfl]; rfl) Ov.get.2 ?_
                              refine ⟨_, _, rfl, ?_⟩
                              first
                                | rw [show bI pt i j l.length = pt + ((l.length : Int) - ((j : Int) - i)) from by unfold bI; rw [if_pos (by omega)]]
                                | rw [show bI pt i j l.length = (i : Int) + l.length from by unfold bI; rw [if_neg (by omega), if_pos (by omega)]]
                                | rw [show bI pt i j l.length = pt from by unfold bI; rw [if_neg (by omega), if_neg (by omega)]]
                              first
                                | rw [show bJ mk i j l.length = mk + ((l.length : Int) - ((j : Int) - i)) from by unfold bJ; rw [if_pos (by omega)]]
                                | rw [show bJ mk i j l.length = (i : Int) from by unfold bJ; rw [if_neg (by omega), if_pos (by omega)]]
                                | rw [show bJ mk i j l.length = mk from by unfold bJ; rw [if_neg (by omega), if_neg (by omega)]]
                              refine (aB.kG (f := i + l.length) (t := i + l.length + 16 + (j - i)) (v := .slice ax (fD L i l.length).length cx) (xs := dP (fD L i l.length) i l) (by omega) (by rw [bP (by omega)]; omega) hL' (by omega) (by rw [bP (by omega)]; omega) (by omega) (by omega) ?_).d3.swap
                              rw [show ((i + l.length : Nat) : Int) = (i : Int) + l.length from by omega, show ((i + l.length + 16 + (j - i) : Nat) : Int) = ((i + l.length + 16 : Nat) : Int) + ((j : Int) - i) from by omega]
                              exact Ov.right.right
                          · (try simp only [aF] at h13)
                            try (exfalso; first | contradiction | omega)
                            all_goals
                              refine ay (ah (aN rfl (bM rfl (bG 5 underlying184 rfl sizeOf3 rfl (dX underlying3 rfl tX.get.2 rfl (aN rfl (aU (dF rfl rfl) (aV rfl (aA (aj (aP rfl (fun h14 => ?_) (fun h14 => ?_))))))))))))
                              · (try simp only [aF] at h14)
                                try (exfalso; first | contradiction | omega)
                                all_goals
                                  refine ah (aN rfl (aN rfl (bM rfl (bG 5 underlying184 rfl sizeOf3 rfl (aJ (dJ tX sizeOf3 rfl rfl rfl (by rw [je]; decide)) ?_)))))
                                  rintro _ Xc Jk
                                  rw [lN] at Jk
                                  refine aA (aQ (aj (ay ?_)))
                                  have qF := Jk.EP
                                  refine ah (aU (dn underlying101 rfl sizeOf101 rfl rfl qF.get.2) (aJ (dI (cs := fQ i (.slice ad ((L.drop i).take (j - i)).length cd) (.slice ai l.length ci)) qF.r6 sizeOf101 rfl rfl rfl rfl (kH rfl rfl)) ?_))
                                  rintro _ w32 Nj
                                  refine aV rfl (aA (aj (aI ?_)))
                                  refine fH (.inl rfl) results193 rfl rfl underlying101 rfl (by rw [show (prog.info? 101).map (·.size) = some 3 from by kernel_rfl]; rfl) Nj.get.2 ?_
                                  refine ⟨_, _, rfl, ?_⟩
                                  first
                                    | rw [show bI pt i j l.length = pt + ((l.length : Int) - ((j : Int) - i)) from by unfold bI; rw [if_pos (by omega)]]
                                    | rw [show bI pt i j l.length = (i : Int) + l.length from by unfold bI; rw [if_neg (by omega), if_pos (by omega)]]
                                    | rw [show bI pt i j l.length = pt from by unfold bI; rw [if_neg (by omega), if_neg (by omega)]]
                                  first
                                    | rw [show bJ mk i j l.length = mk + ((l.length : Int) - ((j : Int) - i)) from by unfold bJ; rw [if_pos (by omega)]]
                                    | rw [show bJ mk i j l.length = (i : Int) from by unfold bJ; rw [if_neg (by omega), if_pos (by omega)]]
                                    | rw [show bJ mk i j l.length = mk from by unfold bJ; rw [if_neg (by omega), if_neg (by omega)]]
                                  refine (aB.kG (f := i + l.length) (t := i + l.length + 16 + (j - i)) (v := .slice ax (fD L i l.length).length cx) (xs := dP (fD L i l.length) i l) (by omega) (by rw [bP (by omega)]; omega) hL' (by omega) (by rw [bP (by omega)]; omega) (by omega) (by omega) ?_).d3.swap
                                  rw [show ((i + l.length : Nat) : Int) = (i : Int) + l.length from by omega, show ((i + l.length + 16 + (j - i) : Nat) : Int) = ((i + l.length + 16 : Nat) : Int) + ((j : Int) - i) from by omega]
                                  exact Nj.right.right
                              · (try simp only [aF] at h14)
                                try (exfalso; first | contradiction | omega)
                                all_goals
                                  refine aO (aQ (aj (ay ?_)))
                                  have qF := tX.EP
                                  refine ah (aU (dn underlying101 rfl sizeOf101 rfl rfl qF.get.2) (aJ (dI (cs := fQ i (.slice ad ((L.drop i).take (j - i)).length cd) (.slice ai l.length ci)) qF.r6 sizeOf101 rfl rfl rfl rfl (kH rfl rfl)) ?_))
                                  rintro _ XV Jl
                                  refine aV rfl (aA (aj (aI ?_)))
                                  refine fH (.inl rfl) results193 rfl rfl underlying101 rfl (by rw [show (prog.info? 101).map (·.size) = some 3 from by kernel_rfl]; rfl) Jl.get.2 ?_
                                  refine ⟨_, _, rfl, ?_⟩
                                  first
                                    | rw [show bI pt i j l.length = pt + ((l.length : Int) - ((j : Int) - i)) from by unfold bI; rw [if_pos (by omega)]]
                                    | rw [show bI pt i j l.length = (i : Int) + l.length from by unfold bI; rw [if_neg (by omega), if_pos (by omega)]]
                                    | rw [show bI pt i j l.length = pt from by unfold bI; rw [if_neg (by omega), if_neg (by omega)]]
                                  first
                                    | rw [show bJ mk i j l.length = mk + ((l.length : Int) - ((j : Int) - i)) from by unfold bJ; rw [if_pos (by omega)]]
                                    | rw [show bJ mk i j l.length = (i : Int) from by unfold bJ; rw [if_neg (by omega), if_pos (by omega)]]
                                    | rw [show bJ mk i j l.length = mk from by unfold bJ; rw [if_neg (by omega), if_neg (by omega)]]
                                  refine (aB.kG (f := i + l.length) (t := i + l.length + 16 + (j - i)) (v := .slice ax (fD L i l.length).length cx) (xs := dP (fD L i l.length) i l) (by omega) (by rw [bP (by omega)]; omega) hL' (by omega) (by rw [bP (by omega)]; omega) (by omega) (by omega) ?_).d3.swap
                                  rw [show ((i + l.length : Nat) : Int) = (i : Int) + l.length from by omega, show ((i + l.length + 16 + (j - i) : Nat) : Int) = ((i + l.length + 16 : Nat) : Int) + ((j : Int) - i) from by omega]
                                  exact Jl.right.right
end
end Go.Proofs.YtgndbccogcofjaaGreatDoor
end
