import Derived.Test.YtddekefihgejoaaGreatDoorZ2
import Derived.Test.YtddekefihgejoaaGreatDoorZ5
set_option linter.unusedSimpArgs false
set_option linter.unusedVariables false
/- Texts of mine, joined, their names in short: Buf2 Buf3. -/
section
namespace Go.Proofs.YtddekefihgejoaaGreatDoor
open Go.RowKit
open _root_.Go.Proofs.Tryz
def fG (L : List Int) (i r : Nat) : List Int := dL (dL (List.replicate (L.length + r + 16) 0) 0 (L.take i)) (i + r + 16) (L.drop i)
theorem KJ {L : List Int} {i r : Nat} (h : i ≤ L.length) : (fG L i r).length = L.length + r + 16 := by
  unfold fG
  rw [bP, bP] <;> simp [bP] <;> first | omega | (rw [bP] <;> simp <;> omega)
theorem Bc {l ys : List Int} {i : Nat} (h : i + ys.length ≤ l.length) : (dL l i ys).take (i + ys.length) = l.take i ++ ys := by
  unfold dL
  rw [List.take_append_of_le_length (by simp; omega), List.take_of_length_le (by simp; omega)]
theorem IW {l ys : List Int} {i j : Nat} (h : i + ys.length ≤ j) (h2 : j ≤ l.length) : (dL l i ys).drop j = l.drop j := by
  unfold dL
  rw [List.drop_append, List.drop_eq_nil_of_le (by simp; omega), List.nil_append, List.drop_drop]
  congr 1
  simp
  omega
theorem Dx {l ys : List Int} {i j : Nat} (h : j ≤ i) (h2 : i ≤ l.length) : (dL l i ys).take j = l.take j := by
  unfold dL
  rw [List.append_assoc, List.take_append_of_le_length (by simp; omega), List.take_take, Nat.min_eq_left h]
theorem Dy {l ys : List Int} {i : Nat} (h : i + ys.length = l.length) : (dL l i ys).drop i = ys := by
  unfold dL
  rw [List.append_assoc, List.drop_append, List.drop_eq_nil_of_le (by simp; omega), List.nil_append]
  simp [show i - min i l.length = 0 from by omega, show l.length ≤ i + ys.length from by omega]
theorem IX {L : List Int} {i r : Nat} (h : i ≤ L.length) : (fG L i r).take i = L.take i := by
  have h1 : (dL (List.replicate (L.length + r + 16) (0 : Int)) 0 (L.take i)).length = L.length + r + 16 := by rw [bP] <;> simp; omega
  unfold fG
  rw [Dx (by omega) (by rw [h1]; omega)]
  have := Bc (l := List.replicate (L.length + r + 16) (0 : Int)) (ys := L.take i) (i := 0) (by simp; omega)
  rw [show 0 + (L.take i).length = i from by simp; omega] at this
  simpa using this
theorem IY {L : List Int} {i r : Nat} (h : i ≤ L.length) : (fG L i r).drop (i + r + 16) = L.drop i := by
  have h1 : (dL (List.replicate (L.length + r + 16) (0 : Int)) 0 (L.take i)).length = L.length + r + 16 := by rw [bP] <;> simp; omega
  exact Dy (by rw [h1]; simp; omega)
section
variable {w0 w : World} {F : HP} {p : Nat} {L : List Int} {pt mk : Int}
theorem Gp {i r : Nat} (H : aB w0 w (dM p L pt mk • F)) (hi : i ≤ L.length) (hr : r ≤ 1024) :
  gG prog 171 #[.pointer (some ⟨p, 0, none⟩), .int .i64 i, .int .i64 r] w fun _ w' => ∃ v, aB w0 w' (dh p (.cells (dS v i (i + r + 16 : Nat) pt mk) 208 (0, 0)) • iD 21 .i32 v (fG L i r) • F) := by
 have hL4 : L.length ≤ 1024 := by obtain ⟨a, c, xs, f, t, h1, h2, h3, h4, h5, h6, h7, hc1, hc2, hl, H1⟩ := H.buf; exact h4
 have e1 : ((L.length : Int) + r + 16).toNat = L.length + r + 16 := by omega
 refine iF func171 ntmps171 ?_
 dsimp only [bg, Nat.reduceAdd]
 refine ay (ah (aI rfl (dH rfl func121 (nO H) ?_)))
 rintro u w1 H1
 obtain ⟨au, cu, hu, hcu, abP, _⟩ := (H1.aT).form
 subst hu
 obtain ⟨a, c, xs, f, t, h1, h2, h3, h4, h5, h6, h7, hc1, hc2, hl, HB⟩ := H1.swap.buf
 refine aW rfl (aA (aj (ay (ah (aI rfl (aI rfl (aU (jg underlying23 rfl) (aI rfl (aU (dG rfl rfl (by omega)) (aU (dG rfl rfl (by omega)) (iw (Iy HB underlying23 y5 rfl rfl (by omega) (by omega) (by omega)) ?_)))))))))))
 rintro v w2 H2
 rw [e1] at H2
 have hm : (List.replicate (L.length + r + 16) (0 : Int)).length = L.length + r + 16 := by simp
 obtain ⟨av, cv, hv, hcv, hcv2, _⟩ := (H2.aT).form
 rw [hm] at hv hcv
 subst hv
 refine bQ rfl (bC 1 underlying208 rfl sizeOf23 rfl (aJ (fM H2.swap sizeOf23 rfl rfl rfl (by rw [iY]; decide)) ?_))
 rintro _ w3 H3
 rw [Oa] at H3
 refine aA (aj (ay (ah (aI rfl (aI rfl (bQ rfl (bC 2 underlying208 rfl sizeOf3 rfl (aJ (fM H3 sizeOf3 rfl rfl rfl (by rw [iY]; decide)) ?_))))))))
 rintro _ w4 H4
 rw [vC] at H4
 refine aA (aj (ay (ah (aI rfl (aI rfl (bQ rfl (bC 1 underlying208 rfl sizeOf23 rfl (eu underlying23 rfl H4.get.2 rfl (aU (jg underlying23 rfl) (aI rfl (aU (jg underlying23 rfl) (aI rfl (aU (je rfl rfl (by omega)) (aU (je rfl rfl (by omega)) (bQ rfl (bC 3 underlying208 rfl sizeOf3 rfl (aJ (fM H4 sizeOf3 rfl rfl rfl (by rw [iY]; decide)) ?_)))))))))))))))))
 rintro _ w5 H5
 rw [yu, show (((L.length + r + 16 : Nat) : Int) - ((L.length : Int) - (i : Int))) = ((i + r + 16 : Nat) : Int) from by omega] at H5
 have hb3 := H5.get.2
 refine aA (aj (ay ?_))
 refine lI (n := 8) [0, 1, 2, 3, 4, 5, 6, 7] (fun W => W.heap[p]? = some (.cells (dS (.slice av (L.length + r + 16) cv) i (i + r + 16 : Nat) pt mk) 208 (0, 0))) (by kernel_rfl) (by kernel_rfl) rfl ?_
 have hS0 : (fun W => W.heap[p]? = some (.cells (dS (.slice av (L.length + r + 16) cv) i (i + r + 16 : Nat) pt mk) 208 (0, 0))) (w5.drew) := hb3
 have H4d := H5.drew
 refine gV 0 rfl hS0 rfl (iZ 1 rfl hS0 rfl (dV 2 rfl hS0 1 underlying208 rfl sizeOf23 rfl (iy 3 rfl hS0 (fun W hW => iQ underlying23 rfl hW rfl) (gV 4 rfl hS0 rfl (gV 5 rfl hS0 rfl (iR 6 rfl hS0 (fun _ => oP underlying23 sizeOf21 rfl rfl rfl (by omega)) (jr 7 rfl (wG (i := 0) (m := L.take i) H4d.swap (jc.upto H4d.r4.aT (by omega)) underlying23 (by kernel_rfl) (by rw [hm, Kw]; rfl) rfl (by simp; omega)) ?_)))))))
 rintro _ w6 ⟨rfl, H6⟩
 have hm2 : (dL (List.replicate (L.length + r + 16) (0 : Int)) 0 (L.take i)).length = L.length + r + 16 := by rw [bP] <;> simp; omega
 refine Md (by kernel_rfl) ?_
 refine nJ (aj ?_)
 refine lI (n := 13) [0, 1, 2, 3, 4, 5, 6, 7, 8, 9, 10, 11, 12] (fun W => W.heap[p]? = some (.cells (dS (.slice av (L.length + r + 16) cv) i (i + r + 16 : Nat) pt mk) 208 (0, 0))) (by kernel_rfl) (by kernel_rfl) rfl ?_
 have hS0 : (fun W => W.heap[p]? = some (.cells (dS (.slice av (L.length + r + 16) cv) i (i + r + 16 : Nat) pt mk) 208 (0, 0))) (w6.drew) := H6.swap.get.2
 have YO := H6.drew
 refine gV 0 rfl hS0 rfl (iZ 1 rfl hS0 rfl (dV 2 rfl hS0 1 underlying208 rfl sizeOf23 rfl (iy 3 rfl hS0 (fun W hW => iQ underlying23 rfl hW rfl) (gV 4 rfl hS0 rfl (iZ 5 rfl hS0 rfl (dV 6 rfl hS0 3 underlying208 rfl sizeOf3 rfl (iy 7 rfl hS0 (fun W hW => iQ underlying3 rfl hW rfl) (iR 8 rfl hS0 (fun _ => oP underlying23 sizeOf21 rfl rfl rfl (by omega)) (gV 9 rfl hS0 rfl (gV 10 rfl hS0 rfl (iR 11 rfl hS0 (fun _ => oP underlying23 sizeOf21 rfl rfl rfl (by omega)) (jr 12 rfl (wG (i := i + r + 16) (m := L.drop i) YO (jc.from YO.r4.aT (by omega)) underlying23 (by kernel_rfl) (by rw [hm2]; rfl) rfl (by rw [hm2]; simp; omega)) ?_))))))))))))
 rintro _ w7 ⟨rfl, H7⟩
 refine Md (by kernel_rfl) ?_
 refine nJ (gB (.inr rfl) results171 ?_)
 exact ⟨_, H7.swap.Ii.right.Ii.right⟩
theorem nP (H : aB w0 w (dM p L pt mk • F)) : gG prog 139 #[.pointer (some ⟨p, 0, none⟩)] w fun v w' => v = .bool false ∧ w = w' := by
  obtain ⟨a, c, xs, f, t, h1, h2, h3, h4, h5, h6, h7, hc1, hc2, hl, H1⟩ := H.buf
  exact nN _ H1.get.2 rfl
def bJ (pt i j n : Int) : Int := if j < pt then pt + (n - (j - i)) else if i ≤ pt then i + n else pt
def bK (mk i j n : Int) : Int := if j < mk then mk + (n - (j - i)) else if i < mk then i else mk
def fU (at_ : Int) (d i : Value) : Array Value := #[.int .i64 at_, d, i]
theorem jR {at_ : Int} {d i : Value} (hd : d.oneCell' = true) (hi : i.oneCell' = true) : ∀ v ∈ (fU at_ d i).toList, v.oneCell' = true := by
  intro v hv
  simp [fU] at hv
  rcases hv with rfl | rfl | rfl <;> first | rfl | assumption
variable {v : Value} {l : List Int} {i j : Int}
theorem BM (H : aB w0 w (dM p L pt mk • F)) (hr : iG w0 F .i32 v l) (hb : i < 0 ∨ L.length < i ∨ j < i ∨ L.length < j) :
  gG prog 136 #[.pointer (some ⟨p, 0, none⟩), .int .i64 i, .int .i64 j, v] w fun v' w' => v' = .tuple #[.agg (fU 0 (.slice none 0 0) (.slice none 0 0)), .int .i64 70] ∧ aB w0 w' (dM p L pt mk • F) := by
 obtain ⟨a, c, rfl, _, _, _⟩ := (hr w H.right).open
 refine iF func136 ntmps136 ?_
 dsimp only [bg, Nat.reduceAdd]
 refine ay (ah (iw (uY H zeroValue202) ?_))
 rintro _ w1 ⟨b1, rfl, H1⟩
 refine aW rfl (aA (aj (ay (ah (aI rfl (dH rfl func140 (su H1.right) ?_))))))
 rintro _ w2 ⟨rfl, hD⟩
 have HL := H1.yO hD
 refine aW rfl (aA (aj (ay (bf (ay (ah (aI rfl (dH rfl func139 (nP HL.right) ?_))))))))
 rintro _ _ ⟨rfl, rfl⟩
 refine aW rfl (aA (aj (aP rfl (fun h1 => ?_) (fun h1 => ?_))))
 ·(try simp only [aG] at h1)
  try (exfalso; first | contradiction | omega)
  all_goals
   refine ay (ah (aU (fO (pl := #[(0, 1), (1, 1), (2, 1)]) (_) underlying202 zeroValue202 (fun w => by kernel_rfl) rfl (rfl)) (aJ (fM HL sizeOf202 rfl rfl rfl (by decide)) ?_)))
   rintro _ w4 H4
   refine aW rfl (aA (aj (aK (aX (aN ?_)))))
   refine fQ (.inl rfl) results136 rfl rfl underlying202 rfl (by rw [show (prog.info? 202).map (·.size) = some 3 from by kernel_rfl]; rfl) H4.get.2 ?_
   exact ⟨rfl, H4.right⟩
 ·(try simp only [aG] at h1)
  try (exfalso; first | contradiction | omega)
  all_goals
   refine ay (ah (aI rfl (aU (dB rfl rfl) (iM rfl (fun h2 => ?_) (fun h2 => ?_)))))
   ·(try simp only [aG] at h2)
    try (exfalso; first | contradiction | omega)
    all_goals
     refine aZ (aZ (aZ (fK rfl rfl (aI rfl (aZ (aZ (aZ (fK rfl rfl (aI rfl (aZ (aZ (aZ (fK rfl rfl (aW rfl (aA (aj (zM (ay (ah (aU (fO (pl := #[(0, 1), (1, 1), (2, 1)]) (fU 0 (.slice none 0 0) (.slice none 0 0)) underlying202 zeroValue202 (fun w => by kernel_rfl) rfl (by kernel_rfl)) (aJ (dD (cs := fU 0 (.slice none 0 0) (.slice none 0 0)) HL sizeOf202 rfl rfl rfl rfl (jR rfl rfl)) ?_)))))))))))))))))))))
     rintro _ w5 H5
     refine aW rfl (aA (aj (aK (aX (aN ?_)))))
     refine fQ (.inl rfl) results136 rfl rfl underlying202 rfl (by rw [show (prog.info? 202).map (·.size) = some 3 from by kernel_rfl]; rfl) H5.get.2 ?_
     exact ⟨rfl, H5.right⟩
   ·(try simp only [aG] at h2)
    try (exfalso; first | contradiction | omega)
    all_goals
     refine aY (aI rfl (aY (aI rfl (aY (aU (fB rfl rfl) (fC rfl rfl (iM rfl (fun h3 => ?_) (fun h3 => ?_))))))))
     ·(try simp only [aG] at h3)
      try (exfalso; first | contradiction | omega)
      all_goals
       refine aZ (aZ (aZ (fK rfl rfl (aI rfl (aZ (aZ (aZ (fK rfl rfl (aW rfl (aA (aj (zM (ay (ah (aU (fO (pl := #[(0, 1), (1, 1), (2, 1)]) (fU 0 (.slice none 0 0) (.slice none 0 0)) underlying202 zeroValue202 (fun w => by kernel_rfl) rfl (by kernel_rfl)) (aJ (dD (cs := fU 0 (.slice none 0 0) (.slice none 0 0)) HL sizeOf202 rfl rfl rfl rfl (jR rfl rfl)) ?_))))))))))))))))
       rintro _ w6 H6
       refine aW rfl (aA (aj (aK (aX (aN ?_)))))
       refine fQ (.inl rfl) results136 rfl rfl underlying202 rfl (by rw [show (prog.info? 202).map (·.size) = some 3 from by kernel_rfl]; rfl) H6.get.2 ?_
       exact ⟨rfl, H6.right⟩
     ·(try simp only [aG] at h3)
      try (exfalso; first | contradiction | omega)
      all_goals
       refine aY (aI rfl (aY (aI rfl (aY (aU (dB rfl rfl) (fC rfl rfl (iM rfl (fun h4 => ?_) (fun h4 => ?_))))))))
       ·(try simp only [aG] at h4)
        try (exfalso; first | contradiction | omega)
        all_goals
         refine aZ (aZ (aZ (fK rfl rfl (aW rfl (aA (aj (zM (ay (ah (aU (fO (pl := #[(0, 1), (1, 1), (2, 1)]) (fU 0 (.slice none 0 0) (.slice none 0 0)) underlying202 zeroValue202 (fun w => by kernel_rfl) rfl (by kernel_rfl)) (aJ (dD (cs := fU 0 (.slice none 0 0) (.slice none 0 0)) HL sizeOf202 rfl rfl rfl rfl (jR rfl rfl)) ?_)))))))))))
         rintro _ w7 H7
         refine aW rfl (aA (aj (aK (aX (aN ?_)))))
         refine fQ (.inl rfl) results136 rfl rfl underlying202 rfl (by rw [show (prog.info? 202).map (·.size) = some 3 from by kernel_rfl]; rfl) H7.get.2 ?_
         exact ⟨rfl, H7.right⟩
       ·(try simp only [aG] at h4)
        try (exfalso; first | contradiction | omega)
        all_goals
         refine aY (aI rfl (aY (aI rfl (aY (aU (fB rfl rfl) (fC rfl rfl (aW rfl (aA (aj (aP rfl (fun h5 => ?_) (fun h => by exfalso; (try simp only [aG] at h); first | contradiction | omega | (simp at h <;> omega))))))))))))
         (try simp only [aG] at h5)
         refine ay (ah (aU (fO (pl := #[(0, 1), (1, 1), (2, 1)]) (fU 0 (.slice none 0 0) (.slice none 0 0)) underlying202 zeroValue202 (fun w => by kernel_rfl) rfl (by kernel_rfl)) (aJ (dD (cs := fU 0 (.slice none 0 0) (.slice none 0 0)) HL sizeOf202 rfl rfl rfl rfl (jR rfl rfl)) ?_)))
         rintro _ w8 H8
         refine aW rfl (aA (aj (aK (aX (aN ?_)))))
         refine fQ (.inl rfl) results136 rfl rfl underlying202 rfl (by rw [show (prog.info? 202).map (·.size) = some 3 from by kernel_rfl]; rfl) H8.get.2 ?_
         exact ⟨rfl, H8.right⟩
theorem zZ (H : aB w0 w (dM p L pt mk • F)) (hr : iG w0 F .i32 v l) (hb : 0 ≤ i ∧ i ≤ j ∧ j ≤ L.length) (hl : 1024 < L.length - (j - i) + l.length) :
  gG prog 136 #[.pointer (some ⟨p, 0, none⟩), .int .i64 i, .int .i64 j, v] w fun v' w' => v' = .tuple #[.agg (fU 0 (.slice none 0 0) (.slice none 0 0)), .int .i64 3] ∧ aB w0 w' (dM p L pt mk • F) := by
 obtain ⟨a, c, rfl, _, _, _⟩ := (hr w H.right).open
 have hL4 : L.length ≤ 1024 := by obtain ⟨a, c, xs, f, t, h1, h2, h3, h4, h5, h6, h7, hc1, hc2, hl, H1⟩ := H.buf; exact h4
 refine iF func136 ntmps136 ?_
 dsimp only [bg, Nat.reduceAdd]
 refine ay (ah (iw (uY H zeroValue202) ?_))
 rintro _ w1 ⟨b1, rfl, H1⟩
 refine aW rfl (aA (aj (ay (ah (aI rfl (dH rfl func140 (su H1.right) ?_))))))
 rintro _ w2 ⟨rfl, hD⟩
 have HL := H1.yO hD
 refine aW rfl (aA (aj (ay (bf (ay (ah (aI rfl (dH rfl func139 (nP HL.right) ?_))))))))
 rintro _ _ ⟨rfl, rfl⟩
 refine aW rfl (aA (aj (aP rfl (fun h1 => ?_) (fun h1 => ?_))))
 ·(try simp only [aG] at h1)
  try (exfalso; first | contradiction | omega)
  all_goals
   refine ay (ah (aU (fO (pl := #[(0, 1), (1, 1), (2, 1)]) (_) underlying202 zeroValue202 (fun w => by kernel_rfl) rfl (rfl)) (aJ (fM HL sizeOf202 rfl rfl rfl (by decide)) ?_)))
   rintro _ w4 H4
   refine aW rfl (aA (aj (aK (aX (aN ?_)))))
   refine fQ (.inl rfl) results136 rfl rfl underlying202 rfl (by rw [show (prog.info? 202).map (·.size) = some 3 from by kernel_rfl]; rfl) H4.get.2 ?_
   exact ⟨rfl, H4.right⟩
 ·(try simp only [aG] at h1)
  try (exfalso; first | contradiction | omega)
  all_goals
   refine ay (ah (aI rfl (aU (dB rfl rfl) (iM rfl (fun h2 => ?_) (fun h2 => ?_)))))
   ·(try simp only [aG] at h2)
    try (exfalso; first | contradiction | omega)
    all_goals
     refine aZ (aZ (aZ (fK rfl rfl (aI rfl (aZ (aZ (aZ (fK rfl rfl (aI rfl (aZ (aZ (aZ (fK rfl rfl (aW rfl (aA (aj (zM (ay (ah (aU (fO (pl := #[(0, 1), (1, 1), (2, 1)]) (_) underlying202 zeroValue202 (fun w => by kernel_rfl) rfl (rfl)) (aJ (fM HL sizeOf202 rfl rfl rfl (by decide)) ?_)))))))))))))))))))))
     rintro _ w5 H5
     refine aW rfl (aA (aj (aK (aX (aN ?_)))))
     refine fQ (.inl rfl) results136 rfl rfl underlying202 rfl (by rw [show (prog.info? 202).map (·.size) = some 3 from by kernel_rfl]; rfl) H5.get.2 ?_
     exact ⟨rfl, H5.right⟩
   ·(try simp only [aG] at h2)
    try (exfalso; first | contradiction | omega)
    all_goals
     refine aY (aI rfl (aY (aI rfl (aY (aU (fB rfl rfl) (fC rfl rfl (iM rfl (fun h3 => ?_) (fun h3 => ?_))))))))
     ·(try simp only [aG] at h3)
      try (exfalso; first | contradiction | omega)
      all_goals
       refine aZ (aZ (aZ (fK rfl rfl (aI rfl (aZ (aZ (aZ (fK rfl rfl (aW rfl (aA (aj (zM (ay (ah (aU (fO (pl := #[(0, 1), (1, 1), (2, 1)]) (_) underlying202 zeroValue202 (fun w => by kernel_rfl) rfl (rfl)) (aJ (fM HL sizeOf202 rfl rfl rfl (by decide)) ?_))))))))))))))))
       rintro _ w6 H6
       refine aW rfl (aA (aj (aK (aX (aN ?_)))))
       refine fQ (.inl rfl) results136 rfl rfl underlying202 rfl (by rw [show (prog.info? 202).map (·.size) = some 3 from by kernel_rfl]; rfl) H6.get.2 ?_
       exact ⟨rfl, H6.right⟩
     ·(try simp only [aG] at h3)
      try (exfalso; first | contradiction | omega)
      all_goals
       refine aY (aI rfl (aY (aI rfl (aY (aU (dB rfl rfl) (fC rfl rfl (iM rfl (fun h4 => ?_) (fun h4 => ?_))))))))
       ·(try simp only [aG] at h4)
        try (exfalso; first | contradiction | omega)
        all_goals
         refine aZ (aZ (aZ (fK rfl rfl (aW rfl (aA (aj (zM (ay (ah (aU (fO (pl := #[(0, 1), (1, 1), (2, 1)]) (_) underlying202 zeroValue202 (fun w => by kernel_rfl) rfl (rfl)) (aJ (fM HL sizeOf202 rfl rfl rfl (by decide)) ?_)))))))))))
         rintro _ w7 H7
         refine aW rfl (aA (aj (aK (aX (aN ?_)))))
         refine fQ (.inl rfl) results136 rfl rfl underlying202 rfl (by rw [show (prog.info? 202).map (·.size) = some 3 from by kernel_rfl]; rfl) H7.get.2 ?_
         exact ⟨rfl, H7.right⟩
       ·(try simp only [aG] at h4)
        try (exfalso; first | contradiction | omega)
        all_goals
         refine aY (aI rfl (aY (aI rfl (aY (aU (fB rfl rfl) (fC rfl rfl (aW rfl (aA (aj (aP rfl (fun h => by exfalso; (try simp only [aG] at h); first | contradiction | omega | (simp at h <;> omega)) (fun h5 => ?_)))))))))))
         (try simp only [aG] at h5)
         refine ay (ah (aI rfl (aU (jg underlying23 rfl) (aI rfl (aI rfl (aI rfl (aU (je rfl rfl (by omega)) (aU (je rfl rfl (by omega)) (aU (je rfl rfl (by omega)) (aU (fB rfl rfl) (aW rfl (aA (aj (aP rfl (fun h6 => ?_) (fun h => by exfalso; (try simp only [aG] at h); first | contradiction | omega | (simp at h <;> omega))))))))))))))))
         (try simp only [aG] at h6)
         refine ay (ah (aU (fO (pl := #[(0, 1), (1, 1), (2, 1)]) (fU 0 (.slice none 0 0) (.slice none 0 0)) underlying202 zeroValue202 (fun w => by kernel_rfl) rfl (by kernel_rfl)) (aJ (dD (cs := fU 0 (.slice none 0 0) (.slice none 0 0)) HL sizeOf202 rfl rfl rfl rfl (jR rfl rfl)) ?_)))
         rintro _ w8 H8
         refine aW rfl (aA (aj (aK (aX (aN ?_)))))
         refine fQ (.inl rfl) results136 rfl rfl underlying202 rfl (by rw [show (prog.info? 202).map (·.size) = some 3 from by kernel_rfl]; rfl) H8.get.2 ?_
         exact ⟨rfl, H8.right⟩
end
end Go.Proofs.YtddekefihgejoaaGreatDoor
end
section
namespace Go.Proofs.YtddekefihgejoaaGreatDoor
open Go.RowKit
open _root_.Go.Proofs.Tryz
section
variable {w0 w : World} {F : HP} {p : Nat} {L : List Int} {pt mk : Int} {v : Value} {l : List Int} {i j : Int}
theorem Dz {i j : Nat} (H : aB w0 w (dM p L pt mk • F)) (hr : iG w0 F .i32 v l) (hb : i ≤ j ∧ j ≤ L.length) (hl : (L.length : Int) - ((j : Int) - i) + l.length ≤ 1024) :
    gG prog 136 #[.pointer (some ⟨p, 0, none⟩), .int .i64 i, .int .i64 j, v] w fun v' w' => ∃ d s, v' = .tuple #[.agg (fU i d s), .int .i64 0] ∧
      aB w0 w' (iD 21 .i32 d ((L.drop i).take (j - i)) • iD 21 .i32 s l • dM p (L.take i ++ l ++ L.drop j) (bJ pt i j l.length) (bK mk i j l.length) • F) := by
  obtain ⟨a, c, rfl, hac, abQ, _⟩ := (hr w H.right).open
  obtain ⟨hL4, hpt, hmk⟩ : L.length ≤ 1024 ∧ (0 ≤ pt ∧ pt ≤ L.length) ∧ (-1 ≤ mk ∧ mk ≤ L.length) := by obtain ⟨a, c, xs, f, t, h1, h2, h3, h4, h5, h6, h7, hc1, hc2, hl, H1⟩ := H.buf; exact ⟨h4, h6, h7⟩
  have hg1 := KJ (L := L) (i := i) (r := l.length) (by omega)
  have hg2 := IX (L := L) (i := i) (r := l.length) (by omega)
  have hg3 := IY (L := L) (i := i) (r := l.length) (by omega)
  have hL' : L.take i ++ l ++ L.drop j = (dL (fG L i l.length) i l).take (i + l.length) ++ (dL (fG L i l.length) i l).drop (i + l.length + 16 + (j - i)) := by
    rw [Bc (by omega), IW (by omega) (by omega), hg2]
    congr 1
    rw [← List.drop_drop, hg3, List.drop_drop]
    congr 1; omega
  have hlen' : (L.take i ++ l ++ L.drop j).length = L.length - (j - i) + l.length := by simp; omega
  refine iF func136 ntmps136 ?_
  dsimp only [bg, Nat.reduceAdd]
  refine ay (ah (iw (uY H zeroValue202) ?_))
  rintro _ w1 ⟨b1, rfl, H1⟩
  refine aW rfl (aA (aj (ay (ah (aI rfl (dH rfl func140 (su H1.right) ?_))))))
  rintro _ w2 ⟨rfl, hD⟩
  have HL := H1.yO hD
  refine aW rfl (aA (aj (ay (bf (ay (ah (aI rfl (dH rfl func139 (nP HL.right) ?_))))))))
  rintro _ _ ⟨rfl, rfl⟩
  refine aW rfl (aA (aj (aP rfl (fun h1 => ?_) (fun h1 => ?_))))
  · (try simp only [aG] at h1)
    try (exfalso; first | contradiction | omega)
    all_goals
      refine ay (ah (aU (fO (pl := #[(0, 1), (1, 1), (2, 1)]) (_) underlying202 zeroValue202 (fun w => by kernel_rfl) rfl (rfl)) (aJ (fM HL sizeOf202 rfl rfl rfl (by decide)) ?_)))
      rintro _ w4 H4
      refine aW rfl (aA (aj (aK (aX (aN ?_)))))
      refine fQ (.inl rfl) results136 rfl rfl underlying202 rfl (by rw [show (prog.info? 202).map (·.size) = some 3 from by kernel_rfl]; rfl) H4.get.2 ?_
      refine ⟨_, _, rfl, ?_⟩
      first
        | rw [show bJ pt i j l.length = pt + ((l.length : Int) - ((j : Int) - i)) from by unfold bJ; rw [if_pos (by omega)]]
        | rw [show bJ pt i j l.length = (i : Int) + l.length from by unfold bJ; rw [if_neg (by omega), if_pos (by omega)]]
        | rw [show bJ pt i j l.length = pt from by unfold bJ; rw [if_neg (by omega), if_neg (by omega)]]
      first
        | rw [show bK mk i j l.length = mk + ((l.length : Int) - ((j : Int) - i)) from by unfold bK; rw [if_pos (by omega)]]
        | rw [show bK mk i j l.length = (i : Int) from by unfold bK; rw [if_neg (by omega), if_pos (by omega)]]
        | rw [show bK mk i j l.length = mk from by unfold bK; rw [if_neg (by omega), if_neg (by omega)]]
      refine (aB.kG (f := i + l.length) (t := i + l.length + 16 + (j - i)) (v := .slice ax (fG L i l.length).length cx) (xs := dL (fG L i l.length) i l) (by omega) (by rw [bP (by omega)]; omega) hL' (by omega) (by rw [bP (by omega)]; omega) (by omega) (by omega) ?_).d3.swap
      rw [show ((i + l.length : Nat) : Int) = (i : Int) + l.length from by omega, show ((i + l.length + 16 + (j - i) : Nat) : Int) = ((i + l.length + 16 : Nat) : Int) + ((j : Int) - i) from by omega]
      exact H4.right.right
  · (try simp only [aG] at h1)
    try (exfalso; first | contradiction | omega)
    all_goals
      refine ay (ah (aI rfl (aU (dB rfl rfl) (iM rfl (fun h2 => ?_) (fun h2 => ?_)))))
      · (try simp only [aG] at h2)
        try (exfalso; first | contradiction | omega)
        all_goals
          refine aZ (aZ (aZ (fK rfl rfl (aI rfl (aZ (aZ (aZ (fK rfl rfl (aI rfl (aZ (aZ (aZ (fK rfl rfl (aW rfl (aA (aj (zM (ay (ah (aU (fO (pl := #[(0, 1), (1, 1), (2, 1)]) (_) underlying202 zeroValue202 (fun w => by kernel_rfl) rfl (rfl)) (aJ (fM HL sizeOf202 rfl rfl rfl (by decide)) ?_)))))))))))))))))))))
          rintro _ w5 H5
          refine aW rfl (aA (aj (aK (aX (aN ?_)))))
          refine fQ (.inl rfl) results136 rfl rfl underlying202 rfl (by rw [show (prog.info? 202).map (·.size) = some 3 from by kernel_rfl]; rfl) H5.get.2 ?_
          refine ⟨_, _, rfl, ?_⟩
          first
            | rw [show bJ pt i j l.length = pt + ((l.length : Int) - ((j : Int) - i)) from by unfold bJ; rw [if_pos (by omega)]]
            | rw [show bJ pt i j l.length = (i : Int) + l.length from by unfold bJ; rw [if_neg (by omega), if_pos (by omega)]]
            | rw [show bJ pt i j l.length = pt from by unfold bJ; rw [if_neg (by omega), if_neg (by omega)]]
          first
            | rw [show bK mk i j l.length = mk + ((l.length : Int) - ((j : Int) - i)) from by unfold bK; rw [if_pos (by omega)]]
            | rw [show bK mk i j l.length = (i : Int) from by unfold bK; rw [if_neg (by omega), if_pos (by omega)]]
            | rw [show bK mk i j l.length = mk from by unfold bK; rw [if_neg (by omega), if_neg (by omega)]]
          refine (aB.kG (f := i + l.length) (t := i + l.length + 16 + (j - i)) (v := .slice ax (fG L i l.length).length cx) (xs := dL (fG L i l.length) i l) (by omega) (by rw [bP (by omega)]; omega) hL' (by omega) (by rw [bP (by omega)]; omega) (by omega) (by omega) ?_).d3.swap
          rw [show ((i + l.length : Nat) : Int) = (i : Int) + l.length from by omega, show ((i + l.length + 16 + (j - i) : Nat) : Int) = ((i + l.length + 16 : Nat) : Int) + ((j : Int) - i) from by omega]
          exact H5.right.right
      · (try simp only [aG] at h2)
        try (exfalso; first | contradiction | omega)
        all_goals
          refine aY (aI rfl (aY (aI rfl (aY (aU (fB rfl rfl) (fC rfl rfl (iM rfl (fun h3 => ?_) (fun h3 => ?_))))))))
          · (try simp only [aG] at h3)
            try (exfalso; first | contradiction | omega)
            all_goals
              refine aZ (aZ (aZ (fK rfl rfl (aI rfl (aZ (aZ (aZ (fK rfl rfl (aW rfl (aA (aj (zM (ay (ah (aU (fO (pl := #[(0, 1), (1, 1), (2, 1)]) (_) underlying202 zeroValue202 (fun w => by kernel_rfl) rfl (rfl)) (aJ (fM HL sizeOf202 rfl rfl rfl (by decide)) ?_))))))))))))))))
              rintro _ w6 H6
              refine aW rfl (aA (aj (aK (aX (aN ?_)))))
              refine fQ (.inl rfl) results136 rfl rfl underlying202 rfl (by rw [show (prog.info? 202).map (·.size) = some 3 from by kernel_rfl]; rfl) H6.get.2 ?_
              refine ⟨_, _, rfl, ?_⟩
              first
                | rw [show bJ pt i j l.length = pt + ((l.length : Int) - ((j : Int) - i)) from by unfold bJ; rw [if_pos (by omega)]]
                | rw [show bJ pt i j l.length = (i : Int) + l.length from by unfold bJ; rw [if_neg (by omega), if_pos (by omega)]]
                | rw [show bJ pt i j l.length = pt from by unfold bJ; rw [if_neg (by omega), if_neg (by omega)]]
              first
                | rw [show bK mk i j l.length = mk + ((l.length : Int) - ((j : Int) - i)) from by unfold bK; rw [if_pos (by omega)]]
                | rw [show bK mk i j l.length = (i : Int) from by unfold bK; rw [if_neg (by omega), if_pos (by omega)]]
                | rw [show bK mk i j l.length = mk from by unfold bK; rw [if_neg (by omega), if_neg (by omega)]]
              refine (aB.kG (f := i + l.length) (t := i + l.length + 16 + (j - i)) (v := .slice ax (fG L i l.length).length cx) (xs := dL (fG L i l.length) i l) (by omega) (by rw [bP (by omega)]; omega) hL' (by omega) (by rw [bP (by omega)]; omega) (by omega) (by omega) ?_).d3.swap
              rw [show ((i + l.length : Nat) : Int) = (i : Int) + l.length from by omega, show ((i + l.length + 16 + (j - i) : Nat) : Int) = ((i + l.length + 16 : Nat) : Int) + ((j : Int) - i) from by omega]
              exact H6.right.right
          · (try simp only [aG] at h3)
            try (exfalso; first | contradiction | omega)
            all_goals
              refine aY (aI rfl (aY (aI rfl (aY (aU (dB rfl rfl) (fC rfl rfl (iM rfl (fun h4 => ?_) (fun h4 => ?_))))))))
              · (try simp only [aG] at h4)
                try (exfalso; first | contradiction | omega)
                all_goals
                  refine aZ (aZ (aZ (fK rfl rfl (aW rfl (aA (aj (zM (ay (ah (aU (fO (pl := #[(0, 1), (1, 1), (2, 1)]) (_) underlying202 zeroValue202 (fun w => by kernel_rfl) rfl (rfl)) (aJ (fM HL sizeOf202 rfl rfl rfl (by decide)) ?_)))))))))))
                  rintro _ w7 H7
                  refine aW rfl (aA (aj (aK (aX (aN ?_)))))
                  refine fQ (.inl rfl) results136 rfl rfl underlying202 rfl (by rw [show (prog.info? 202).map (·.size) = some 3 from by kernel_rfl]; rfl) H7.get.2 ?_
                  refine ⟨_, _, rfl, ?_⟩
                  first
                    | rw [show bJ pt i j l.length = pt + ((l.length : Int) - ((j : Int) - i)) from by unfold bJ; rw [if_pos (by omega)]]
                    | rw [show bJ pt i j l.length = (i : Int) + l.length from by unfold bJ; rw [if_neg (by omega), if_pos (by omega)]]
                    | rw [show bJ pt i j l.length = pt from by unfold bJ; rw [if_neg (by omega), if_neg (by omega)]]
                  first
                    | rw [show bK mk i j l.length = mk + ((l.length : Int) - ((j : Int) - i)) from by unfold bK; rw [if_pos (by omega)]]
                    | rw [show bK mk i j l.length = (i : Int) from by unfold bK; rw [if_neg (by omega), if_pos (by omega)]]
                    | rw [show bK mk i j l.length = mk from by unfold bK; rw [if_neg (by omega), if_neg (by omega)]]
                  refine (aB.kG (f := i + l.length) (t := i + l.length + 16 + (j - i)) (v := .slice ax (fG L i l.length).length cx) (xs := dL (fG L i l.length) i l) (by omega) (by rw [bP (by omega)]; omega) hL' (by omega) (by rw [bP (by omega)]; omega) (by omega) (by omega) ?_).d3.swap
                  rw [show ((i + l.length : Nat) : Int) = (i : Int) + l.length from by omega, show ((i + l.length + 16 + (j - i) : Nat) : Int) = ((i + l.length + 16 : Nat) : Int) + ((j : Int) - i) from by omega]
                  exact H7.right.right
              · (try simp only [aG] at h4)
                try (exfalso; first | contradiction | omega)
                all_goals
                  refine aY (aI rfl (aY (aI rfl (aY (aU (fB rfl rfl) (fC rfl rfl (aW rfl (aA (aj (aP rfl (fun h => by exfalso; (try simp only [aG] at h); first | contradiction | omega | (simp at h <;> omega)) (fun h5 => ?_)))))))))))
                  (try simp only [aG] at h5)
                  refine ay (ah (aI rfl (aU (jg underlying23 rfl) (aI rfl (aI rfl (aI rfl (aU (je rfl rfl (by omega)) (aU (je rfl rfl (by omega)) (aU (je rfl rfl (by omega)) (aU (fB rfl rfl) (aW rfl (aA (aj (aP rfl (fun h => by exfalso; (try simp only [aG] at h); first | contradiction | omega | (simp at h <;> omega)) (fun h6 => ?_)))))))))))))))
                  (try simp only [aG] at h6)
                  refine aO (aH (aj (ay (ah (aI rfl (aI rfl (dH rfl func121 (nO HL.swap) ?_)))))))
                  rintro u w8 H8
                  obtain ⟨au, cu, hu, _⟩ := (H8.aT).form
                  subst hu
                  refine aI rfl (aI rfl (aU (oP underlying23 sizeOf21 rfl rfl rfl (by omega)) (dH rfl func59 (kW H8 (fun W HW => jc.cut HW.aT (i := i) (j := j) (by omega) (by omega)) (by simp; omega)) ?_)))
                  rintro d w9 H9
                  have HC := H9.swap.right
                  obtain ⟨ad, cd, hd, _⟩ := (HC.aT).form
                  subst hd
                  refine aI rfl (dH rfl func59 (kW HC hr.under.under.under (by omega)) ?_)
                  rintro s w10 qL
                  obtain ⟨ai, ci, hs, _⟩ := (qL.aT).form
                  subst hs
                  refine aU (fO (pl := #[(0, 1), (1, 1), (2, 1)]) (fU i (.slice ad ((L.drop i).take (j - i)).length cd) (.slice ai l.length ci)) underlying202 zeroValue202 (fun w => by kernel_rfl) rfl (by kernel_rfl)) (iw (uY qL zeroValue202) ?_)
                  rintro _ Gq ⟨b11, rfl, sD⟩
                  refine aJ (dD (cs := fU i (.slice ad ((L.drop i).take (j - i)).length cd) (.slice ai l.length ci)) sD sizeOf202 rfl rfl rfl rfl (jR rfl rfl)) ?_
                  rintro _ w12 vV
                  refine aA (aj (ay (ah (aI rfl (aI rfl (aI rfl (aU (jg underlying23 rfl) (dH rfl func171 (Gp vV.r4 (by omega) (by omega)) ?_))))))))
                  rintro _ O7 ⟨x, xQ⟩
                  obtain ⟨ax, cx, hx, _⟩ := (xQ.swap.aT).form
                  subst hx
                  refine aA (aj (ay (ah (aI rfl (bQ rfl (bC 3 underlying208 rfl sizeOf3 rfl (eu underlying3 rfl xQ.get.2 rfl (aI rfl (aI rfl (aU (je rfl rfl (by omega)) (aU (dG rfl rfl (by omega)) (bQ rfl (bC 3 underlying208 rfl sizeOf3 rfl (aJ (fM xQ sizeOf3 rfl rfl rfl (by rw [iY]; decide)) ?_))))))))))))))
                  rintro _ O8 zN
                  rw [yu] at zN
                  have Zl := zN.get.2
                  refine aA (aj (ay ?_))
                  refine lI (n := 11) [0, 1, 2, 3, 4, 5, 6, 7, 8, 9, 10] (fun W => W.heap[p]? = some (.cells (dS (.slice ax (fG L i l.length).length cx) i ((i + l.length + 16 : Nat) + ((j : Int) - i)) pt mk) 208 (0, 0))) (by kernel_rfl) (by kernel_rfl) rfl ?_
                  have hS0 : (fun W => W.heap[p]? = some (.cells (dS (.slice ax (fG L i l.length).length cx) i ((i + l.length + 16 : Nat) + ((j : Int) - i)) pt mk) 208 (0, 0))) (O8.drew) := Zl
                  have PY := zN.drew
                  refine gV 0 rfl hS0 rfl (iZ 1 rfl hS0 rfl (dV 2 rfl hS0 1 underlying208 rfl sizeOf23 rfl (iy 3 rfl hS0 (fun W hW => iQ underlying23 rfl hW rfl) (gV 4 rfl hS0 rfl (iZ 5 rfl hS0 rfl (dV 6 rfl hS0 2 underlying208 rfl sizeOf3 rfl (iy 7 rfl hS0 (fun W hW => iQ underlying3 rfl hW rfl) (iR 8 rfl hS0 (fun _ => oP underlying23 sizeOf21 rfl rfl rfl (by omega)) (gV 9 rfl hS0 rfl (jr 10 rfl (wG (i := i) (m := l) PY.swap (hr _ PY.right.right.right.right.right.right) underlying23 (by kernel_rfl) rfl rfl (by omega)) ?_))))))))))
                  rintro _ Sv ⟨rfl, xE⟩
                  have HS := xE.swap
                  refine Md (by kernel_rfl) ?_
                  refine nJ (aj (ay (ah (aI rfl (bQ rfl (bC 2 underlying208 rfl sizeOf3 rfl (eu underlying3 rfl HS.get.2 rfl (aI rfl (aU (jg underlying23 rfl) (aU (dG rfl rfl (by omega)) (bQ rfl (bC 2 underlying208 rfl sizeOf3 rfl (aJ (fM HS sizeOf3 rfl rfl rfl (by rw [iY]; decide)) ?_)))))))))))))
                  rintro _ w16 rV
                  rw [vC] at rV
                  refine aA (aj (ay (bf (ay (ah (aI rfl (bQ rfl (bC 4 underlying208 rfl sizeOf3 rfl (eu underlying3 rfl rV.get.2 rfl (aI rfl (aU (fB rfl rfl) (aW rfl (aA (aj (aP rfl (fun h7 => ?_) (fun h7 => ?_))))))))))))))))
                  · (try simp only [aG] at h7)
                    try (exfalso; first | contradiction | omega)
                    all_goals
                      refine ah (aI rfl (bQ rfl (bC 4 underlying208 rfl sizeOf3 rfl (eu underlying3 rfl rV.get.2 rfl (aI rfl (aU (jg underlying23 rfl) (aI rfl (aI rfl (aU (je rfl rfl (by omega)) (aU (je rfl rfl (by omega)) (aU (dG rfl rfl (by omega)) (bQ rfl (bC 4 underlying208 rfl sizeOf3 rfl (aJ (fM rV sizeOf3 rfl rfl rfl (by rw [iY]; decide)) ?_))))))))))))))
                      rintro _ UF zO
                      rw [tu] at zO
                      refine aA (aH (aj (ay (bf (ay (ah (aI rfl (bQ rfl (bC 5 underlying208 rfl sizeOf3 rfl (eu underlying3 rfl zO.get.2 rfl (aI rfl (aU (fB rfl rfl) (aW rfl (aA (aj (aP rfl (fun h8 => ?_) (fun h8 => ?_)))))))))))))))))
                      · (try simp only [aG] at h8)
                        try (exfalso; first | contradiction | omega)
                        all_goals
                          refine ah (aI rfl (bQ rfl (bC 5 underlying208 rfl sizeOf3 rfl (eu underlying3 rfl zO.get.2 rfl (aI rfl (aU (jg underlying23 rfl) (aI rfl (aI rfl (aU (je rfl rfl (by omega)) (aU (je rfl rfl (by omega)) (aU (dG rfl rfl (by omega)) (bQ rfl (bC 5 underlying208 rfl sizeOf3 rfl (aJ (fM zO sizeOf3 rfl rfl rfl (by rw [iY]; decide)) ?_))))))))))))))
                          rintro _ Tz Bd
                          rw [kX] at Bd
                          refine aA (aH (aj (ay ?_)))
                          have pF := Bd.Ii
                          refine ah (aU (bV underlying202 rfl sizeOf202 rfl rfl pF.get.2) (aJ (dD (cs := fU i (.slice ad ((L.drop i).take (j - i)).length cd) (.slice ai l.length ci)) pF.r6 sizeOf202 rfl rfl rfl rfl (jR rfl rfl)) ?_))
                          rintro _ Sz xk
                          refine aW rfl (aA (aj (aK ?_)))
                          refine fQ (.inl rfl) results136 rfl rfl underlying202 rfl (by rw [show (prog.info? 202).map (·.size) = some 3 from by kernel_rfl]; rfl) xk.get.2 ?_
                          refine ⟨_, _, rfl, ?_⟩
                          first
                            | rw [show bJ pt i j l.length = pt + ((l.length : Int) - ((j : Int) - i)) from by unfold bJ; rw [if_pos (by omega)]]
                            | rw [show bJ pt i j l.length = (i : Int) + l.length from by unfold bJ; rw [if_neg (by omega), if_pos (by omega)]]
                            | rw [show bJ pt i j l.length = pt from by unfold bJ; rw [if_neg (by omega), if_neg (by omega)]]
                          first
                            | rw [show bK mk i j l.length = mk + ((l.length : Int) - ((j : Int) - i)) from by unfold bK; rw [if_pos (by omega)]]
                            | rw [show bK mk i j l.length = (i : Int) from by unfold bK; rw [if_neg (by omega), if_pos (by omega)]]
                            | rw [show bK mk i j l.length = mk from by unfold bK; rw [if_neg (by omega), if_neg (by omega)]]
                          refine (aB.kG (f := i + l.length) (t := i + l.length + 16 + (j - i)) (v := .slice ax (fG L i l.length).length cx) (xs := dL (fG L i l.length) i l) (by omega) (by rw [bP (by omega)]; omega) hL' (by omega) (by rw [bP (by omega)]; omega) (by omega) (by omega) ?_).d3.swap
                          rw [show ((i + l.length : Nat) : Int) = (i : Int) + l.length from by omega, show ((i + l.length + 16 + (j - i) : Nat) : Int) = ((i + l.length + 16 : Nat) : Int) + ((j : Int) - i) from by omega]
                          exact xk.right.right
                      · (try simp only [aG] at h8)
                        try (exfalso; first | contradiction | omega)
                        all_goals
                          refine ay (ah (aI rfl (bQ rfl (bC 5 underlying208 rfl sizeOf3 rfl (eu underlying3 rfl zO.get.2 rfl (aI rfl (aU (fB rfl rfl) (aW rfl (aA (aj (aP rfl (fun h9 => ?_) (fun h9 => ?_))))))))))))
                          · (try simp only [aG] at h9)
                            try (exfalso; first | contradiction | omega)
                            all_goals
                              refine ah (aI rfl (aI rfl (bQ rfl (bC 5 underlying208 rfl sizeOf3 rfl (aJ (fM zO sizeOf3 rfl rfl rfl (by rw [iY]; decide)) ?_)))))
                              rintro _ SA yJ
                              rw [kX] at yJ
                              refine aA (aH (aj (ay ?_)))
                              have pF := yJ.Ii
                              refine ah (aU (bV underlying202 rfl sizeOf202 rfl rfl pF.get.2) (aJ (dD (cs := fU i (.slice ad ((L.drop i).take (j - i)).length cd) (.slice ai l.length ci)) pF.r6 sizeOf202 rfl rfl rfl rfl (jR rfl rfl)) ?_))
                              rintro _ TA pF
                              refine aW rfl (aA (aj (aK ?_)))
                              refine fQ (.inl rfl) results136 rfl rfl underlying202 rfl (by rw [show (prog.info? 202).map (·.size) = some 3 from by kernel_rfl]; rfl) pF.get.2 ?_
                              refine ⟨_, _, rfl, ?_⟩
                              first
                                | rw [show bJ pt i j l.length = pt + ((l.length : Int) - ((j : Int) - i)) from by unfold bJ; rw [if_pos (by omega)]]
                                | rw [show bJ pt i j l.length = (i : Int) + l.length from by unfold bJ; rw [if_neg (by omega), if_pos (by omega)]]
                                | rw [show bJ pt i j l.length = pt from by unfold bJ; rw [if_neg (by omega), if_neg (by omega)]]
                              first
                                | rw [show bK mk i j l.length = mk + ((l.length : Int) - ((j : Int) - i)) from by unfold bK; rw [if_pos (by omega)]]
                                | rw [show bK mk i j l.length = (i : Int) from by unfold bK; rw [if_neg (by omega), if_pos (by omega)]]
                                | rw [show bK mk i j l.length = mk from by unfold bK; rw [if_neg (by omega), if_neg (by omega)]]
                              refine (aB.kG (f := i + l.length) (t := i + l.length + 16 + (j - i)) (v := .slice ax (fG L i l.length).length cx) (xs := dL (fG L i l.length) i l) (by omega) (by rw [bP (by omega)]; omega) hL' (by omega) (by rw [bP (by omega)]; omega) (by omega) (by omega) ?_).d3.swap
                              rw [show ((i + l.length : Nat) : Int) = (i : Int) + l.length from by omega, show ((i + l.length + 16 + (j - i) : Nat) : Int) = ((i + l.length + 16 : Nat) : Int) + ((j : Int) - i) from by omega]
                              exact pF.right.right
                          · (try simp only [aG] at h9)
                            try (exfalso; first | contradiction | omega)
                            all_goals
                              refine aO (aH (aj (ay ?_)))
                              have pF := zO.Ii
                              refine ah (aU (bV underlying202 rfl sizeOf202 rfl rfl pF.get.2) (aJ (dD (cs := fU i (.slice ad ((L.drop i).take (j - i)).length cd) (.slice ai l.length ci)) pF.r6 sizeOf202 rfl rfl rfl rfl (jR rfl rfl)) ?_))
                              rintro _ Xh J6
                              refine aW rfl (aA (aj (aK ?_)))
                              refine fQ (.inl rfl) results136 rfl rfl underlying202 rfl (by rw [show (prog.info? 202).map (·.size) = some 3 from by kernel_rfl]; rfl) J6.get.2 ?_
                              refine ⟨_, _, rfl, ?_⟩
                              first
                                | rw [show bJ pt i j l.length = pt + ((l.length : Int) - ((j : Int) - i)) from by unfold bJ; rw [if_pos (by omega)]]
                                | rw [show bJ pt i j l.length = (i : Int) + l.length from by unfold bJ; rw [if_neg (by omega), if_pos (by omega)]]
                                | rw [show bJ pt i j l.length = pt from by unfold bJ; rw [if_neg (by omega), if_neg (by omega)]]
                              first
                                | rw [show bK mk i j l.length = mk + ((l.length : Int) - ((j : Int) - i)) from by unfold bK; rw [if_pos (by omega)]]
                                | rw [show bK mk i j l.length = (i : Int) from by unfold bK; rw [if_neg (by omega), if_pos (by omega)]]
                                | rw [show bK mk i j l.length = mk from by unfold bK; rw [if_neg (by omega), if_neg (by omega)]]
                              refine (aB.kG (f := i + l.length) (t := i + l.length + 16 + (j - i)) (v := .slice ax (fG L i l.length).length cx) (xs := dL (fG L i l.length) i l) (by omega) (by rw [bP (by omega)]; omega) hL' (by omega) (by rw [bP (by omega)]; omega) (by omega) (by omega) ?_).d3.swap
                              rw [show ((i + l.length : Nat) : Int) = (i : Int) + l.length from by omega, show ((i + l.length + 16 + (j - i) : Nat) : Int) = ((i + l.length + 16 : Nat) : Int) + ((j : Int) - i) from by omega]
                              exact J6.right.right
                  · (try simp only [aG] at h7)
                    try (exfalso; first | contradiction | omega)
                    all_goals
                      refine ay (ah (aI rfl (bQ rfl (bC 4 underlying208 rfl sizeOf3 rfl (eu underlying3 rfl rV.get.2 rfl (aI rfl (aU (o8 rfl rfl) (aW rfl (aA (aj (aP rfl (fun h10 => ?_) (fun h10 => ?_))))))))))))
                      · (try simp only [aG] at h10)
                        try (exfalso; first | contradiction | omega)
                        all_goals
                          refine ah (aI rfl (aI rfl (aI rfl (aU (jg underlying23 rfl) (aU (dG rfl rfl (by omega)) (bQ rfl (bC 4 underlying208 rfl sizeOf3 rfl (aJ (fM rV sizeOf3 rfl rfl rfl (by rw [iY]; decide)) ?_))))))))
                          rintro _ PZ vY
                          rw [tu] at vY
                          refine aA (aH (aj (ay (bf (ay (ah (aI rfl (bQ rfl (bC 5 underlying208 rfl sizeOf3 rfl (eu underlying3 rfl vY.get.2 rfl (aI rfl (aU (fB rfl rfl) (aW rfl (aA (aj (aP rfl (fun h11 => ?_) (fun h11 => ?_)))))))))))))))))
                          · (try simp only [aG] at h11)
                            try (exfalso; first | contradiction | omega)
                            all_goals
                              refine ah (aI rfl (bQ rfl (bC 5 underlying208 rfl sizeOf3 rfl (eu underlying3 rfl vY.get.2 rfl (aI rfl (aU (jg underlying23 rfl) (aI rfl (aI rfl (aU (je rfl rfl (by omega)) (aU (je rfl rfl (by omega)) (aU (dG rfl rfl (by omega)) (bQ rfl (bC 5 underlying208 rfl sizeOf3 rfl (aJ (fM vY sizeOf3 rfl rfl rfl (by rw [iY]; decide)) ?_))))))))))))))
                              rintro _ YP SB
                              rw [kX] at SB
                              refine aA (aH (aj (ay ?_)))
                              have pF := SB.Ii
                              refine ah (aU (bV underlying202 rfl sizeOf202 rfl rfl pF.get.2) (aJ (dD (cs := fU i (.slice ad ((L.drop i).take (j - i)).length cd) (.slice ai l.length ci)) pF.r6 sizeOf202 rfl rfl rfl rfl (jR rfl rfl)) ?_))
                              rintro _ Xi IZ
                              refine aW rfl (aA (aj (aK ?_)))
                              refine fQ (.inl rfl) results136 rfl rfl underlying202 rfl (by rw [show (prog.info? 202).map (·.size) = some 3 from by kernel_rfl]; rfl) IZ.get.2 ?_
                              refine ⟨_, _, rfl, ?_⟩
                              first
                                | rw [show bJ pt i j l.length = pt + ((l.length : Int) - ((j : Int) - i)) from by unfold bJ; rw [if_pos (by omega)]]
                                | rw [show bJ pt i j l.length = (i : Int) + l.length from by unfold bJ; rw [if_neg (by omega), if_pos (by omega)]]
                                | rw [show bJ pt i j l.length = pt from by unfold bJ; rw [if_neg (by omega), if_neg (by omega)]]
                              first
                                | rw [show bK mk i j l.length = mk + ((l.length : Int) - ((j : Int) - i)) from by unfold bK; rw [if_pos (by omega)]]
                                | rw [show bK mk i j l.length = (i : Int) from by unfold bK; rw [if_neg (by omega), if_pos (by omega)]]
                                | rw [show bK mk i j l.length = mk from by unfold bK; rw [if_neg (by omega), if_neg (by omega)]]
                              refine (aB.kG (f := i + l.length) (t := i + l.length + 16 + (j - i)) (v := .slice ax (fG L i l.length).length cx) (xs := dL (fG L i l.length) i l) (by omega) (by rw [bP (by omega)]; omega) hL' (by omega) (by rw [bP (by omega)]; omega) (by omega) (by omega) ?_).d3.swap
                              rw [show ((i + l.length : Nat) : Int) = (i : Int) + l.length from by omega, show ((i + l.length + 16 + (j - i) : Nat) : Int) = ((i + l.length + 16 : Nat) : Int) + ((j : Int) - i) from by omega]
                              exact IZ.right.right
                          · (try simp only [aG] at h11)
                            try (exfalso; first | contradiction | omega)
                            all_goals
                              refine ay (ah (aI rfl (bQ rfl (bC 5 underlying208 rfl sizeOf3 rfl (eu underlying3 rfl vY.get.2 rfl (aI rfl (aU (fB rfl rfl) (aW rfl (aA (aj (aP rfl (fun h12 => ?_) (fun h12 => ?_))))))))))))
                              · (try simp only [aG] at h12)
                                try (exfalso; first | contradiction | omega)
                                all_goals
                                  refine ah (aI rfl (aI rfl (bQ rfl (bC 5 underlying208 rfl sizeOf3 rfl (aJ (fM vY sizeOf3 rfl rfl rfl (by rw [iY]; decide)) ?_)))))
                                  rintro _ YQ MI
                                  rw [kX] at MI
                                  refine aA (aH (aj (ay ?_)))
                                  have pF := MI.Ii
                                  refine ah (aU (bV underlying202 rfl sizeOf202 rfl rfl pF.get.2) (aJ (dD (cs := fU i (.slice ad ((L.drop i).take (j - i)).length cd) (.slice ai l.length ci)) pF.r6 sizeOf202 rfl rfl rfl rfl (jR rfl rfl)) ?_))
                                  rintro _ YR Ih
                                  refine aW rfl (aA (aj (aK ?_)))
                                  refine fQ (.inl rfl) results136 rfl rfl underlying202 rfl (by rw [show (prog.info? 202).map (·.size) = some 3 from by kernel_rfl]; rfl) Ih.get.2 ?_
                                  refine ⟨_, _, rfl, ?_⟩
                                  first
                                    | rw [show bJ pt i j l.length = pt + ((l.length : Int) - ((j : Int) - i)) from by unfold bJ; rw [if_pos (by omega)]]
                                    | rw [show bJ pt i j l.length = (i : Int) + l.length from by unfold bJ; rw [if_neg (by omega), if_pos (by omega)]]
                                    | rw [show bJ pt i j l.length = pt from by unfold bJ; rw [if_neg (by omega), if_neg (by omega)]]
                                  first
                                    | rw [show bK mk i j l.length = mk + ((l.length : Int) - ((j : Int) - i)) from by unfold bK; rw [if_pos (by omega)]]
                                    | rw [show bK mk i j l.length = (i : Int) from by unfold bK; rw [if_neg (by omega), if_pos (by omega)]]
                                    | rw [show bK mk i j l.length = mk from by unfold bK; rw [if_neg (by omega), if_neg (by omega)]]
                                  refine (aB.kG (f := i + l.length) (t := i + l.length + 16 + (j - i)) (v := .slice ax (fG L i l.length).length cx) (xs := dL (fG L i l.length) i l) (by omega) (by rw [bP (by omega)]; omega) hL' (by omega) (by rw [bP (by omega)]; omega) (by omega) (by omega) ?_).d3.swap
                                  rw [show ((i + l.length : Nat) : Int) = (i : Int) + l.length from by omega, show ((i + l.length + 16 + (j - i) : Nat) : Int) = ((i + l.length + 16 : Nat) : Int) + ((j : Int) - i) from by omega]
                                  exact Ih.right.right
                              · (try simp only [aG] at h12)
                                try (exfalso; first | contradiction | omega)
                                all_goals
                                  refine aO (aH (aj (ay ?_)))
                                  have pF := vY.Ii
                                  refine ah (aU (bV underlying202 rfl sizeOf202 rfl rfl pF.get.2) (aJ (dD (cs := fU i (.slice ad ((L.drop i).take (j - i)).length cd) (.slice ai l.length ci)) pF.r6 sizeOf202 rfl rfl rfl rfl (jR rfl rfl)) ?_))
                                  rintro _ YS SC
                                  refine aW rfl (aA (aj (aK ?_)))
                                  refine fQ (.inl rfl) results136 rfl rfl underlying202 rfl (by rw [show (prog.info? 202).map (·.size) = some 3 from by kernel_rfl]; rfl) SC.get.2 ?_
                                  refine ⟨_, _, rfl, ?_⟩
                                  first
                                    | rw [show bJ pt i j l.length = pt + ((l.length : Int) - ((j : Int) - i)) from by unfold bJ; rw [if_pos (by omega)]]
                                    | rw [show bJ pt i j l.length = (i : Int) + l.length from by unfold bJ; rw [if_neg (by omega), if_pos (by omega)]]
                                    | rw [show bJ pt i j l.length = pt from by unfold bJ; rw [if_neg (by omega), if_neg (by omega)]]
                                  first
                                    | rw [show bK mk i j l.length = mk + ((l.length : Int) - ((j : Int) - i)) from by unfold bK; rw [if_pos (by omega)]]
                                    | rw [show bK mk i j l.length = (i : Int) from by unfold bK; rw [if_neg (by omega), if_pos (by omega)]]
                                    | rw [show bK mk i j l.length = mk from by unfold bK; rw [if_neg (by omega), if_neg (by omega)]]
                                  refine (aB.kG (f := i + l.length) (t := i + l.length + 16 + (j - i)) (v := .slice ax (fG L i l.length).length cx) (xs := dL (fG L i l.length) i l) (by omega) (by rw [bP (by omega)]; omega) hL' (by omega) (by rw [bP (by omega)]; omega) (by omega) (by omega) ?_).d3.swap
                                  rw [show ((i + l.length : Nat) : Int) = (i : Int) + l.length from by omega, show ((i + l.length + 16 + (j - i) : Nat) : Int) = ((i + l.length + 16 : Nat) : Int) + ((j : Int) - i) from by omega]
                                  exact SC.right.right
                      · (try simp only [aG] at h10)
                        try (exfalso; first | contradiction | omega)
                        all_goals
                          refine aO (aH (aj (ay (bf (ay (ah (aI rfl (bQ rfl (bC 5 underlying208 rfl sizeOf3 rfl (eu underlying3 rfl rV.get.2 rfl (aI rfl (aU (fB rfl rfl) (aW rfl (aA (aj (aP rfl (fun h13 => ?_) (fun h13 => ?_)))))))))))))))))
                          · (try simp only [aG] at h13)
                            try (exfalso; first | contradiction | omega)
                            all_goals
                              refine ah (aI rfl (bQ rfl (bC 5 underlying208 rfl sizeOf3 rfl (eu underlying3 rfl rV.get.2 rfl (aI rfl (aU (jg underlying23 rfl) (aI rfl (aI rfl (aU (je rfl rfl (by omega)) (aU (je rfl rfl (by omega)) (aU (dG rfl rfl (by omega)) (bQ rfl (bC 5 underlying208 rfl sizeOf3 rfl (aJ (fM rV sizeOf3 rfl rfl rfl (by rw [iY]; decide)) ?_))))))))))))))
                              rintro _ Zm Ob
                              rw [kX] at Ob
                              refine aA (aH (aj (ay ?_)))
                              have pF := Ob.Ii
                              refine ah (aU (bV underlying202 rfl sizeOf202 rfl rfl pF.get.2) (aJ (dD (cs := fU i (.slice ad ((L.drop i).take (j - i)).length cd) (.slice ai l.length ci)) pF.r6 sizeOf202 rfl rfl rfl rfl (jR rfl rfl)) ?_))
                              rintro _ YT J7
                              refine aW rfl (aA (aj (aK ?_)))
                              refine fQ (.inl rfl) results136 rfl rfl underlying202 rfl (by rw [show (prog.info? 202).map (·.size) = some 3 from by kernel_rfl]; rfl) J7.get.2 ?_
                              refine ⟨_, _, rfl, ?_⟩
                              first
                                | rw [show bJ pt i j l.length = pt + ((l.length : Int) - ((j : Int) - i)) from by unfold bJ; rw [if_pos (by omega)]]
                                | rw [show bJ pt i j l.length = (i : Int) + l.length from by unfold bJ; rw [if_neg (by omega), if_pos (by omega)]]
                                | rw [show bJ pt i j l.length = pt from by unfold bJ; rw [if_neg (by omega), if_neg (by omega)]]
                              first
                                | rw [show bK mk i j l.length = mk + ((l.length : Int) - ((j : Int) - i)) from by unfold bK; rw [if_pos (by omega)]]
                                | rw [show bK mk i j l.length = (i : Int) from by unfold bK; rw [if_neg (by omega), if_pos (by omega)]]
                                | rw [show bK mk i j l.length = mk from by unfold bK; rw [if_neg (by omega), if_neg (by omega)]]
                              refine (aB.kG (f := i + l.length) (t := i + l.length + 16 + (j - i)) (v := .slice ax (fG L i l.length).length cx) (xs := dL (fG L i l.length) i l) (by omega) (by rw [bP (by omega)]; omega) hL' (by omega) (by rw [bP (by omega)]; omega) (by omega) (by omega) ?_).d3.swap
                              rw [show ((i + l.length : Nat) : Int) = (i : Int) + l.length from by omega, show ((i + l.length + 16 + (j - i) : Nat) : Int) = ((i + l.length + 16 : Nat) : Int) + ((j : Int) - i) from by omega]
                              exact J7.right.right
                          · (try simp only [aG] at h13)
                            try (exfalso; first | contradiction | omega)
                            all_goals
                              refine ay (ah (aI rfl (bQ rfl (bC 5 underlying208 rfl sizeOf3 rfl (eu underlying3 rfl rV.get.2 rfl (aI rfl (aU (fB rfl rfl) (aW rfl (aA (aj (aP rfl (fun h14 => ?_) (fun h14 => ?_))))))))))))
                              · (try simp only [aG] at h14)
                                try (exfalso; first | contradiction | omega)
                                all_goals
                                  refine ah (aI rfl (aI rfl (bQ rfl (bC 5 underlying208 rfl sizeOf3 rfl (aJ (fM rV sizeOf3 rfl rfl rfl (by rw [iY]; decide)) ?_)))))
                                  rintro _ Wv J8
                                  rw [kX] at J8
                                  refine aA (aH (aj (ay ?_)))
                                  have pF := J8.Ii
                                  refine ah (aU (bV underlying202 rfl sizeOf202 rfl rfl pF.get.2) (aJ (dD (cs := fU i (.slice ad ((L.drop i).take (j - i)).length cd) (.slice ai l.length ci)) pF.r6 sizeOf202 rfl rfl rfl rfl (jR rfl rfl)) ?_))
                                  rintro _ w32 EI
                                  refine aW rfl (aA (aj (aK ?_)))
                                  refine fQ (.inl rfl) results136 rfl rfl underlying202 rfl (by rw [show (prog.info? 202).map (·.size) = some 3 from by kernel_rfl]; rfl) EI.get.2 ?_
                                  refine ⟨_, _, rfl, ?_⟩
                                  first
                                    | rw [show bJ pt i j l.length = pt + ((l.length : Int) - ((j : Int) - i)) from by unfold bJ; rw [if_pos (by omega)]]
                                    | rw [show bJ pt i j l.length = (i : Int) + l.length from by unfold bJ; rw [if_neg (by omega), if_pos (by omega)]]
                                    | rw [show bJ pt i j l.length = pt from by unfold bJ; rw [if_neg (by omega), if_neg (by omega)]]
                                  first
                                    | rw [show bK mk i j l.length = mk + ((l.length : Int) - ((j : Int) - i)) from by unfold bK; rw [if_pos (by omega)]]
                                    | rw [show bK mk i j l.length = (i : Int) from by unfold bK; rw [if_neg (by omega), if_pos (by omega)]]
                                    | rw [show bK mk i j l.length = mk from by unfold bK; rw [if_neg (by omega), if_neg (by omega)]]
                                  refine (aB.kG (f := i + l.length) (t := i + l.length + 16 + (j - i)) (v := .slice ax (fG L i l.length).length cx) (xs := dL (fG L i l.length) i l) (by omega) (by rw [bP (by omega)]; omega) hL' (by omega) (by rw [bP (by omega)]; omega) (by omega) (by omega) ?_).d3.swap
                                  rw [show ((i + l.length : Nat) : Int) = (i : Int) + l.length from by omega, show ((i + l.length + 16 + (j - i) : Nat) : Int) = ((i + l.length + 16 : Nat) : Int) + ((j : Int) - i) from by omega]
                                  exact EI.right.right
                              · (try simp only [aG] at h14)
                                try (exfalso; first | contradiction | omega)
                                all_goals
                                  refine aO (aH (aj (ay ?_)))
                                  have pF := rV.Ii
                                  refine ah (aU (bV underlying202 rfl sizeOf202 rfl rfl pF.get.2) (aJ (dD (cs := fU i (.slice ad ((L.drop i).take (j - i)).length cd) (.slice ai l.length ci)) pF.r6 sizeOf202 rfl rfl rfl rfl (jR rfl rfl)) ?_))
                                  rintro _ YU KL
                                  refine aW rfl (aA (aj (aK ?_)))
                                  refine fQ (.inl rfl) results136 rfl rfl underlying202 rfl (by rw [show (prog.info? 202).map (·.size) = some 3 from by kernel_rfl]; rfl) KL.get.2 ?_
                                  refine ⟨_, _, rfl, ?_⟩
                                  first
                                    | rw [show bJ pt i j l.length = pt + ((l.length : Int) - ((j : Int) - i)) from by unfold bJ; rw [if_pos (by omega)]]
                                    | rw [show bJ pt i j l.length = (i : Int) + l.length from by unfold bJ; rw [if_neg (by omega), if_pos (by omega)]]
                                    | rw [show bJ pt i j l.length = pt from by unfold bJ; rw [if_neg (by omega), if_neg (by omega)]]
                                  first
                                    | rw [show bK mk i j l.length = mk + ((l.length : Int) - ((j : Int) - i)) from by unfold bK; rw [if_pos (by omega)]]
                                    | rw [show bK mk i j l.length = (i : Int) from by unfold bK; rw [if_neg (by omega), if_pos (by omega)]]
                                    | rw [show bK mk i j l.length = mk from by unfold bK; rw [if_neg (by omega), if_neg (by omega)]]
                                  refine (aB.kG (f := i + l.length) (t := i + l.length + 16 + (j - i)) (v := .slice ax (fG L i l.length).length cx) (xs := dL (fG L i l.length) i l) (by omega) (by rw [bP (by omega)]; omega) hL' (by omega) (by rw [bP (by omega)]; omega) (by omega) (by omega) ?_).d3.swap
                                  rw [show ((i + l.length : Nat) : Int) = (i : Int) + l.length from by omega, show ((i + l.length + 16 + (j - i) : Nat) : Int) = ((i + l.length + 16 : Nat) : Int) + ((j : Int) - i) from by omega]
                                  exact KL.right.right
end
end Go.Proofs.YtddekefihgejoaaGreatDoor
end
