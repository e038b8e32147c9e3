import Derived.Test.YtpdeedplgmbopaaGreatDoorZ4
import Derived.Test.YtpdeedplgmbopaaGreatDoorZ6
set_option linter.unusedSimpArgs false
set_option linter.unusedVariables false
/- Texts of mine, joined, their names in short: Same Apply BufP Ring Ring2 Ring3. -/
section
namespace Go.Proofs.YtpdeedplgmbopaaGreatDoor
open Go.RowKit
open _root_.Go.Proofs.Tryz
theorem VK (w : World) (v1 v2 : Value) (l1 l2 : List Int) (h1 : gB w .i32 v1 l1) (h2 : gB w .i32 v2 l2) :
  jf prog 77 #[v1, v2] w fun v w' => v = .bool (l1 == l2) ∧ zZ w w' := by
 obtain ⟨a1, c1, rfl, hc1, hm1, hr1⟩ := h1.open
 obtain ⟨a2, c2, rfl, hc2, hm2, hr2⟩ := h2.open
 clear h1 h2
 refine qo func77 ntmps77 ?_
 refine kH O (aI (bI O (aV (jd ah O) (bW O (aV (jd ah O) (aV (fF O O) (iW O (fun h1 => ?_) (fun h1 => ?_))))))))
 ·(try simp only [Z] at h1)
  refine jS O (aC (dL results77 O ?_))
  exact ⟨by rw [show (l1 == l2) = false from beq_eq_false_iff_ne.2 (by rintro rfl; exact h1 rfl)], zZ.refl _⟩
 ·(try simp only [Z] at h1)
  refine gy (aI (kH O (bf ?_)))
  refine iy [(0, _), (1, _)] (fun (k : Nat) => [(5, .int .i64 (k : Int))]) (fun (k : Nat) W => k ≤ l1.length ∧ l1.length = l2.length ∧ l1.take k = l2.take k ∧ zZ w W) (fun (k : Nat) => l1.length - k) (0) sG lH ⟨by omega, by omega, by simp, zZ.refl _⟩ ?_
  rintro k w1 ⟨hk, hl, ht, hD⟩
  dsimp only [List.cons_append, List.nil_append]
  refine aI (bI O (bW O (aV (jd ah O) (aV (gG O O) (iW O (fun h2 => ?_) (fun h2 => ?_))))))
  ·(try simp only [Z] at h2)
   refine gy (aI (bf (aI ?_)))
   obtain ⟨b1, o1, rfl, hq1⟩ := hr1 (by omega)
   obtain ⟨b2, o2, rfl, hq2⟩ := hr2 (by omega)
   have hc1 := hq1 k (by omega)
   have hc2 := hq2 k (by omega)
   refine uD (n := 9) [0, 1, 2, 3, 4, 5, 6, 7, 8] (fun W => W.heap = w1.heap) (by kernel_rfl) (by kernel_rfl) O ?_
   have hS0 : (fun W => W.heap = w1.heap) (w1.drew) := rfl
   refine fD 0 O hS0 O (fD 1 O hS0 O (dS 2 O hS0 (fun _ => dI ah bP O O (by omega)) ?_))
   refine fM 3 O hS0 (fun W hW => dW (bV bC O) O (by rw [ER (hW.trans hD.heap)]; simpa using hc1)) ?_
   refine fD 4 O hS0 O (fD 5 O hS0 O (dS 6 O hS0 (fun _ => dI ah bP O O (by omega)) ?_))
   refine fM 7 O hS0 (fun W hW => dW (bV bC O) O (by rw [ER (hW.trans hD.heap)]; simpa using hc2)) ?_
   refine dS 8 O hS0 (fun _ => fF O O) (lJ (aU (bg O (fun h3 => ?_) (fun h3 => ?_))))
   ·(try simp only [Z] at h3)
    refine jS O (aN (aC (aC (aN (aC (dL results77 O ?_))))))
    exact ⟨by rw [show (l1 == l2) = false from beq_eq_false_iff_ne.2 (by rintro rfl; exact h3 rfl)], hD.drew⟩
   ·(try simp only [Z] at h3)
    refine bU (aH (aU (aF (bW O (aV (fH O O (by omega)) (gW O (bT ?_)))))))
    refine dN (k + 1) ?_ ?_ ?_ ?_
    ·exact lH
    ·exact sG
    ·(try dsimp only)
     first | done | exact ⟨by omega, by omega, Kr (by omega) (by omega) ht (by simpa using h3), hD.drew⟩
    ·(try dsimp only); omega
  ·(try simp only [Z] at h2)
   refine dR (aP (aP (bH (aU (jS O (dL results77 O ?_))))))
   exact ⟨by rw [show (l1 == l2) = true from beq_iff_eq.2 (by rw [List.take_of_length_le (by omega), List.take_of_length_le (by omega)] at ht; exact ht)], hD⟩
theorem VL (w : World) (v1 v2 : Value) (l : List Int) (h1 : gB w .i32 v1 l) (h2 : gB w .i32 v2 l) :
    jf prog 77 #[v1, v2] w fun v w' => v = .bool true ∧ zZ w w' := by
  have := VK w v1 v2 l l h1 h2
  simpa using this
end Go.Proofs.YtpdeedplgmbopaaGreatDoor
end
section
namespace Go.Proofs.YtpdeedplgmbopaaGreatDoor
open Go.RowKit
section
variable {w0 w : World} {F : HP} {p : Nat} {L : List Int} {pt mk a : Int} {d i : Value} {dl il : List Int}
end
end Go.Proofs.YtpdeedplgmbopaaGreatDoor
end
section
namespace Go.Proofs.YtpdeedplgmbopaaGreatDoor
open Go.RowKit
open _root_.Go.Proofs.Tryz
def nP (L : List Int) (i j : Int) (l : List Int) : Int := if i < 0 ∨ L.length < i ∨ j < i ∨ L.length < j then 70 else if 1024 < L.length - (j - i) + l.length then 3 else 0
def nY (L : List Int) (i j : Int) (l : List Int) : List Int := if nP L i j l = 0 then L.take i.toNat ++ l ++ L.drop j.toNat else L
def wH (L : List Int) (pt i j : Int) (l : List Int) : Int := if nP L i j l = 0 then iP pt i j l.length else pt
def yc (L : List Int) (mk i j : Int) (l : List Int) : Int := if nP L i j l = 0 then iV mk i j l.length else mk
def xK (L : List Int) (i j : Int) (l : List Int) : Int := if nP L i j l = 0 then i else 0
def qB (L : List Int) (i j : Int) (l : List Int) : List Int := if nP L i j l = 0 then (L.drop i.toNat).take (j - i).toNat else []
def qC (L : List Int) (i j : Int) (l : List Int) : List Int := if nP L i j l = 0 then l else []
section
variable {w0 w : World} {F : HP} {p : Nat} {L : List Int} {pt mk : Int} {v d s : Value} {l dl il : List Int} {i j a x : Int}
theorem Gl (H : V w0 w (jF p L pt mk • F)) (hr : jO w0 F .i32 v l) :
    jf prog 202 #[.pointer (some ⟨p, 0, none⟩), .int .i64 i, .int .i64 j, v] w fun v' w' => ∃ d s, v' = .tuple #[.agg #[.int .i64 (xK L i j l), d, s], .int .i64 (nP L i j l)] ∧
      V w0 w' (je 21 .i32 d (qB L i j l) • je 21 .i32 s (qC L i j l) • jF p (nY L i j l) (wH L pt i j l) (yc L mk i j l) • F) := by
  unfold xK nY wH yc qB qC
  by_cases h1 : i < 0 ∨ L.length < i ∨ j < i ∨ L.length < j
  · have e : nP L i j l = 70 := by unfold nP; rw [if_pos h1]
    simp only [e, show ¬ (70 : Int) = 0 from by decide, if_false]
    exact (NI H hr h1).mono fun v' w' h => ⟨_, _, h.1, (h.2.J9 none).J9 none⟩
  · have h2 : 0 ≤ i ∧ i ≤ j ∧ j ≤ L.length := by omega
    by_cases h3 : 1024 < L.length - (j - i) + l.length
    · have e : nP L i j l = 3 := by unfold nP; rw [if_neg h1, if_pos h3]
      simp only [e, show ¬ (3 : Int) = 0 from by decide, if_false]
      exact (LQ H hr h2 h3).mono fun v' w' h => ⟨_, _, h.1, (h.2.J9 none).J9 none⟩
    · have e : nP L i j l = 0 := by unfold nP; rw [if_neg h1, if_neg h3]
      simp only [e, if_true]
      obtain ⟨i', rfl⟩ := Int.eq_ofNat_of_zero_le h2.1
      obtain ⟨j', rfl⟩ := Int.eq_ofNat_of_zero_le (show 0 ≤ j by omega)
      have hij : i' ≤ j' ∧ j' ≤ L.length := by omega
      have := OJ (i := i') (j := j') H hr hij (by omega)
      simpa only [Int.toNat_natCast, show ((j' : Int) - (i' : Int)).toNat = j' - i' from by omega, lX] using this
def smE (L : List Int) (x : Int) : Int := if x < -1 ∨ L.length < x then 70 else 0
def smM (L : List Int) (mk x : Int) : Int := if x < -1 ∨ L.length < x then mk else x
theorem NJ (H : V w0 w (jF p L pt mk • F)) : jf prog 207 #[.pointer (some ⟨p, 0, none⟩), .int .i64 x] w fun v' w' => v' = .int .i64 (smE L x) ∧ V w0 w' (jF p L pt (smM L mk x) • F) := by
 unfold smE smM
 have hL : L.length ≤ 1024 := by obtain ⟨a, c, xs, f, t, h1, h2, h3, h4, h5, h6, h7, hc1, hc2, hl, H1⟩ := H.buf; exact h4
 refine qo func207 ntmps207 ?_
 refine kH O (aI (bf (bI O (dX O func131 (uV H) ?_))))
 rintro _ _ ⟨rfl, rfl⟩
 refine fO O (oL (bI O (aV (gG O O) (jY O (fun h1 => ?_) (fun h1 => ?_)))))
 ·(try simp only [Z] at h1)
  try (exfalso; first | contradiction | omega)
  all_goals
   refine bK (bK (bK (bK (jQ O O (fO O (ET (jS O (aN (aC (dL results207 O ?_))))))))))
   exact ⟨by rw [if_pos (by omega)], by rw [if_pos (by omega)]; exact H⟩
 ·(try simp only [Z] at h1)
  try (exfalso; first | contradiction | omega)
  all_goals
   refine bF (bW O (bF (bW O (bF (dX O func132 (sH H) ?_)))))
   rintro _ w2 ⟨rfl, hD2⟩
   have HD2 := H.zh hD2
   refine bF (aV (gK O O) (iH O O (fO O (bg O (fun h2 => ?_) (fun h2 => ?_)))))
   ·(try simp only [Z] at h2)
    try (exfalso; first | contradiction | omega)
    all_goals
     refine jS O (aN (aC (dL results207 O ?_)))
     exact ⟨by rw [if_pos (by omega)], by rw [if_pos (by omega)]; exact HD2⟩
   ·(try simp only [Z] at h2)
    try (exfalso; first | contradiction | omega)
    all_goals
     refine bU (aH (aU (aI ?_)))
     obtain ⟨aki, akj, akk, f_p, t_p, afm, afn, afo, afp, afq, afr, akl, akm, akn, ai4, afs⟩ := (HD2).buf
     refine aF (jU O O (dV O (bM 5 bZ O aj O (aQ (ig 5 (l' := [_, _, _, _, _, _]) afs aj O O (by first | rfl | assumption) O O) ?_))))
     rintro _ w4 H4
     refine iR (jS O (dL results207 O ?_))
     exact ⟨by rw [if_neg (by omega)], by rw [if_neg (by omega)]; exact V.yO afm afn afo afp afq afr (by omega) H4.f2.f2⟩
def swE (mk : Int) : Int := if mk < 0 then 6 else 0
def swP (pt mk : Int) : Int := if mk < 0 then pt else mk
def swM (pt mk : Int) : Int := if mk < 0 then mk else pt
theorem QY (H : V w0 w (jF p L pt mk • F)) : jf prog 129 #[.pointer (some ⟨p, 0, none⟩)] w fun v' w' => ∃ q, v' = .pointer (some ⟨q, 0, none⟩) ∧ V w0 w' (jF q L pt mk • jF p L pt mk • F) := by
 refine jE func129 ntmps129 ?_
 refine kH O (aI (bI O (dX O func131 (uV H) ?_)))
 rintro _ _ ⟨rfl, rfl⟩
 refine iR (oL (gy (aI ?_)))
 obtain ⟨aki, akj, akk, f_p, t_p, afm, afn, afo, afp, afq, afr, akl, akm, akn, ai4, afs⟩ := (H).buf
 refine aF (mX O O (aV (dH bZ O sizeOf197 O O (afs).get.2) (kV (iO (l := [_, _, _, _, _, _]) afs zeroValue197 O) ?_)))
 rintro _ w3 ⟨b3, rfl, H3⟩
 refine aQ (dM 0 (l' := [_, _, _, _, _, _]) (us := [_, _, _, _, _, _]) H3 sizeOf197 O O O (aJ (bG (by first | rfl | exact Rd.one ((H3.f3).aO)) (aJ (aJ (aJ (aJ dn)))))) O O) ?_
 rintro _ w4 H4
 refine uS O (dV O (bM 1 bZ O bD O (eH ah O (H4.f2).get.2 O (dX O func71 (qy H4 (fun W HW => (HW.f3).aO) (by omega)) ?_))))
 rintro u5 w5 H5
 refine bM 1 bZ O bD O (aQ (ig 1 (l' := [_, _, _, _, _, _]) H5.f2 bD O O (by first | rfl | exact Rd.one ((H5).aO)) O O) ?_)
 rintro _ w6 H6
 refine iR (jS O (dL results129 O ?_))
 exact ⟨_, O, (V.yO afm afn afo afp afq afr (by omega) (V.yO afm afn afo afp afq afr (by omega) H6.f4.f4.f4.f4).f2.f3.f2).f2⟩
def G6 (L : List Int) (a : Int) (dl : List Int) : Bool := decide ((dl.length : Int) ≤ L.length - a) && ((L.drop a.toNat).take dl.length == dl)
def Gy (L : List Int) (a : Int) (dl il : List Int) : Int := if a < 0 ∨ L.length < a then 70 else if G6 L a dl then nP L a (a + dl.length) il else 71
def G9 (L : List Int) (a : Int) (dl il : List Int) : List Int := if Gy L a dl il = 0 then nY L a (a + dl.length) il else L
def Yr (L : List Int) (pt a : Int) (dl il : List Int) : Int := if Gy L a dl il = 0 then wH L pt a (a + dl.length) il else pt
def Yt (L : List Int) (mk a : Int) (dl il : List Int) : Int := if Gy L a dl il = 0 then yc L mk a (a + dl.length) il else mk
theorem Ji (H : V w0 w (jF p L pt mk • F)) (hd : jO w0 F .i32 d dl) (hi : jO w0 F .i32 s il) : jf prog 209 #[.pointer (some ⟨p, 0, none⟩), .agg #[.int .i64 a, d, s]] w fun v' w' =>
    v' = .int .i64 (Gy L a dl il) ∧ V w0 w' (jF p (G9 L a dl il) (Yr L pt a dl il) (Yt L mk a dl il) • F) := by
  have hL : L.length ≤ 1024 := by obtain ⟨a, c, xs, f, t, h1, h2, h3, h4, h5, h6, h7, hc1, hc2, hl, H1⟩ := H.buf; exact h4
  refine qo func209 ntmps209 ?_
  refine jg (kV (kK (l := [_, _, _]) H O O) ?_)
  rintro _ w1 ⟨b1, rfl, H1⟩
  refine tX O (bf (bI O (dX O func131 (uV H1.f2) ?_)))
  rintro _ _ ⟨rfl, rfl⟩
  refine fO O (oL (aI ?_))
  have ED := H1.drew
  have jh := V.kp (ED.f2.f2)
  refine nG [1, 5] jh O (dJ 0 O jh 0 bn O aj O (fM 1 O jh (fun W hW => fQ aA O ((Kp.h hW)).get.2 O) (dS 2 O jh (fun _ => gG O O) ?_)))
  refine zn 3 O O (by kernel_rfl) (by kernel_rfl) jh (gV O) (fun h1 => ?_) (fun h1 => ?_)
  · (try simp only [Z] at h1)
    try (exfalso; first | contradiction | omega)
    all_goals
      refine eG 4 O O O O (by kernel_rfl) (by kernel_rfl) jh (gV O) ?_
      refine eG 5 O O O O (by kernel_rfl) (by kernel_rfl) jh (gV O) ?_
      refine eG 6 O O O O (by kernel_rfl) (by kernel_rfl) jh (gV O) ?_
      refine eG 7 O O O O (by kernel_rfl) (by kernel_rfl) jh (gV O) ?_
      refine eG 8 O O O O (by kernel_rfl) (by kernel_rfl) jh (gV O) ?_
      refine dS 9 O jh (fun _ => xY O O) (dS 10 O jh (fun _ => aW O) (lJ (aU (ET (jS O (aN (aC (dL results209 O ?_))))))))
      have e : Gy L a dl il = 70 := by unfold Gy; rw [if_pos (by omega)]
      unfold G9 Yr Yt
      rw [e]
      exact ⟨O, ED.right⟩
  · (try simp only [Z] at h1)
    try (exfalso; first | contradiction | omega)
    all_goals
      refine dh 4 O O O (by kernel_rfl) (by kernel_rfl) jh (fun _ => pq 0 bn O O aj (by decide) O rfl) (gV O) ?_
      refine jP 5 O O O (by kernel_rfl) (by kernel_rfl) jh (by decide) (fun W hW => dW (bV aA O) O (iI ((Kp.h hW)).get.2 O)) (gV O) ?_
      refine dh 6 O O O (by kernel_rfl) (by kernel_rfl) jh (fun _ => uy O) (gV O) ?_
      refine yN 7 O O O (by kernel_rfl) (uU (wF O func132 O O) (sH ED.f2)) (gV O) ?_
      rintro _ w3 ⟨rfl, hD3⟩
      have HD3 := ED.zh hD3
      have uQ := V.kp (HD3.f2.f2)
      refine dK uQ (fun W hW => (Kp.h hW).f2.f2) ?_
      refine dh 8 O O O (by kernel_rfl) (by kernel_rfl) uQ (fun _ => gK O O) (gV O) ?_
      refine dS 9 O uQ (fun _ => uz O O) (dS 10 O uQ (fun _ => aW O) (lJ (aU (bg O (fun h2 => ?_) (fun h2 => ?_)))))
      · (try simp only [Z] at h2)
        try (exfalso; first | contradiction | omega)
        all_goals
          refine jS O (aN (aC (dL results209 O ?_)))
          have e : Gy L a dl il = 70 := by unfold Gy; rw [if_pos (by omega)]
          unfold G9 Yr Yt
          rw [e]
          exact ⟨O, HD3.right⟩
      · (try simp only [Z] at h2)
        try (exfalso; first | contradiction | omega)
        all_goals
          refine aI ?_
          have VN := HD3.drew
          have xM := V.kp (VN.f2.f2)
          refine nG [1, 6, 13, 15, 17, 22] xM O (dJ 0 O xM 1 bn O bD O (fM 1 O xM (fun W hW => fQ ah O ((Kp.h hW)).get.2 O) (dS 2 O xM (fun _ => gZ (hd _ (VN.right.right)) ah O) (fD 3 O xM O (dJ 5 O xM 0 bn O aj O (fM 6 O xM (fun W hW => fQ aA O ((Kp.h hW)).get.2 O) (ny 4 O (wM O func132 (sH VN.f2)) ?_)))))))
          rintro _ w4 ⟨rfl, hD4⟩
          have HD4 := VN.zh hD4
          have oH := V.kp (HD4.f2.f2)
          refine dK oH (fun W hW => (Kp.h hW).f2.f2) ?_
          refine dS 7 O oH (fun _ => jJ O O (by omega)) (dS 8 O oH (fun _ => gK O O) ?_)
          refine zn 9 O O (by kernel_rfl) (by kernel_rfl) oH (gV O) (fun h3 => ?_) (fun h3 => ?_)
          · (try simp only [Z] at h3)
            try (exfalso; first | contradiction | omega)
            all_goals
              refine eG 10 O O O O (by kernel_rfl) (by kernel_rfl) oH (gV O) ?_
              refine eG 11 O O O O (by kernel_rfl) (by kernel_rfl) oH (gV O) ?_
              refine eG 12 O O O O (by kernel_rfl) (by kernel_rfl) oH (gV O) ?_
              refine eG 13 O O O O (by kernel_rfl) (by kernel_rfl) oH (gV O) ?_
              refine eG 14 O O O O (by kernel_rfl) (by kernel_rfl) oH (gV O) ?_
              refine eG 15 O O O O (by kernel_rfl) (by kernel_rfl) oH (gV O) ?_
              refine eG 16 O O O O (by kernel_rfl) (by kernel_rfl) oH (gV O) ?_
              refine eG 17 O O O O (by kernel_rfl) (by kernel_rfl) oH (gV O) ?_
              refine eG 18 O O O O (by kernel_rfl) (by kernel_rfl) oH (gV O) ?_
              refine eG 19 O O O O (by kernel_rfl) (by kernel_rfl) oH (gV O) ?_
              refine eG 20 O O O O (by kernel_rfl) (by kernel_rfl) oH (gV O) ?_
              refine eG 21 O O O O (by kernel_rfl) (by kernel_rfl) oH (gV O) ?_
              refine eG 22 O O O O (by kernel_rfl) (by kernel_rfl) oH (gV O) ?_
              refine eG 23 O O O O (by kernel_rfl) (by kernel_rfl) oH (gV O) ?_
              refine eG 24 O O O O (by kernel_rfl) (by kernel_rfl) oH (gV O) ?_
              refine dS 25 O oH (fun _ => xY O O) (dS 26 O oH (fun _ => aW O) (lJ (aU (ET (jS O (aN (aC (dL results209 O ?_))))))))
              have e1 : (a + dl.length).toNat - a.toNat = dl.length := by omega
              have hf : G6 L a dl = false := by
                simp only [G6, Bool.and_eq_false_iff, decide_eq_false_iff_not, beq_eq_false_iff_ne, ne_eq]
                first
                  | (refine .inl ?_; omega)
                  | (refine .inr ?_; rw [e1] at hcond; exact hcond)
              have e : Gy L a dl il = 71 := by unfold Gy; rw [if_neg (by omega), hf]; rfl
              unfold G9 Yr Yt
              rw [e]
              exact ⟨O, HD4.right⟩
          · (try simp only [Z] at h3)
            try (exfalso; first | contradiction | omega)
            all_goals
              refine dh 10 O O O (by kernel_rfl) (by kernel_rfl) oH (fun _ => uy O) (gV O) ?_
              refine dh 12 O O O (by kernel_rfl) (by kernel_rfl) oH (fun _ => pq 0 bn O O aj (by decide) O rfl) (gV O) ?_
              refine jP 13 O O O (by kernel_rfl) (by kernel_rfl) oH (by decide) (fun W hW => dW (bV aA O) O (iI ((Kp.h hW)).get.2 O)) (gV O) ?_
              refine dh 14 O O O (by kernel_rfl) (by kernel_rfl) oH (fun _ => pq 0 bn O O aj (by decide) O rfl) (gV O) ?_
              refine jP 15 O O O (by kernel_rfl) (by kernel_rfl) oH (by decide) (fun W hW => dW (bV aA O) O (iI ((Kp.h hW)).get.2 O)) (gV O) ?_
              refine dh 16 O O O (by kernel_rfl) (by kernel_rfl) oH (fun _ => pq 1 bn O O bD (by decide) O rfl) (gV O) ?_
              refine jP 17 O O O (by kernel_rfl) (by kernel_rfl) oH (by decide) (fun W hW => dW (bV ah O) O (iI ((Kp.h hW)).get.2 O)) (gV O) ?_
              refine dh 18 O O O (by kernel_rfl) (by kernel_rfl) oH (fun _ => gZ (hd _ (HD4.right.right)) ah O) (gV O) ?_
              refine dh 19 O O O (by kernel_rfl) (by kernel_rfl) oH (fun _ => fH O O (by omega)) (gV O) ?_
              refine dh 21 O O O (by kernel_rfl) (by kernel_rfl) oH (fun _ => pq 1 bn O O bD (by decide) O rfl) (gV O) ?_
              refine jP 22 O O O (by kernel_rfl) (by kernel_rfl) oH (by decide) (fun W hW => dW (bV ah O) O (iI ((Kp.h hW)).get.2 O)) (gV O) ?_
              refine yN 11 O O O (by kernel_rfl) (uU (wF O func126 O O) (zy HD4.f2)) (gV O) ?_
              rintro u5 w5 H5
              have D8 := V.kp (H5.f3.f3.f3)
              refine dK D8 (fun W hW => (Kp.h hW).right.f2) ?_
              refine dh 20 O O O (by kernel_rfl) (by kernel_rfl) D8 (fun _ => pF ((H5).aO) ah bP O O O (by omega)) (gV O) ?_
              refine yN 23 O O O (by kernel_rfl) (uU (wF O func27 O O) (aa2 _ _ _ _ _ (gB.cut ((H5).aO) (by omega) (by omega)) (hd _ (H5.right.right.right)))) (gV O) ?_
              rintro _ w6 ⟨rfl, hD6⟩
              have HD6 := H5.zh hD6
              have jV := V.kp (HD6.f3.f3.f3)
              refine gU jV (by kernel_rfl) ?_
              refine dh 24 O O O (by kernel_rfl) (by kernel_rfl) jV (fun _ => jR O) (gV O) ?_
              refine dS 25 O jV (fun _ => uz O O) (dS 26 O jV (fun _ => aW O) (lJ (aU (bg O (fun h4 => ?_) (fun h4 => ?_)))))
              · (try simp only [Z] at h4)
                try (exfalso; first | contradiction | omega)
                all_goals
                  have hcond := h4
                  refine jS O (aN (aC (dL results209 O ?_)))
                  have e1 : (a + dl.length).toNat - a.toNat = dl.length := by omega
                  have hf : G6 L a dl = false := by
                    simp only [G6, Bool.and_eq_false_iff, decide_eq_false_iff_not, beq_eq_false_iff_ne, ne_eq]
                    first
                      | (refine .inl ?_; omega)
                      | (refine .inr ?_; rw [e1] at hcond; exact hcond)
                  have e : Gy L a dl il = 71 := by unfold Gy; rw [if_neg (by omega), hf]; rfl
                  unfold G9 Yr Yt
                  rw [e]
                  exact ⟨O, HD6.right.f2.right⟩
              · (try simp only [Z] at h4)
                try (exfalso; first | contradiction | omega)
                all_goals
                  have hcond := h4
                  refine bU (aH (aU (bI O (bM 0 bn O aj O (eH aA O (HD6.f3).get.2 O (bM 0 bn O aj O (eH aA O (HD6.f3).get.2 O (bM 1 bn O bD O (eH ah O (HD6.f3).get.2 O (aV (gZ (hd _ (HD6.right.right.right)) ah O) (aV (fH O O (by omega)) (bM 2 bn O bD O (eH ah O (HD6.f3).get.2 O (dX O func202 (Gl HD6.f2 (fun W HW => hi _ (HW.right.right))) ?_))))))))))))))
                  rintro _ w7 ⟨d7, s7, rfl, H7⟩
                  refine bW O (oZ O O (oZ O O (kV (iO (l := [_, _, _]) H7 fJ O) ?_)))
                  rintro _ w8 ⟨b8, rfl, H8⟩
                  refine aQ (dM 0 (l' := [_, _, _]) (us := [_, _, _]) H8 dB O O O (aJ (bG (by first | rfl | exact Rd.one ((H8.f2).aO)) (bG (by first | rfl | exact Rd.one ((H8.f3).aO)) dn))) O O) ?_
                  rintro _ w9 H9
                  refine fO O (bI O (fP O (dL results209 O ?_)))
                  have e1 : (a + dl.length).toNat - a.toNat = dl.length := by omega
                  have hf : G6 L a dl = true := by
                    simp only [G6, Bool.and_eq_true, decide_eq_true_eq, beq_iff_eq]
                    exact ⟨by omega, by rw [e1] at hcond; exact hcond⟩
                  have e : Gy L a dl il = nP L a (a + dl.length) il := by unfold Gy; rw [if_neg (by omega), if_pos hf]
                  refine ⟨by rw [e]; rfl, ?_⟩
                  unfold G9 Yr Yt
                  rw [e]
                  by_cases h0 : nP L a (a + dl.length) il = 0
                  · simp only [if_pos h0]; exact H9.right.right.right.f2.right.f2.right
                  · simp only [if_neg h0]
                    have H9 := H9.right.right.right.f2.right.f2.right
                    unfold nY wH yc at H9
                    simpa only [if_neg h0] using H9
end
def fU (s : List Value) (h n p : Nat) : Array Value := (Value.bool true :: (s ++ [.int .i64 h, .int .i64 n, .int .i64 p])).toArray
section
variable {s : List Value} {h n p : Nat}
theorem qW (hs : s.length = 60) : (fU s h n p).size = 64 := by simp [fU, hs]
theorem EF : (fU s h n p)[0]? = some (.bool true) := by simp [fU]
theorem SK (hs : s.length = 60) {i : Nat} (hi : i < 60) : (fU s h n p)[1 + i]? = some (s.getD i undef) := by
  simp [fU, Nat.add_comm 1 i, List.getElem?_append_left (show i < s.length by omega), List.getD_eq_getElem?_getD, show i < s.length by omega]
theorem EX (hs : s.length = 60) : (fU s h n p)[61]? = some (.int .i64 h) := by simp [fU, hs]
theorem rZ (hs : s.length = 60) : (fU s h n p)[62]? = some (.int .i64 n) := by simp [fU, hs]
theorem OQ (hs : s.length = 60) : (fU s h n p)[63]? = some (.int .i64 p) := by simp [fU, hs]
theorem QZ (hs : s.length = 60) (x : Nat) : (fU s h n p).setIfInBounds 61 (.int .i64 x) = fU s x n p := by
  apply Array.ext'; simp [fU, List.set_append, hs]
theorem Q5 (hs : s.length = 60) (x : Nat) : (fU s h n p).setIfInBounds 62 (.int .i64 x) = fU s h x p := by
  apply Array.ext'; simp [fU, List.set_append, hs]
theorem uH (hs : s.length = 60) (x : Nat) : (fU s h n p).setIfInBounds 63 (.int .i64 x) = fU s h n x := by
  apply Array.ext'; simp [fU, List.set_append, hs]
theorem EG (hs : s.length = 60) {i : Nat} (hi : i < 60) (v : Value) : (fU s h n p).setIfInBounds (1 + i) v = fU (s.set i v) h n p := by
  apply Array.ext'; simp [fU, Nat.add_comm 1 i, List.set_append, hs, hi]
end
def VO (I : Hp) (s : List Value) (h : Nat) (E : List (List Int)) : Prop := ∀ i, i < E.length → I8 I .i32 (s.getD ((h + i) % 60) undef) (E.getD i [])
def FM (s : List Value) (h : Nat) (E : List (List Int)) : HP := know (fun I => VO I s h E) fun _ _ hl hk i hi => (hk i hi).mono hl
def gY (p : Nat) (E : List (List Int)) (place : Nat) : HP := zX fun (x : List Value × Nat) =>
  fact (x.1.length = 60 ∧ x.2 < 60 ∧ E.length ≤ 60 ∧ (place < E.length ∨ place = 0) ∧ (∀ e ∈ E, e.length ≤ 1024) ∧ ∀ v ∈ x.1, v.oneCell' = true) • gJ p (.cells (fU x.1 x.2 E.length place) 207 (0, 0)) • FM x.1 x.2 E
section
variable {w0 w : World} {F : HP} {p place : Nat} {E : List (List Int)}
theorem V.ring (H : V w0 w (gY p E place • F)) : ∃ s h, s.length = 60 ∧ h < 60 ∧ E.length ≤ 60 ∧ (place < E.length ∨ place = 0) ∧ (∀ e ∈ E, e.length ≤ 1024) ∧ (∀ v ∈ s, v.oneCell' = true) ∧ V w0 w (gJ p (.cells (fU s h E.length place) 207 (0, 0)) • FM s h E • F) := by
  obtain ⟨⟨s, h⟩, H⟩ := H.qY
  obtain ⟨⟨h1, h2, h3, h4, h5, h6⟩, H⟩ := H.flat.fact
  exact ⟨s, h, h1, h2, h3, h4, h5, h6, H.flat⟩
theorem V.BZ {s : List Value} {h : Nat} (h1 : s.length = 60) (h2 : h < 60) (h3 : E.length ≤ 60) (h4 : place < E.length ∨ place = 0) (h5 : ∀ e ∈ E, e.length ≤ 1024) (h6 : ∀ v ∈ s, v.oneCell' = true) (H : V w0 w (gJ p (.cells (fU s h E.length place) 207 (0, 0)) • FM s h E • F)) : V w0 w (gY p E place • F) :=
  V.kT (s, h) (V.deep (V.oQ ⟨h1, h2, h3, h4, h5, h6⟩ H.deep))
theorem Un (H : V w0 w F) : jf prog 110 #[] w fun v w' => ∃ p, v = .pointer (some ⟨p, 0, none⟩) ∧ V w0 w' (gY p [] 0 • F) := by
  refine aaY func110 ntmps110 ?_
  refine kH O (jg (aV (qx (pl := #[(0, 1), (1, 60), (61, 1), (62, 1), (63, 1)]) (fU (List.replicate 60 (.slice none 0 0)) 0 0 0) dP zeroValue207 (fun w => by kernel_rfl) O (by kernel_rfl)) (kV (SB H O) ?_)))
  rintro _ w1 ⟨b1, rfl, H1⟩
  refine fP O (dL results110 O ?_)
  refine ⟨b1, O, V.BZ (s := List.replicate 60 (.slice none 0 0)) (h := 0) (by simp) (by omega) (by simp) (.inr O) (by simp) (by intro v hv; rw [List.eq_of_mem_replicate hv]; rfl) ?_⟩
  exact V.swap (V.BU (fun I i hi => by simp at hi) H1)
theorem nI (t : TypeId) {cs : Array Value} {fr : Nat × Nat} {m : Bool} (hb : w.heap[p]? = some (.cells cs t fr)) (h0 : cs[0]? = some (.bool m)) :
    jf prog 140 #[.pointer (some ⟨p, 0, none⟩)] w fun v w' => v = .bool (!m) ∧ w = w' := by
  refine jE func140 ntmps140 ?_
  refine kH O (bI O (aV (kU wC O O) (OB O (fun h1 => ?_))))
  (try simp only [Z] at h1)
  refine bF (bW O (bF (dV O (bF (bM 0 dP O aT O (bF (eH bJ O hb h0 (bF (aV (jR O) (iH O O (fP O (dL results140 O ?_))))))))))))
  exact ⟨O, O⟩
theorem V.He {s : List Value} {h i : Nat} (H : V w0 w (FM s h E • F)) (hi : i < E.length) : gB w .i32 (s.getD ((h + i) % 60) undef) (E.getD i []) := let ⟨I, k, hI⟩ := H.yL; (k i hi).rd hI
theorem AU {s : List Value} {h n m : Nat} {t : TypeId} {fr : Nat × Nat} {k : Nat} (hs : s.length = 60) (hh : h < 60) (hk : k < 60) (hb : w.heap[p]? = some (.cells (fU s h n m) t fr)) :
  jf prog 141 #[.pointer (some ⟨p, 0, none⟩), .int .i64 k] w fun v w' => v = s.getD ((h + k) % 60) undef ∧ zZ w w' := by
 refine qo func141 ntmps141 ?_
 refine kH O (aI ?_)
 refine uD (n := 13) [0, 1, 2, 3, 4, 5, 6, 7, 8, 9, 10, 11, 12] (fun W => W.heap = w.heap) (by kernel_rfl) (by kernel_rfl) O ?_
 have hS0 : (fun W => W.heap = w.heap) (w.drew) := rfl
 refine fD 0 O hS0 O (fD 1 O hS0 O (iG 2 O hS0 O (dJ 3 O hS0 61 dP O aj O ?_)))
 refine fM 4 O hS0 (fun W hW => fQ aA O (by rw [hW]; exact hb) (EX hs)) ?_
 refine fD 5 O hS0 O (dS 6 O hS0 (fun _ => fH O O (by omega)) ?_)
 refine dS 7 O hS0 (fun _ => ach O O (by omega) (by  omega)) ?_
 refine iG 8 O hS0 O (dJ 9 O hS0 1 dP O sizeOf205 O (dS 10 O hS0 (fun _ => D9 underlying205 bD O O (by omega)) ?_))
 refine fM 11 O hS0 (fun W hW => fQ ah O (by rw [hW]; exact hb) (by rw [show (1 + (((h : Int) + (k : Int)) % 60).toNat * 1) = 1 + (h + k) % 60 from by omega]; exact SK hs (by omega))) ?_
 refine dS 12 O hS0 (fun _ => aW O) (lJ (aU (iL (dL results141 O ?_))))
 exact ⟨O, ⟨1, O⟩⟩
theorem Uo (H : V w0 w (gY p E place • F)) : jf prog 86 #[.pointer (some ⟨p, 0, none⟩)] w fun v w' => v = .int .i64 E.length ∧ w = w' := by
  obtain ⟨s, h, hs, hh, hE, hp, hm, ho, H1⟩ := H.ring
  have hb := H1.get.2
  refine jE func86 ntmps86 ?_
  refine kH O (aI (bI O (dX O func140 (nI _ hb EF) ?_)))
  rintro _ _ ⟨rfl, rfl⟩
  refine iR (oL (gy (bI O (dV O (bM 62 dP O aj O (eH aA O hb (rZ hs) (fP O (dL results86 O ?_))))))))
  exact ⟨O, O⟩
theorem Ur {s : List Value} {u : Value} {i : Nat} (h : ∀ v ∈ s, v.oneCell' = true) (hu : u.oneCell' = true) : ∀ v ∈ s.set i u, v.oneCell' = true := by
  intro v hv
  rcases List.mem_or_eq_of_mem_set hv with hv | rfl
  · exact h v hv
  · exact hu
theorem Yu {I : Hp} {s : List Value} {h : Nat} {l : List Int} {v : Value} (hs : s.length = 60) (hh : h < 60) (hE : E.length ≤ 60) (hS : VO I s h E) (hv : I8 I .i32 v l) :
    VO I (s.set ((h + 59) % 60) v) ((h + 59) % 60) ((l :: E).take 60) := by
  intro i hi
  have al9 : i < 60 ∧ i < E.length + 1 := by simp at hi; omega
  rw [List.getD_eq_getElem?_getD (l := (l :: E).take 60), List.getElem?_take, if_pos (by omega)]
  cases i with
  | zero =>
    have e : ((h + 59) % 60 + 0) % 60 = (h + 59) % 60 := by omega
    rw [e, List.getD_eq_getElem?_getD, List.getElem?_set_self (by omega)]
    exact hv
  | succ i =>
    have e : ((h + 59) % 60 + (i + 1)) % 60 = (h + i) % 60 := by omega
    have hne : ¬ (h + 59) % 60 = (h + i) % 60 := by omega
    rw [e, List.getD_eq_getElem?_getD, List.getElem?_set_ne hne, ← List.getD_eq_getElem?_getD]
    have := hS i (by omega)
    simpa [List.getD_eq_getElem?_getD] using this
theorem Jj {v : Value} {l : List Int} (H : V w0 w (gY p E place • F)) (hr : jO w0 F .i32 v l) (hl : l.length ≤ 1024) :
    jf prog 211 #[.pointer (some ⟨p, 0, none⟩), v] w fun _ w' => V w0 w' (gY p ((l :: E).take 60) 0 • F) := by
  obtain ⟨s, h, hs, hh, hE, hp, hm, ho, H⟩ := H.ring
  have hh' : (h + 59) % 60 < 60 := by omega
  refine qo func211 ntmps211 ?_
  refine bI O (mX O O (bM 61 dP O aj O (eH aA O H.get.2 (EX hs) (aV (fH O O (by omega)) (aV (jJ O O (by omega)) ?_)))))
  refine aV (ach O O (by omega) (by  omega)) ?_
  refine dV O (bM 61 dP O aj O (aQ (lM H aj O O O (by rw [qW hs]; decide)) ?_))
  rintro _ w1 H1
  rw [show (((h : Int) + 60 - 1) % 60) = (((h + 59) % 60 : Nat) : Int) from by omega, QZ hs] at H1
  refine rW ?_
  refine uD (n := 11) [0, 1, 2, 3, 4, 5, 6, 7, 8, 9, 10] (fun W => W.heap[p]? = some (.cells (fU s ((h + 59) % 60) E.length place) 207 (0, 0))) (by kernel_rfl) (by kernel_rfl) O ?_
  have hS0 : (fun W => W.heap[p]? = some (.cells (fU s ((h + 59) % 60) E.length place) 207 (0, 0))) (w1.drew) := H1.get.2
  have H1d := H1.drew
  refine fD 0 O hS0 O (fD 1 O hS0 O (iG 2 O hS0 O (dJ 3 O hS0 61 dP O aj O (fM 4 O hS0 (fun W hW => fQ aA O hW (EX hs)) (fD 5 O hS0 O (iG 7 O hS0 O (dJ 8 O hS0 1 dP O sizeOf205 O (ny 6 O (wM O func71 (qy H1d hr.under.under (by omega))) ?_))))))))
  rintro u w2 H2
  have hS2 : (fun W => W.heap[p]? = some (.cells (fU s ((h + 59) % 60) E.length place) 207 (0, 0))) w2 := H2.swap.get.2
  refine J6 hS2 ?_
  refine dS 9 O hS2 (fun _ => D9 underlying205 bD O O (by omega)) ?_
  refine dF 10 O (by kernel_rfl) (lM H2.swap bD O O H2.aO.one (by rw [qW hs]; omega)) ?_
  rintro _ w3 H3
  rw [show (1 + ((((h + 59) % 60 : Nat) : Int)).toNat * 1) = 1 + (h + 59) % 60 from by omega, EG hs hh'] at H3
  have hs' : (s.set ((h + 59) % 60) u).length = 60 := by simp [hs]
  have ho' := Ur ho (u := u) (i := (h + 59) % 60) H2.aO.one
  refine Oy (by kernel_rfl) ?_
  refine lJ (aU (bI O (mX O O (bM 62 dP O aj O (eH aA O H3.get.2 (rZ hs') (aV (fH O O (by omega)) (aV (mW O O) (dV O (bM 62 dP O aj O (aQ (lM H3 aj O O O (by rw [qW hs']; decide)) ?_))))))))))
  rintro _ w4 H4
  rw [show min ((E.length : Int) + 1) 60 = ((min (E.length + 1) 60 : Nat) : Int) from by omega, Q5 hs'] at H4
  refine iR (aF (mX O O (bM 63 dP O aj O (aQ (lM H4 aj O O O (by rw [qW hs']; decide)) ?_))))
  rintro _ w5 H5
  rw [show (Value.int .i64 0) = .int .i64 ((0 : Nat) : Int) from rfl, uH hs'] at H5
  refine bT (oU (.inr O) results211 ?_)
  have hlen : ((l :: E).take 60).length = min (E.length + 1) 60 := by simp; omega
  refine V.BZ hs' hh' (by omega) (.inr O) ?_ ho' ?_
  · intro e he
    rcases List.mem_cons.1 (List.mem_of_mem_take he) with rfl | he
    · exact hl
    · exact hm e he
  · rw [hlen]
    exact (H5.swap.oC.QO.JD (vH (fun I a b => Yu hs hh hE a b) _)).swap
end
def Hf (E : List (List Int)) (place : Nat) (way : Int) (l : List Int) : Int × List (List Int) × Nat :=
  if way < 0 ∨ 2 < way then (1, E, place)
  else if 1024 < l.length then (3, E, place)
  else if way ≠ 0 ∧ 0 < E.length then
    if 1024 < l.length + (E.getD 0 []).length then (3, E, place)
    else (0, (if way = 1 then E.getD 0 [] ++ l else l ++ E.getD 0 []) :: E.tail, 0)
  else if way = 0 ∧ l.length = 0 then (0, E, place)
  else (0, (l :: E).take 60, 0)
theorem MX {I : Hp} {s : List Value} {h : Nat} {l : List Int} {v : Value} {E : List (List Int)} (hs : s.length = 60) (hh : h < 60) (hE : E.length ≤ 60) (h0 : 0 < E.length) (hS : VO I s h E) (hv : I8 I .i32 v l) :
    VO I (s.set h v) h (l :: E.tail) := by
  intro i hi
  have hi' : i < E.length := by simp at hi; omega
  cases i with
  | zero =>
    have e : (h + 0) % 60 = h := by omega
    rw [e, List.getD_eq_getElem?_getD, List.getElem?_set_self (by omega)]
    exact hv
  | succ i =>
    have hne : ¬ h = (h + (i + 1)) % 60 := by omega
    rw [List.getD_eq_getElem?_getD, List.getElem?_set_ne hne, ← List.getD_eq_getElem?_getD]
    have := hS (i + 1) hi'
    simpa [List.getD_eq_getElem?_getD] using this
section
variable {w0 w : World} {F : HP} {p place : Nat} {E : List (List Int)} {v : Value} {l : List Int} {way : Int}
theorem AA (h0 : 0 < E.length) (x : List Int) : (x :: E.tail).length = E.length := by simp; omega
theorem Q7 (H : V w0 w (gY p E place • F)) (hr : jO w0 F .i32 v l) (hw : way < 0 ∨ 2 < way) :
    jf prog 199 #[.pointer (some ⟨p, 0, none⟩), .int .i64 way, v] w fun v' w' => v' = .int .i64 1 ∧ V w0 w' (gY p E place • F) := by
  obtain ⟨s, h, hs, hh, hE, hp, hm, ho, H1⟩ := H.ring
  have hb := H1.get.2
  refine EU func199 ntmps199 ?_
  refine kH O (aI (bI O (dX O func140 (nI _ hb EF) ?_)))
  rintro _ _ ⟨rfl, rfl⟩
  refine iR (oL (gy (aI (bI O (aV (gG O O) (jY O (fun h1 => ?_) (fun h1 => ?_)))))))
  · (try simp only [Z] at h1)
    refine bK (bK (jQ O O (iR (ET (jS O (aC (dL qV O ?_)))))))
    exact ⟨O, H⟩
  · (try simp only [Z] at h1)
    refine bF (bW O (bF (aV (gK O O) (iH O O (iR (wcA O (fun h2 => ?_)))))))
    (try simp only [Z] at h2)
    refine jS O (aC (dL qV O ?_))
    exact ⟨O, H⟩
theorem OT (H : V w0 w (gY p E place • F)) (hr : jO w0 F .i32 v l) (hw : 0 ≤ way ∧ way ≤ 2) (hl : 1024 < l.length) :
    jf prog 199 #[.pointer (some ⟨p, 0, none⟩), .int .i64 way, v] w fun v' w' => v' = .int .i64 3 ∧ V w0 w' (gY p E place • F) := by
  obtain ⟨s, h, hs, hh, hE, hp, hm, ho, H1⟩ := H.ring
  have hb := H1.get.2
  obtain ⟨a, c, rfl, _, _, _⟩ := (hr w H.right).open
  refine EU func199 ntmps199 ?_
  refine kH O (aI (bI O (dX O func140 (nI _ hb EF) ?_)))
  rintro _ _ ⟨rfl, rfl⟩
  refine iR (oL (gy (aI (bI O (aV (gG O O) (xsB O (fun h1 => ?_)))))))
  (try simp only [Z] at h1)
  refine bF (bW O (bF (aV (gK O O) (iH O O (iR (Yk O (fun h2 => ?_)))))))
  (try simp only [Z] at h2)
  refine gy (bI O (aV (fF O O) (jY O (fun h3 => ?_) (fun h3 => ?_))))
  · (try simp only [Z] at h3)
    refine bF (bW O (bF (dV O (bF (bM 62 dP O aj O (bF (eH aA O hb (rZ hs) (bF (aV (gK O O) (jQ O O (tX O (bf (bI O (aV (jd ah O) (aV (gK O O) (xsA O (fun h4 => ?_)))))))))))))))))
    (try simp only [Z] at h4)
    refine bK (bK (ni (ni (ni (ni (ni (ni (ni (bK (jQ O O (fO O (ET (jS O (aN (aC (dL qV O ?_))))))))))))))))
    exact ⟨O, H⟩
  · (try simp only [Z] at h3)
    refine bK (bK (bK (bK (bK (iH O O (tX O (bf (bI O (aV (jd ah O) (aV (gK O O) (xsA O (fun h5 => ?_))))))))))))
    (try simp only [Z] at h5)
    refine bK (bK (ni (ni (ni (ni (ni (ni (ni (bK (jQ O O (fO O (ET (jS O (aN (aC (dL qV O ?_))))))))))))))))
    exact ⟨O, H⟩
theorem Kv (H : V w0 w (gY p E place • F)) (hr : jO w0 F .i32 v l) (hl : l.length = 0) :
    jf prog 199 #[.pointer (some ⟨p, 0, none⟩), .int .i64 0, v] w fun v' w' => v' = .int .i64 0 ∧ V w0 w' (gY p E place • F) := by
  obtain ⟨s, h, hs, hh, hE, hp, hm, ho, H1⟩ := H.ring
  have hb := H1.get.2
  obtain ⟨a, c, rfl, _, _, _⟩ := (hr w H.right).open
  refine EU func199 ntmps199 ?_
  refine kH O (aI (bI O (dX O func140 (nI _ hb EF) ?_)))
  rintro _ _ ⟨rfl, rfl⟩
  refine iR (oL (gy (aI (bI O (aV (gG O O) (xsB O (fun h1 => ?_)))))))
  (try simp only [Z] at h1)
  refine bF (bW O (bF (aV (gK O O) (iH O O (iR (Yk O (fun h2 => ?_)))))))
  (try simp only [Z] at h2)
  refine gy (bI O (aV (fF O O) (xsB O (fun h3 => ?_))))
  (try simp only [Z] at h3)
  refine bK (bK (bK (bK (bK (iH O O (tX O (bf (bI O (aV (jd ah O) (aV (gK O O) (xsB O (fun h4 => ?_))))))))))))
  (try simp only [Z] at h4)
  refine bF (bW O (bF (bW O (bK (bK (bK (bK (bK (bK (bK (bF (iH O O (iH O O (fO O (oL (bI O (aV (fB O O) (xsA O (fun h5 => ?_)))))))))))))))))))
  (try simp only [Z] at h5)
  refine bF (bW O (bF (aV (jd ah O) (bF (aV (fB O O) (jQ O O (fO O (wcA O (fun h6 => ?_)))))))))
  (try simp only [Z] at h6)
  refine jS O (aN (aC (dL qV O ?_)))
  exact ⟨O, H⟩
theorem Q8 (H : V w0 w (gY p E place • F)) (hr : jO w0 F .i32 v l) (hw : 0 ≤ way ∧ way ≤ 2) (hl : l.length ≤ 1024) (hj : way = 0 ∨ E.length = 0) (hn : ¬ (way = 0 ∧ l.length = 0)) :
  jf prog 199 #[.pointer (some ⟨p, 0, none⟩), .int .i64 way, v] w fun v' w' => v' = .int .i64 0 ∧ V w0 w' (gY p ((l :: E).take 60) 0 • F) := by
 obtain ⟨s, h, hs, hh, hE, hp, hm, ho, H1⟩ := H.ring
 have hb := H1.get.2
 obtain ⟨a, c, hv, _, _, _⟩ := (hr w H.right).open
 subst hv
 refine EU func199 ntmps199 ?_
 refine kH O (aI (bI O (dX O func140 (nI _ hb EF) ?_)))
 rintro _ _ ⟨rfl, rfl⟩
 refine iR (oL (gy (aI (bI O (aV (gG O O) (xsB O (fun h1 => ?_)))))))
 (try simp only [Z] at h1)
 refine bF (bW O (bF (aV (gK O O) (iH O O (iR (Yk O (fun h2 => ?_)))))))
 (try simp only [Z] at h2)
 refine gy (bI O (aV (fF O O) (jY O (fun h3 => ?_) (fun h3 => ?_))))
 ·(try simp only [Z] at h3)
  refine bF (bW O (bF (dV O (bF (bM 62 dP O aj O (bF (eH aA O hb (rZ hs) (bF ?_))))))))
  refine aV (SA (gK O O) (by first | (rw [decide_eq_true_eq]; omega) | (rw [decide_eq_false_iff_not]; omega) | (rw [beq_iff_eq]; omega) | (rw [beq_eq_false_iff_ne]; omega) | (rw [bne_iff_ne]; omega) | (rw [bne_eq_false_iff_eq]; omega) | (simp; done) | (simp; omega))) ?_
  refine jQ O O (tX O (bf (bI O (aV (jd ah O) (aV (gK O O) (xsB O (fun h4 => ?_)))))))
  (try simp only [Z] at h4)
  refine bF (bW O (bF (bW O (bK (bK (bK (bK (bK (bK (bK (bF (iH O O (iH O O (fO O (oL (bI O (aV (fB O O) (jY O (fun h5 => ?_) (fun h5 => ?_)))))))))))))))))))
  ·(try simp only [Z] at h5)
   exfalso; first | contradiction | omega
  ·(try simp only [Z] at h5)
   refine bK (bK (bK (iH O O (fO O (oL (bI O (aV (jR O) (fO O (bg O (fun h9 => ?_) (fun h9 => ?_))))))))))
   ·(try simp only [Z] at h9)
    refine aF (jU O O (dX O func211 (Jj H hr hl) ?_))
    rintro _ OG H7
    obtain ⟨s2, h2, hs2, hh2, hE2, hp2, hm2, ho2, H2⟩ := H7.ring
    refine bT (aH (aU (bI O (dV O (bM 63 dP O aj O (aQ (lM H2 aj O O O (by rw [qW hs2]; decide)) ?_))))))
    rintro _ OM H8
    rw [show (Value.int .i64 0) = .int .i64 ((0 : Nat) : Int) from rfl, uH hs2] at H8
    refine iR (jS O (dL qV O ?_))
    exact ⟨O, V.BZ hs2 hh2 hE2 hp2 hm2 ho2 H8⟩
   ·(try simp only [Z] at h9)
    exfalso; first | contradiction | omega
 ·(try simp only [Z] at h3)
  refine bK (bK (bK (bK (bK (iH O O (tX O (bf (bI O (aV (jd ah O) (aV (gK O O) (xsB O (fun h11 => ?_))))))))))))
  (try simp only [Z] at h11)
  refine bF (bW O (bF (bW O (bK (bK (bK (bK (bK (bK (bK (bF (iH O O (iH O O (fO O (oL (bI O (aV (fB O O) (jY O (fun h12 => ?_) (fun h12 => ?_)))))))))))))))))))
  ·(try simp only [Z] at h12)
   refine bF (bW O (bF (aV (jd ah O) (bF (aV (fB O O) (jQ O O (fO O (Yk O (fun h13 => ?_)))))))))
   (try simp only [Z] at h13)
   refine bI O (aV (jR O) (fO O (bg O (fun h14 => ?_) (fun h14 => ?_))))
   ·(try simp only [Z] at h14)
    refine aF (jU O O (dX O func211 (Jj H hr hl) ?_))
    rintro _ w26 H7
    obtain ⟨s2, h2, hs2, hh2, hE2, hp2, hm2, ho2, H2⟩ := H7.ring
    refine bT (aH (aU (bI O (dV O (bM 63 dP O aj O (aQ (lM H2 aj O O O (by rw [qW hs2]; decide)) ?_))))))
    rintro _ w27 H8
    rw [show (Value.int .i64 0) = .int .i64 ((0 : Nat) : Int) from rfl, uH hs2] at H8
    refine iR (jS O (dL qV O ?_))
    exact ⟨O, V.BZ hs2 hh2 hE2 hp2 hm2 ho2 H8⟩
   ·(try simp only [Z] at h14)
    exfalso; first | contradiction | omega
  ·(try simp only [Z] at h12)
   exfalso; first | contradiction | omega
theorem Q9 (H : V w0 w (gY p E place • F)) (hr : jO w0 F .i32 v l) (hw : 0 < way ∧ way ≤ 2) (hl : l.length ≤ 1024) (hE0 : 0 < E.length) (hj : 1024 < l.length + (E.getD 0 []).length) :
    jf prog 199 #[.pointer (some ⟨p, 0, none⟩), .int .i64 way, v] w fun v' w' => v' = .int .i64 3 ∧ V w0 w' (gY p E place • F) := by
  obtain ⟨s, h, hs, hh, hE, hp, hm, ho, H1⟩ := H.ring
  have hb := H1.get.2
  obtain ⟨a, c, hv, _, _, _⟩ := (hr w H.right).open
  subst hv
  have hm0 : (E.getD 0 []).length ≤ 1024 := hm _ (by rw [List.getD_eq_getElem?_getD, List.getElem?_eq_getElem hE0]; simp)
  refine EU func199 ntmps199 ?_
  refine kH O (aI (bI O (dX O func140 (nI _ hb EF) ?_)))
  rintro _ _ ⟨rfl, rfl⟩
  refine iR (oL (gy (aI (bI O (aV (gG O O) (xsB O (fun h1 => ?_)))))))
  (try simp only [Z] at h1)
  refine bF (bW O (bF (aV (gK O O) (iH O O (iR (Yk O (fun h2 => ?_)))))))
  (try simp only [Z] at h2)
  refine gy (bI O (aV (fF O O) (xsA O (fun h3 => ?_))))
  (try simp only [Z] at h3)
  refine bF (bW O (bF (dV O (bF (bM 62 dP O aj O (bF (eH aA O hb (rZ hs) (bF ?_))))))))
  refine aV (Dl (gK O O) (by first | (rw [decide_eq_true_eq]; omega) | (rw [decide_eq_false_iff_not]; omega) | (rw [beq_iff_eq]; omega) | (rw [beq_eq_false_iff_ne]; omega) | (rw [bne_iff_ne]; omega) | (rw [bne_eq_false_iff_eq]; omega) | (simp; done) | (simp; omega))) ?_
  refine jQ O O (tX O (bf (bI O (aV (jd ah O) (aV (gK O O) (xsB O (fun h4 => ?_)))))))
  (try simp only [Z] at h4)
  refine bF (bW O (bF (bW O (bF (bW O (bF (aV (jd ah O) (bF (bW O (bF (dX O func141 (AU (k := 0) hs hh (by omega) hb) ?_)))))))))))
  rintro _ w2 ⟨rfl, hD⟩
  obtain ⟨a0, c0, e0, _, _, _⟩ := ((H1.zh hD).right.He (i := 0) hE0).open
  rw [e0]
  refine bF (aV (jd ah O) (bF (aV (jJ O O (by omega)) (bF ?_))))
  refine aV (Dl (gK O O) (by first | (rw [decide_eq_true_eq]; omega) | (rw [decide_eq_false_iff_not]; omega) | (rw [beq_iff_eq]; omega) | (rw [beq_eq_false_iff_ne]; omega) | (rw [bne_iff_ne]; omega) | (rw [bne_eq_false_iff_eq]; omega) | (simp; done) | (simp; omega))) ?_
  refine bF (jQ O O (iH O O (fO O (ET (jS O (aN (aC (dL qV O ?_))))))))
  exact ⟨O, H.zh hD⟩
theorem OU (H : V w0 w (gY p E place • F)) (hr : jO w0 F .i32 v l) (hw : 0 < way ∧ way ≤ 2) (hE0 : 0 < E.length) (hj : l.length + (E.getD 0 []).length ≤ 1024) :
    jf prog 199 #[.pointer (some ⟨p, 0, none⟩), .int .i64 way, v] w fun v' w' => v' = .int .i64 0 ∧ V w0 w' (gY p ((if way = 1 then E.getD 0 [] ++ l else l ++ E.getD 0 []) :: E.tail) 0 • F) := by
  obtain ⟨s, h, hs, hh, hE, hp, hm, ho, H⟩ := H.ring
  have hb := H.get.2
  obtain ⟨a, c, hv, _, _, _⟩ := (hr w H.right.right).open
  subst hv
  have hm0 : (E.getD 0 []).length ≤ 1024 := hm _ (by rw [List.getD_eq_getElem?_getD, List.getElem?_eq_getElem hE0]; simp)
  have alN := SK (h := h) (n := E.length) (p := place) hs (i := (h + 0) % 60) (by omega)
  refine EU func199 ntmps199 ?_
  refine kH O (aI (bI O (dX O func140 (nI _ hb EF) ?_)))
  rintro _ _ ⟨rfl, rfl⟩
  refine iR (oL (gy (aI (bI O (aV (gG O O) (xsB O (fun h1 => ?_)))))))
  (try simp only [Z] at h1)
  refine bF (bW O (bF (aV (gK O O) (iH O O (iR (Yk O (fun h2 => ?_)))))))
  (try simp only [Z] at h2)
  refine gy (bI O (aV (fF O O) (xsA O (fun h3 => ?_))))
  (try simp only [Z] at h3)
  refine bF (bW O (bF (dV O (bF (bM 62 dP O aj O (bF (eH aA O hb (rZ hs) (bF ?_))))))))
  refine aV (Dl (gK O O) (by first | (rw [decide_eq_true_eq]; omega) | (rw [decide_eq_false_iff_not]; omega) | (rw [beq_iff_eq]; omega) | (rw [beq_eq_false_iff_ne]; omega) | (rw [bne_iff_ne]; omega) | (rw [bne_eq_false_iff_eq]; omega) | (simp; done) | (simp; omega))) ?_
  refine jQ O O (tX O (bf (bI O (aV (jd ah O) (aV (gK O O) (xsB O (fun h4 => ?_)))))))
  (try simp only [Z] at h4)
  refine bF (bW O (bF (bW O (bF (bW O (bF (aV (jd ah O) (bF (bW O (bF (dX O func141 (AU (k := 0) hs hh (by omega) hb) ?_)))))))))))
  rintro _ w2 ⟨rfl, hD⟩
  obtain ⟨a0, c0, e0, _, _, _⟩ := ((H.zh hD).right.He (i := 0) hE0).open
  rw [e0]
  have pG := H.zh hD
  refine bF (aV (jd ah O) (bF (aV (jJ O O (by omega)) (bF ?_))))
  refine aV (SA (gK O O) (by first | (rw [decide_eq_true_eq]; omega) | (rw [decide_eq_false_iff_not]; omega) | (rw [beq_iff_eq]; omega) | (rw [beq_eq_false_iff_ne]; omega) | (rw [bne_iff_ne]; omega) | (rw [bne_eq_false_iff_eq]; omega) | (simp; done) | (simp; omega))) ?_
  refine bF (jQ O O (iH O O (fO O (oL (bI O (aV (fB O O) (xsB O (fun h5 => ?_))))))))
  (try simp only [Z] at h5)
  refine bK (bK (bK (iH O O (fO O (oL (bI O (aV (jR O) (fO O (Yk O (fun h6 => ?_))))))))))
  (try simp only [Z] at h6)
  refine bI O (aV (fB O O) (fO O (bg O (fun h7 => ?_) (fun h7 => ?_))))
  · (try simp only [Z] at h7)
    have hw1 : way = 1 := by omega
    refine uD (n := 14) [0, 1, 2, 3, 4, 5, 6, 7, 8, 9, 10, 11, 12, 13] (fun W => W.heap[p]? = some (.cells (fU s h E.length place) 207 (0, 0))) (by kernel_rfl) (by kernel_rfl) O ?_
    have hS0 : (fun W => W.heap[p]? = some (.cells (fU s h E.length place) 207 (0, 0))) (w2.drew) := pG.get.2
    have VP := pG.drew
    refine fD 0 O hS0 O (fD 1 O hS0 O (iG 2 O hS0 O (dJ 3 O hS0 61 dP O aj O (fM 4 O hS0 (fun W hW => fQ aA O hW (EX hs)) (fD 5 O hS0 O (fD 7 O hS0 O (iG 10 O hS0 O (dJ 11 O hS0 1 dP O sizeOf205 O (ny 6 O (wM O func141 (AU (k := 0) hs hh (by omega) VP.get.2)) ?_)))))))))
    rintro _ w3 ⟨rfl, hD2⟩
    have BL := VP.zh hD2
    have hS3 : (fun W => W.heap[p]? = some (.cells (fU s h E.length place) 207 (0, 0))) w3 := BL.get.2
    refine J6 hS3 ?_
    refine ny 8 O (ZK (vs := [s.getD ((h + 0) % 60) undef, .slice a l.length c]) BL gQ bD zeroValue22 O O O (by decide) (by rw [e0]; simp [Value.oneCell'])) ?_
    rintro _ w4 ⟨b2, rfl, H4⟩
    have hS4 : (fun W => W.heap[p]? = some (.cells (fU s h E.length place) 207 (0, 0))) w4 := H4.swap.get.2
    refine J6 hS4 ?_
    refine ny 9 O (wM O func172 (GZ H4 (fun W HW => HW.right.right.He (i := 0) hE0) hr.under.under.under (by omega))) ?_
    rintro u w5 H5
    have wP := H5.QO
    have hS5 : (fun W => W.heap[p]? = some (.cells (fU s h E.length place) 207 (0, 0))) w5 := wP.get.2
    refine J6 hS5 ?_
    refine dS 12 O hS5 (fun _ => D9 underlying205 bD O O (by omega)) ?_
    refine dF 13 O (by kernel_rfl) (lM wP bD O O H5.aO.one (by rw [qW hs]; omega)) ?_
    rintro _ w6 Jh
    rw [show (1 + ((h : Int)).toNat * 1) = 1 + h from by omega, EG hs hh] at Jh
    have hs' : (s.set h u).length = 60 := by simp [hs]
    have ho' := Ur ho (u := u) (i := h) H5.aO.one
    refine Oy (by kernel_rfl) ?_
    refine lJ (aH (aU (bI O (dV O (bM 63 dP O aj O (aQ (lM Jh aj O O O (by rw [qW hs']; decide)) ?_))))))
    rintro _ w7 AQ
    rw [show (Value.int .i64 0) = .int .i64 ((0 : Nat) : Int) from rfl, uH hs'] at AQ
    have Kq := AQ.swap.oC
    refine iR (jS O (dL qV O ?_))
    refine ⟨O, V.BZ hs' hh (by rw [AA hE0]; omega) (.inr O) ?_ ho' ?_⟩
    · intro e he
      rcases List.mem_cons.1 he with rfl | he
      · first | (rw [if_pos hw1, List.length_append]; omega) | (rw [if_neg (by omega), List.length_append]; omega)
      · exact hm e (List.mem_of_mem_tail he)
    · rw [AA hE0]
      first | rw [if_pos hw1] | rw [if_neg (by omega)]
      exact (Kq.r4.swap.JD (vH (fun I a b => MX hs hh hE hE0 b a) _)).QO.right.swap
  · (try simp only [Z] at h7)
    have hw2 : way = 2 := by omega
    refine uD (n := 14) [0, 1, 2, 3, 4, 5, 6, 7, 8, 9, 10, 11, 12, 13] (fun W => W.heap[p]? = some (.cells (fU s h E.length place) 207 (0, 0))) (by kernel_rfl) (by kernel_rfl) O ?_
    have hS0 : (fun W => W.heap[p]? = some (.cells (fU s h E.length place) 207 (0, 0))) (w2.drew) := pG.get.2
    have H6d := pG.drew
    refine fD 0 O hS0 O (fD 1 O hS0 O (iG 2 O hS0 O (dJ 3 O hS0 61 dP O aj O (fM 4 O hS0 (fun W hW => fQ aA O hW (EX hs)) (fD 5 O hS0 O (fD 6 O hS0 O (iG 10 O hS0 O (dJ 11 O hS0 1 dP O sizeOf205 O (ny 7 O (wM O func141 (AU (k := 0) hs hh (by omega) H6d.get.2)) ?_)))))))))
    rintro _ w8 ⟨rfl, hD2⟩
    have BL := H6d.zh hD2
    have hS8 : (fun W => W.heap[p]? = some (.cells (fU s h E.length place) 207 (0, 0))) w8 := BL.get.2
    refine J6 hS8 ?_
    refine ny 8 O (ZK (vs := [.slice a l.length c, s.getD ((h + 0) % 60) undef]) BL gQ bD zeroValue22 O O O (by decide) (by rw [e0]; simp [Value.oneCell'])) ?_
    rintro _ w9 ⟨b2, rfl, H9⟩
    have hS9 : (fun W => W.heap[p]? = some (.cells (fU s h E.length place) 207 (0, 0))) w9 := H9.swap.get.2
    refine J6 hS9 ?_
    refine ny 9 O (wM O func172 (GZ H9 hr.under.under.under (fun W HW => HW.right.right.He (i := 0) hE0) (by omega))) ?_
    rintro u w10 pG
    have wP := pG.QO
    have ai5 : (fun W => W.heap[p]? = some (.cells (fU s h E.length place) 207 (0, 0))) w10 := wP.get.2
    refine J6 ai5 ?_
    refine dS 12 O ai5 (fun _ => D9 underlying205 bD O O (by omega)) ?_
    refine dF 13 O (by kernel_rfl) (lM wP bD O O pG.aO.one (by rw [qW hs]; omega)) ?_
    rintro _ FK Jh
    rw [show (1 + ((h : Int)).toNat * 1) = 1 + h from by omega, EG hs hh] at Jh
    have hs' : (s.set h u).length = 60 := by simp [hs]
    have ho' := Ur ho (u := u) (i := h) pG.aO.one
    refine Oy (by kernel_rfl) ?_
    refine lJ (aH (aU (bI O (dV O (bM 63 dP O aj O (aQ (lM Jh aj O O O (by rw [qW hs']; decide)) ?_))))))
    rintro _ w12 AQ
    rw [show (Value.int .i64 0) = .int .i64 ((0 : Nat) : Int) from rfl, uH hs'] at AQ
    have Kq := AQ.swap.oC
    refine iR (jS O (dL qV O ?_))
    refine ⟨O, V.BZ hs' hh (by rw [AA hE0]; omega) (.inr O) ?_ ho' ?_⟩
    · intro e he
      rcases List.mem_cons.1 he with rfl | he
      · first | (rw [if_pos hw1, List.length_append]; omega) | (rw [if_neg (by omega), List.length_append]; omega)
      · exact hm e (List.mem_of_mem_tail he)
    · rw [AA hE0]
      first | rw [if_pos hw1] | rw [if_neg (by omega)]
      exact (Kq.r4.swap.JD (vH (fun I a b => MX hs hh hE hE0 b a) _)).QO.right.swap
end
def I9 (m place : Nat) (n : Int) : Nat := (((place : Int) + n) % (m : Int)).toNat
theorem afu {m place : Nat} {n : Int} (h : 0 < m) : I9 m place n < m := by
  unfold I9
  have h1 := Int.emod_nonneg ((place : Int) + n) (show (m : Int) ≠ 0 by omega)
  have h2 := Int.emod_lt_of_pos ((place : Int) + n) (show (0 : Int) < m by omega)
  omega
theorem Us (a : Int) {m : Int} (h : 0 < m) : -m < a.tmod m ∧ a.tmod m < m := by
  have h2 := Int.tmod_lt_of_pos a h
  have h3 := Int.tmod_lt_of_pos (-a) h
  rw [Int.neg_tmod] at h3
  omega
theorem SL (a m : Int) : a.tmod m % m = a % m := by
  rw [Int.tmod_def]
  exact Int.sub_mul_emod_self_left a m (a.tdiv m)
theorem ahu (m place : Nat) (n : Int) (h : 0 < m) : (((place : Int) + n.tmod m).tmod m + m).tmod m = (I9 m place n : Int) := by
  have h1 := Us ((place : Int) + n.tmod m) (show (0 : Int) < m by omega)
  have h2 := Int.emod_nonneg ((place : Int) + n) (show (m : Int) ≠ 0 by omega)
  unfold I9
  rw [Int.toNat_of_nonneg h2, Int.tmod_eq_emod_of_nonneg (by omega), Int.add_emod_right, SL, Int.add_emod, SL, ← Int.add_emod]
section
variable {w0 w : World} {F : HP} {p place : Nat} {E : List (List Int)} {v : Value} {l : List Int} {way : Int}
theorem Rf (H : V w0 w (gY p E place • F)) (hr : jO w0 F .i32 v l) :
    jf prog 199 #[.pointer (some ⟨p, 0, none⟩), .int .i64 way, v] w fun v' w' => v' = .int .i64 (Hf E place way l).1 ∧ V w0 w' (gY p (Hf E place way l).2.1 (Hf E place way l).2.2 • F) := by
  unfold Hf
  by_cases h1 : way < 0 ∨ 2 < way
  · simp only [h1, if_true]; exact Q7 H hr h1
  · simp only [h1, if_false]
    by_cases h2 : 1024 < l.length
    · simp only [h2, if_true]; exact OT H hr (by omega) h2
    · simp only [h2, if_false]
      by_cases h3 : way ≠ 0 ∧ 0 < E.length
      · rw [if_pos h3]
        by_cases h4 : 1024 < l.length + (E.getD 0 []).length
        · rw [if_pos h4]; exact Q9 H hr (by omega) (by omega) h3.2 h4
        · rw [if_neg h4]; exact OU H hr (by omega) h3.2 (by omega)
      · rw [if_neg h3]
        by_cases h5 : way = 0 ∧ l.length = 0
        · rw [if_pos h5]; obtain ⟨rfl, h6⟩ := h5; exact Kv H hr h6
        · rw [if_neg h5]; exact Q8 H hr (by omega) (by omega) (by omega) h5
theorem EY {n : Int} (H : V w0 w (gY p [] place • F)) :
    jf prog 87 #[.pointer (some ⟨p, 0, none⟩), .int .i64 n] w fun v' w' => v' = .tuple #[.slice none 0 0, .int .i64 6] ∧ V w0 w' (gY p [] place • F) := by
  obtain ⟨s, h, hs, hh, hE, hp, hm, ho, H1⟩ := H.ring
  have hb := H1.get.2
  refine qo func87 ntmps87 ?_
  refine jg (gW O (tX O (bf (bI O (dX O func140 (nI _ hb EF) ?_)))))
  rintro _ _ ⟨rfl, rfl⟩
  refine fO O (oL (bI O (dV O (bM 62 dP O aj O (eH aA O hb (rZ hs) (aV (fB O O) (fO O (wcA O (fun h1 => ?_)))))))))
  (try simp only [Z] at h1)
  refine jg (gW O (fP O (aN (aC (MO results87 O O ?_)))))
  exact ⟨O, H⟩
theorem Gm {n : Int} (H : V w0 w (gY p E place • F)) (h0 : 0 < E.length) :
  jf prog 87 #[.pointer (some ⟨p, 0, none⟩), .int .i64 n] w fun v' w' => ∃ u, v' = .tuple #[u, .int .i64 0] ∧
   V w0 w' (je 21 .i32 u (E.getD (I9 E.length place n) []) • gY p E (I9 E.length place n) • F) := by
 obtain ⟨s, h, hs, hh, hE, hp, hm, ho, H⟩ := H.ring
 have hb := H.get.2
 have hlt := afu (place := place) (n := n) h0
 have ako := ahu E.length place n h0
 have hb1 := Us n (show (0 : Int) < E.length by omega)
 have hb2 := Us ((place : Int) + n.tmod E.length) (show (0 : Int) < E.length by omega)
 refine qo func87 ntmps87 ?_
 refine jg (gW O (tX O (bf (bI O (dX O func140 (nI _ hb EF) ?_)))))
 rintro _ _ ⟨rfl, rfl⟩
 refine fO O (oL (bI O (dV O (bM 62 dP O aj O (eH aA O hb (rZ hs) (aV (fB O O) (fO O (Yk O (fun h1 => ?_)))))))))
 (try simp only [Z] at h1)
 refine bU (aH (aU (aI ?_)))
 refine uD (n := 30) [0, 1, 2, 3, 4, 5, 6, 7, 8, 9, 10, 11, 12, 13, 14, 15, 16, 17, 18, 19, 20, 21, 22, 23, 24, 25, 26, 27, 28, 29] (fun W => W.heap = w.heap) (by kernel_rfl) (by kernel_rfl) O ?_
 have hS0 : (fun W => W.heap = w.heap) (w.drew) := rfl
 have H5d := H.drew
 refine fD 0 O hS0 O (fD 1 O hS0 O (iG 2 O hS0 O (dJ 3 O hS0 63 dP O aj O ?_)))
 refine fM 4 O hS0 (fun W hW => fQ aA O (by rw [hW]; exact hb) (OQ hs)) ?_
 refine fD 5 O hS0 O (fD 6 O hS0 O (iG 7 O hS0 O (dJ 8 O hS0 62 dP O aj O ?_)))
 refine fM 9 O hS0 (fun W hW => fQ aA O (by rw [hW]; exact hb) (rZ hs)) ?_
 refine dS 10 O hS0 (fun _ => Ya O O (by omega)) (dS 11 O hS0 (fun _ => fH O O (by omega)) (fD 12 O hS0 O (iG 13 O hS0 O (dJ 14 O hS0 62 dP O aj O ?_))))
 refine fM 15 O hS0 (fun W hW => fQ aA O (by rw [hW]; exact hb) (rZ hs)) ?_
 refine dS 16 O hS0 (fun _ => Ya O O (by omega)) (fD 17 O hS0 O (iG 18 O hS0 O (dJ 19 O hS0 62 dP O aj O ?_)))
 refine fM 20 O hS0 (fun W hW => fQ aA O (by rw [hW]; exact hb) (rZ hs)) ?_
 refine dS 21 O hS0 (fun _ => fH O O (by omega)) (fD 22 O hS0 O (iG 23 O hS0 O (dJ 24 O hS0 62 dP O aj O ?_)))
 refine fM 25 O hS0 (fun W hW => fQ aA O (by rw [hW]; exact hb) (rZ hs)) ?_
 refine dS 26 O hS0 (fun _ => Ya O O (by omega)) (iG 27 O hS0 O (dJ 28 O hS0 63 dP O aj O ?_))
 refine dF 29 O (by kernel_rfl) (lM H5d aj O O O (by rw [qW hs]; decide)) ?_
 rintro _ w2 H2
 rw [ako, uH hs] at H2
 refine Oy (by kernel_rfl) ?_
 refine lJ (aU (bI O (mX O O (bM 63 dP O aj O (eH aA O H2.get.2 (OQ hs) (dX O func141 (AU hs hh (by omega) H2.get.2) ?_))))))
 rintro _ w3 ⟨rfl, hD2⟩
 have H3 := H2.zh hD2
 refine X9 (uU (wF O func71 O O) (qy H3 (fun W HW => HW.right.He (i := I9 E.length place n) hlt) (by have := hm (E.getD (I9 E.length place n) []) (by rw [List.getD_eq_getElem?_getD, List.getElem?_eq_getElem hlt]; simp); omega))) (gV O) ?_
 rintro u w4 H4
 refine gW O (fP O (MO results87 O O ?_))
 exact ⟨u, O, (V.BZ hs hh hE (.inl hlt) hm ho H4.d3).swap⟩
theorem OV (H : V w0 w (gY p [] place • F)) :
    jf prog 205 #[.pointer (some ⟨p, 0, none⟩)] w fun v' w' => v' = .tuple #[.slice none 0 0, .int .i64 6] ∧ V w0 w' (gY p [] place • F) := by
  refine jE func205 ntmps205 ?_
  refine jg (gW O (fO O (bI O (dX O func87 (EY H) ?_))))
  rintro _ w1 ⟨rfl, H1⟩
  refine oZ O O (oZ O O (gW O (fP O (MO results205 O O ?_))))
  exact ⟨O, H1⟩
theorem aa5 {m place : Nat} (h : place < m) : I9 m place 0 = place := by
  unfold I9
  rw [Int.add_zero, Int.emod_eq_of_lt (by omega) (by omega)]
  omega
theorem Rh (H : V w0 w (gY p E place • F)) (h0 : 0 < E.length) :
    jf prog 205 #[.pointer (some ⟨p, 0, none⟩)] w fun v' w' => ∃ u, v' = .tuple #[u, .int .i64 0] ∧
      V w0 w' (je 21 .i32 u (E.getD place []) • gY p E place • F) := by
  obtain ⟨s, h, hs, hh, hE, hp, hm, ho, H1⟩ := H.ring
  have hpl : I9 E.length place 0 = place := aa5 (by omega)
  refine jE func205 ntmps205 ?_
  refine jg (gW O (fO O (bI O (dX O func87 (Gm H h0) ?_))))
  rintro _ w1 ⟨u, rfl, H1⟩
  refine oZ O O (oZ O O (gW O (fP O (MO results205 O O ?_))))
  rw [hpl] at H1; exact ⟨u, rfl, H1⟩
theorem V.aa6 {s : List Value} {h : Nat} (H : V w0 w (FM s h E • F)) : V w0 w (FM s h E • FM s h E • F) := H.wR
theorem aa7 {s : List Value} {h n p : Nat} (ho : ∀ v ∈ s, v.oneCell' = true) : ∀ v ∈ (fU s h n p).toList, v.oneCell' = true := by
  intro v hv
  simp [fU] at hv
  rcases hv with rfl | hv | rfl | rfl | rfl <;> first | rfl | exact ho v hv
theorem Hg (H : V w0 w (gY p E place • F)) :
    jf prog 85 #[.pointer (some ⟨p, 0, none⟩)] w fun v' w' => ∃ q, v' = .pointer (some ⟨q, 0, none⟩) ∧ V w0 w' (gY q E place • gY p E place • F) := by
  obtain ⟨s, h, hs, hh, hE, hp, hm, ho, H⟩ := H.ring
  have hb := H.get.2
  refine jE func85 ntmps85 ?_
  refine kH O (aI (bI O (dX O func140 (nI _ hb EF) ?_)))
  rintro _ _ ⟨rfl, rfl⟩
  refine iR (oL (gy (bI O (dV O (aV (dH dP O sizeOf207 (qW hs) O hb) (kV (Ea H zeroValue207) ?_))))))
  rintro _ w2 ⟨b2, rfl, H2⟩
  refine aQ (jq H2 sizeOf207 (qW hs) O O O (aa7 ho)) ?_
  rintro _ w3 H3
  refine iR (jS O (dL results85 O ?_))
  exact ⟨_, O, V.BZ hs hh hE hp hm ho (V.BZ hs hh hE hp hm ho (H3.QO.aa6.r4)).swap.QO⟩
end
end Go.Proofs.YtpdeedplgmbopaaGreatDoor
end
