import Derived.Test.YtgmpclifphbjkaaGreatDoorZ2
import Derived.Test.YtgmpclifphbjkaaGreatDoorZ6
import Derived.Test.YtgmpclifphbjkaaGreatDoorZ5
import Derived.Test.YtgmpclifphbjkaaGreatDoorZ4
set_option linter.unusedSimpArgs false
set_option linter.unusedVariables false
/- Texts of mine, joined, their names in short: BufP Ring. -/
section
namespace Go.Proofs.YtgmpclifphbjkaaGreatDoor
open Go.RowKit
open _root_.Go.Proofs.Tryz
def iM (L : List Int) (i j : Int) (l : List Int) : Int := if i < 0 ∨ L.length < i ∨ j < i ∨ L.length < j then 70 else if 1024 < L.length - (j - i) + l.length then 3 else 0
def iR (L : List Int) (i j : Int) (l : List Int) : List Int := if iM L i j l = 0 then L.take i.toNat ++ l ++ L.drop j.toNat else L
def mW (L : List Int) (pt i j : Int) (l : List Int) : Int := if iM L i j l = 0 then bK pt i j l.length else pt
def nK (L : List Int) (mk i j : Int) (l : List Int) : Int := if iM L i j l = 0 then bP mk i j l.length else mk
def mX (L : List Int) (i j : Int) (l : List Int) : Int := if iM L i j l = 0 then i else 0
def jg (L : List Int) (i j : Int) (l : List Int) : List Int := if iM L i j l = 0 then (L.drop i.toNat).take (j - i).toNat else []
def jh (L : List Int) (i j : Int) (l : List Int) : List Int := if iM L i j l = 0 then l else []
section
variable {w0 w : World} {F : HP} {p : Nat} {L : List Int} {pt mk : Int} {v d s : Value} {l dl il : List Int} {i j a x : Int}
theorem xq (H : aB w0 w (dJ p L pt mk • F)) (hr : iU w0 F .i32 v l) :
    fQ prog 113 #[.pointer (some ⟨p, 0, none⟩), .int .i64 i, .int .i64 j, v] w fun v' w' => ∃ d s, v' = .tuple #[.agg #[.int .i64 (mX L i j l), d, s], .int .i64 (iM L i j l)] ∧
      aB w0 w' (iG 21 .i32 d (jg L i j l) • iG 21 .i32 s (jh L i j l) • dJ p (iR L i j l) (mW L pt i j l) (nK L mk i j l) • F) := by
  unfold mX iR mW nK jg jh
  by_cases h1 : i < 0 ∨ L.length < i ∨ j < i ∨ L.length < j
  · have e : iM L i j l = 70 := by unfold iM; rw [if_pos h1]
    simp only [e, show ¬ (70 : Int) = 0 from by decide, if_false]
    exact (Du H hr h1).mono fun v' w' h => ⟨_, _, h.1, (h.2.Az none).Az none⟩
  · have h2 : 0 ≤ i ∧ i ≤ j ∧ j ≤ L.length := by omega
    by_cases h3 : 1024 < L.length - (j - i) + l.length
    · have e : iM L i j l = 3 := by unfold iM; rw [if_neg h1, if_pos h3]
      simp only [e, show ¬ (3 : Int) = 0 from by decide, if_false]
      exact (BP H hr h2 h3).mono fun v' w' h => ⟨_, _, h.1, (h.2.Az none).Az none⟩
    · have e : iM L i j l = 0 := by unfold iM; rw [if_neg h1, if_neg h3]
      simp only [e, if_true]
      obtain ⟨i', rfl⟩ := Int.eq_ofNat_of_zero_le h2.1
      obtain ⟨j', rfl⟩ := Int.eq_ofNat_of_zero_le (show 0 ≤ j by omega)
      have hij : i' ≤ j' ∧ j' ≤ L.length := by omega
      have := Eo (i := i') (j := j') H hr hij (by omega)
      simpa only [Int.toNat_natCast, show ((j' : Int) - (i' : Int)).toNat = j' - i' from by omega, gU] using this
def smE (L : List Int) (x : Int) : Int := if x < -1 ∨ L.length < x then 70 else 0
def Xl (L : List Int) (mk x : Int) : Int := if x < -1 ∨ L.length < x then mk else x
theorem xu (H : aB w0 w (dJ p L pt mk • F)) : fQ prog 71 #[.pointer (some ⟨p, 0, none⟩), .int .i64 x] w fun v' w' => v' = .int .i64 (smE L x) ∧ aB w0 w' (dJ p L pt (Xl L mk x) • F) := by
 unfold smE Xl
 have hL : L.length ≤ 1024 := by obtain ⟨a, c, xs, f, t, h1, h2, h3, h4, h5, h6, h7, hc1, hc2, hl, H1⟩ := H.buf; exact h4
 refine gX func71 ntmps71 ?_
 dsimp only [bg, Nat.reduceAdd]
 refine ay (ah (aV rfl (aA (aj (ay (bf (ay (ah (aO rfl (dw rfl func130 (jX H) ?_))))))))))
 rintro _ _ ⟨rfl, rfl⟩
 refine aV rfl (aA (aj (qN (ay (ah (aO rfl (aU (dL rfl rfl) (jo rfl (fun h1 => ?_) (fun h1 => ?_)))))))))
 ·(try simp only [aG] at h1)
  try (exfalso; first | contradiction | omega)
  all_goals
   refine bI (bI (bI (bI (jO rfl rfl (aV rfl (aA (aj (yL (ay (ah (aV rfl (aA (aj (aJ (aW (aK (aP (.inl rfl) results71 rfl ?_)))))))))))))))))
   exact ⟨by rw [if_pos (by omega)], by rw [if_pos (by omega)]; exact H⟩
 ·(try simp only [aG] at h1)
  try (exfalso; first | contradiction | omega)
  all_goals
   refine bD (aO rfl (bD (aO rfl (bD (dw rfl func69 (jF H) ?_)))))
   rintro _ w2 ⟨rfl, hD2⟩
   have HD2 := H.nH hD2
   refine bD (aU (dQ rfl rfl) (jr rfl rfl (aV rfl (aA (aj (aH rfl (fun h2 => ?_) (fun h2 => ?_)))))))
   ·(try simp only [aG] at h2)
    try (exfalso; first | contradiction | omega)
    all_goals
     refine ay (ah (aV rfl (aA (aj (aJ (aW (aK (aP (.inl rfl) results71 rfl ?_))))))))
     exact ⟨by rw [if_pos (by omega)], by rw [if_pos (by omega)]; exact HD2⟩
   ·(try simp only [aG] at h2)
    try (exfalso; first | contradiction | omega)
    all_goals
     refine aS (aQ (aj (ay ?_)))
     obtain ⟨YV, YW, YX, f_p, t_p, MW, MX, MZ, Na, Nb, Qb, YZ, Y0, Y1, V9, J5⟩ := (HD2).buf
     refine ah (aO rfl (aO rfl (bH rfl (aZ 5 underlying178 rfl sizeOf3 rfl (aI (aN 5 (l' := [_, _, _, _, _, _]) J5 sizeOf3 rfl rfl (by first | rfl | assumption) rfl rfl) ?_)))))
     rintro _ w4 H4
     refine aA (aj (ay (ah (aV rfl (aA (aj (aJ (aP (.inl rfl) results71 rfl ?_))))))))
     exact ⟨by rw [if_neg (by omega)], by rw [if_neg (by omega)]; exact aB.kD MW MX MZ Na Nb Qb (by omega) H4.f2.f2⟩
def swE (mk : Int) : Int := if mk < 0 then 6 else 0
def swP (pt mk : Int) : Int := if mk < 0 then pt else mk
def swM (pt mk : Int) : Int := if mk < 0 then mk else pt
theorem IW (H : aB w0 w (dJ p L pt mk • F)) : fQ prog 118 #[.pointer (some ⟨p, 0, none⟩)] w fun v' w' => v' = .int .i64 (swE mk) ∧ aB w0 w' (dJ p L (swP pt mk) (swM pt mk) • F) := by
 unfold swE swP swM
 refine gX func118 ntmps118 ?_
 dsimp only [bg, Nat.reduceAdd]
 refine ay (ah (aV rfl (aA (aj (ay (bf (ay (ah (aO rfl (dw rfl func130 (jX H) ?_))))))))))
 rintro _ _ ⟨rfl, rfl⟩
 refine aV rfl (aA (aj (qN (ay ?_))))
 obtain ⟨YV, YW, YX, f_p, t_p, MW, MX, MZ, Na, Nb, Qb, YZ, Y0, Y1, V9, J5⟩ := (H).buf
 refine ah (aO rfl (bH rfl (aZ 5 underlying178 rfl sizeOf3 rfl (cO underlying3 rfl (J5).get.2 rfl (aU (dL rfl rfl) (aV rfl (aA (aj (aH rfl (fun h1 => ?_) (fun h1 => ?_))))))))))
 ·(try simp only [aG] at h1)
  try (exfalso; first | contradiction | omega)
  all_goals
   refine ay (ah (aV rfl (aA (aj (aJ (aW (aK (aP (.inl rfl) results118 rfl ?_))))))))
   exact ⟨by rw [if_pos (by omega)], by rw [if_pos (by omega), if_pos (by omega)]; exact aB.kD MW MX MZ Na Nb Qb (by omega) J5.f2.f2⟩
 ·(try simp only [aG] at h1)
  try (exfalso; first | contradiction | omega)
  all_goals
   refine aS (aQ (aj (ay ?_)))
   have Y2 := J5.drew
   have vF := aB.kp (Y2.f2.f2)
   refine uH [5, 9] vF rfl (fU 0 rfl vF rfl (fU 1 rfl vF rfl (fU 2 rfl vF rfl (iT 3 rfl vF rfl (dP 4 rfl vF 5 underlying178 rfl sizeOf3 rfl (gQ 5 rfl vF (fun W hW => iI underlying3 rfl ((Kp.h hW)).get.2 rfl) (fU 6 rfl vF rfl (iT 7 rfl vF rfl (dP 8 rfl vF 4 underlying178 rfl sizeOf3 rfl (gQ 9 rfl vF (fun W hW => iI underlying3 rfl ((Kp.h hW)).get.2 rfl) (iT 10 rfl vF rfl (dP 11 rfl vF 4 underlying178 rfl sizeOf3 rfl ?_))))))))))))
   refine dB 12 rfl (by kernel_rfl) (aN 4 (l' := [_, _, _, _, _, _]) Y2 sizeOf3 rfl rfl (by first | rfl | assumption) rfl rfl) ?_
   rintro _ w3 H3
   have su := aB.kp (H3.f2.f2)
   refine fA su (by kernel_rfl) ?_
   refine iT 13 rfl su rfl (dP 14 rfl su 5 underlying178 rfl sizeOf3 rfl ?_)
   refine dB 15 rfl (by kernel_rfl) (aN 5 (l' := [_, _, _, _, _, _]) H3 sizeOf3 rfl rfl (by first | rfl | assumption) rfl rfl) ?_
   rintro _ w4 H4
   have jd := aB.kp (H4.f2.f2)
   refine fA jd (by kernel_rfl) ?_
   refine mg (aj (ay (ah (aV rfl (aA (aj (aJ (aP (.inl rfl) results118 rfl ?_))))))))
   exact ⟨by rw [if_neg (by omega)], by rw [if_neg (by omega), if_neg (by omega)]; exact aB.kD MW MX MZ Na Nb (by omega) (by omega) H4.f2.f2⟩
theorem F5 (H : aB w0 w (dJ p L pt mk • F)) : fQ prog 111 #[.pointer (some ⟨p, 0, none⟩)] w fun v' w' => ∃ q, v' = .pointer (some ⟨q, 0, none⟩) ∧ aB w0 w' (dJ q L pt mk • dJ p L pt mk • F) := by
 refine gX func111 ntmps111 ?_
 dsimp only [bg, Nat.reduceAdd]
 refine ay (ah (aV rfl (aA (aj (ay (ay (ah (aO rfl (dw rfl func130 (jX H) ?_)))))))))
 rintro _ _ ⟨rfl, rfl⟩
 refine aA (aj (qN (aS (aj (ay ?_)))))
 obtain ⟨YV, YW, YX, f_p, t_p, MW, MX, MZ, Na, Nb, Qb, YZ, Y0, Y1, V9, J5⟩ := (H).buf
 refine ah (aO rfl (bH rfl (aU (bU underlying178 rfl sizeOf178 rfl rfl (J5).get.2) (iy (dI (l := [_, _, _, _, _, _]) J5 zeroValue178 rfl) ?_))))
 rintro _ w3 ⟨b3, rfl, H3⟩
 refine aI (bJ 0 (l' := [_, _, _, _, _, _]) (us := [_, _, _, _, _, _]) H3 sizeOf178 rfl rfl rfl (aC (by first | rfl | assumption) (aC (by first | rfl | exact Rd.one ((H3.f3).aT)) (aC (by first | rfl | assumption) (aC (by first | rfl | assumption) (aC (by first | rfl | assumption) (aC (by first | rfl | assumption) bn)))))) rfl rfl) ?_
 rintro _ w4 H4
 refine aA (aj (ay (ah (aO rfl (bH rfl (aZ 1 underlying178 rfl sizeOf22 rfl (cO underlying22 rfl (H4.f2).get.2 rfl (dw rfl func136 (oK H4 (fun W HW => (HW.f3).aT) (by omega)) ?_))))))))
 rintro u5 w5 H5
 refine aZ 1 underlying178 rfl sizeOf22 rfl (aI (aN 1 (l' := [_, _, _, _, _, _]) H5.f2 sizeOf22 rfl rfl (by first | rfl | exact Rd.one ((H5).aT)) rfl rfl) ?_)
 rintro _ w6 H6
 refine aA (aj (ay (ah (aV rfl (aA (aj (aJ (aP (.inl rfl) results111 rfl ?_))))))))
 exact ⟨_, rfl, (aB.kD MW MX MZ Na Nb Qb (by omega) (aB.kD MW MX MZ Na Nb Qb (by omega) H6.f4.f4.f4.f4).f2.f3.f2).f2⟩
def yj (L : List Int) (a : Int) (dl : List Int) : Bool := decide ((dl.length : Int) ≤ L.length - a) && ((L.drop a.toNat).take dl.length == dl)
def xG (L : List Int) (a : Int) (dl il : List Int) : Int := if a < 0 ∨ L.length < a then 70 else if yj L a dl then iM L a (a + dl.length) il else 71
def wE (L : List Int) (a : Int) (dl il : List Int) : List Int := if xG L a dl il = 0 then iR L a (a + dl.length) il else L
def Nc (L : List Int) (pt a : Int) (dl il : List Int) : Int := if xG L a dl il = 0 then mW L pt a (a + dl.length) il else pt
def Nh (L : List Int) (mk a : Int) (dl il : List Int) : Int := if xG L a dl il = 0 then nK L mk a (a + dl.length) il else mk
theorem F6 (H : aB w0 w (dJ p L pt mk • F)) (hd : iU w0 F .i32 d dl) (hi : iU w0 F .i32 s il) : fQ prog 59 #[.pointer (some ⟨p, 0, none⟩), .agg #[.int .i64 a, d, s]] w fun v' w' =>
    v' = .int .i64 (xG L a dl il) ∧ aB w0 w' (dJ p (wE L a dl il) (Nc L pt a dl il) (Nh L mk a dl il) • F) := by
  have hL : L.length ≤ 1024 := by obtain ⟨a, c, xs, f, t, h1, h2, h3, h4, h5, h6, h7, hc1, hc2, hl, H1⟩ := H.buf; exact h4
  refine gX func59 ntmps59 ?_
  dsimp only [bg, Nat.reduceAdd]
  refine ay (ah (iy (iq (l := [_, _, _]) H rfl rfl) ?_))
  rintro _ w1 ⟨b1, rfl, H1⟩
  refine aV rfl (aA (aj (ay (bf (ay (ah (aO rfl (dw rfl func130 (jX H1.f2) ?_))))))))
  rintro _ _ ⟨rfl, rfl⟩
  refine aV rfl (aA (aj (qN (ay ?_))))
  have xH := H1.drew
  have dU := aB.kp (xH.f2.f2)
  refine uH [1, 5] dU rfl (dP 0 rfl dU 0 underlying120 rfl sizeOf3 rfl (gQ 1 rfl dU (fun W hW => iI underlying3 rfl ((Kp.h hW)).get.2 rfl) (iJ 2 rfl dU (fun _ => dL rfl rfl) ?_)))
  refine Au 3 rfl rfl (by kernel_rfl) (by kernel_rfl) dU (jq rfl) (fun h1 => ?_) (fun h1 => ?_)
  · (try simp only [aG] at h1)
    try (exfalso; first | contradiction | omega)
    all_goals
      refine kG 4 rfl rfl rfl rfl (by kernel_rfl) (by kernel_rfl) dU (jq rfl) ?_
      refine kG 5 rfl rfl rfl rfl (by kernel_rfl) (by kernel_rfl) dU (jq rfl) ?_
      refine kG 6 rfl rfl rfl rfl (by kernel_rfl) (by kernel_rfl) dU (jq rfl) ?_
      refine kG 7 rfl rfl rfl rfl (by kernel_rfl) (by kernel_rfl) dU (jq rfl) ?_
      refine kG 8 rfl rfl rfl rfl (by kernel_rfl) (by kernel_rfl) dU (jq rfl) ?_
      refine iJ 9 rfl dU (fun _ => xP rfl rfl) (iJ 10 rfl dU (fun _ => fO rfl) (mg (aj (yL (ay (ah (aV rfl (aA (aj (aJ (aW (aK (aP (.inl rfl) results59 rfl ?_)))))))))))))
      have e : xG L a dl il = 70 := by unfold xG; rw [if_pos (by omega)]
      unfold wE Nc Nh
      rw [e]
      exact ⟨rfl, xH.right⟩
  · (try simp only [aG] at h1)
    try (exfalso; first | contradiction | omega)
    all_goals
      refine dY 4 rfl rfl rfl (by kernel_rfl) (by kernel_rfl) dU (fun _ => qM 0 underlying120 rfl rfl sizeOf3 (by decide) rfl rfl) (jq rfl) ?_
      refine lZ 5 rfl rfl rfl (by kernel_rfl) (by kernel_rfl) dU (by decide) (fun W hW => iC (dM underlying3 rfl) rfl (fJ ((Kp.h hW)).get.2 rfl)) (jq rfl) ?_
      refine dY 6 rfl rfl rfl (by kernel_rfl) (by kernel_rfl) dU (fun _ => zG rfl) (jq rfl) ?_
      refine zJ 7 rfl rfl rfl (by kernel_rfl) (oW (oZ rfl func69 rfl rfl) (jF xH.f2)) (jq rfl) ?_
      rintro _ w3 ⟨rfl, hD3⟩
      have HD3 := xH.nH hD3
      have su := aB.kp (HD3.f2.f2)
      refine bW su (fun W hW => (Kp.h hW).f2.f2) ?_
      refine dY 8 rfl rfl rfl (by kernel_rfl) (by kernel_rfl) su (fun _ => dQ rfl rfl) (jq rfl) ?_
      refine iJ 9 rfl su (fun _ => xQ rfl rfl) (iJ 10 rfl su (fun _ => fO rfl) (mg (aj (aH rfl (fun h2 => ?_) (fun h2 => ?_)))))
      · (try simp only [aG] at h2)
        try (exfalso; first | contradiction | omega)
        all_goals
          refine ay (ah (aV rfl (aA (aj (aJ (aW (aK (aP (.inl rfl) results59 rfl ?_))))))))
          have e : xG L a dl il = 70 := by unfold xG; rw [if_pos (by omega)]
          unfold wE Nc Nh
          rw [e]
          exact ⟨rfl, HD3.right⟩
      · (try simp only [aG] at h2)
        try (exfalso; first | contradiction | omega)
        all_goals
          refine ay ?_
          have J6 := HD3.drew
          have mY := aB.kp (J6.f2.f2)
          refine uH [1, 6, 13, 15, 17, 22] mY rfl (dP 0 rfl mY 1 underlying120 rfl sizeOf22 rfl (gQ 1 rfl mY (fun W hW => iI underlying22 rfl ((Kp.h hW)).get.2 rfl) (iJ 2 rfl mY (fun _ => oz (hd _ (J6.right.right)) underlying22 rfl) (fU 3 rfl mY rfl (dP 5 rfl mY 0 underlying120 rfl sizeOf3 rfl (gQ 6 rfl mY (fun W hW => iI underlying3 rfl ((Kp.h hW)).get.2 rfl) (jH 4 rfl (rU rfl func69 (jF J6.f2)) ?_)))))))
          rintro _ w4 ⟨rfl, hD4⟩
          have HD4 := J6.nH hD4
          have jd := aB.kp (HD4.f2.f2)
          refine bW jd (fun W hW => (Kp.h hW).f2.f2) ?_
          refine iJ 7 rfl jd (fun _ => jB rfl rfl (by omega)) (iJ 8 rfl jd (fun _ => dQ rfl rfl) ?_)
          refine Au 9 rfl rfl (by kernel_rfl) (by kernel_rfl) jd (jq rfl) (fun h3 => ?_) (fun h3 => ?_)
          · (try simp only [aG] at h3)
            try (exfalso; first | contradiction | omega)
            all_goals
              refine kG 10 rfl rfl rfl rfl (by kernel_rfl) (by kernel_rfl) jd (jq rfl) ?_
              refine kG 11 rfl rfl rfl rfl (by kernel_rfl) (by kernel_rfl) jd (jq rfl) ?_
              refine kG 12 rfl rfl rfl rfl (by kernel_rfl) (by kernel_rfl) jd (jq rfl) ?_
              refine kG 13 rfl rfl rfl rfl (by kernel_rfl) (by kernel_rfl) jd (jq rfl) ?_
              refine kG 14 rfl rfl rfl rfl (by kernel_rfl) (by kernel_rfl) jd (jq rfl) ?_
              refine kG 15 rfl rfl rfl rfl (by kernel_rfl) (by kernel_rfl) jd (jq rfl) ?_
              refine kG 16 rfl rfl rfl rfl (by kernel_rfl) (by kernel_rfl) jd (jq rfl) ?_
              refine kG 17 rfl rfl rfl rfl (by kernel_rfl) (by kernel_rfl) jd (jq rfl) ?_
              refine kG 18 rfl rfl rfl rfl (by kernel_rfl) (by kernel_rfl) jd (jq rfl) ?_
              refine kG 19 rfl rfl rfl rfl (by kernel_rfl) (by kernel_rfl) jd (jq rfl) ?_
              refine kG 20 rfl rfl rfl rfl (by kernel_rfl) (by kernel_rfl) jd (jq rfl) ?_
              refine kG 21 rfl rfl rfl rfl (by kernel_rfl) (by kernel_rfl) jd (jq rfl) ?_
              refine kG 22 rfl rfl rfl rfl (by kernel_rfl) (by kernel_rfl) jd (jq rfl) ?_
              refine kG 23 rfl rfl rfl rfl (by kernel_rfl) (by kernel_rfl) jd (jq rfl) ?_
              refine kG 24 rfl rfl rfl rfl (by kernel_rfl) (by kernel_rfl) jd (jq rfl) ?_
              refine iJ 25 rfl jd (fun _ => xP rfl rfl) (iJ 26 rfl jd (fun _ => fO rfl) (mg (aj (yL (ay (ah (aV rfl (aA (aj (aJ (aW (aK (aP (.inl rfl) results59 rfl ?_)))))))))))))
              have e1 : (a + dl.length).toNat - a.toNat = dl.length := by omega
              have hf : yj L a dl = false := by
                simp only [yj, Bool.and_eq_false_iff, decide_eq_false_iff_not, beq_eq_false_iff_ne, ne_eq]
                first
                  | (refine .inl ?_; omega)
                  | (refine .inr ?_; rw [e1] at hcond; exact hcond)
              have e : xG L a dl il = 71 := by unfold xG; rw [if_neg (by omega), hf]; rfl
              unfold wE Nc Nh
              rw [e]
              exact ⟨rfl, HD4.right⟩
          · (try simp only [aG] at h3)
            try (exfalso; first | contradiction | omega)
            all_goals
              refine dY 10 rfl rfl rfl (by kernel_rfl) (by kernel_rfl) jd (fun _ => zG rfl) (jq rfl) ?_
              refine dY 12 rfl rfl rfl (by kernel_rfl) (by kernel_rfl) jd (fun _ => qM 0 underlying120 rfl rfl sizeOf3 (by decide) rfl rfl) (jq rfl) ?_
              refine lZ 13 rfl rfl rfl (by kernel_rfl) (by kernel_rfl) jd (by decide) (fun W hW => iC (dM underlying3 rfl) rfl (fJ ((Kp.h hW)).get.2 rfl)) (jq rfl) ?_
              refine dY 14 rfl rfl rfl (by kernel_rfl) (by kernel_rfl) jd (fun _ => qM 0 underlying120 rfl rfl sizeOf3 (by decide) rfl rfl) (jq rfl) ?_
              refine lZ 15 rfl rfl rfl (by kernel_rfl) (by kernel_rfl) jd (by decide) (fun W hW => iC (dM underlying3 rfl) rfl (fJ ((Kp.h hW)).get.2 rfl)) (jq rfl) ?_
              refine dY 16 rfl rfl rfl (by kernel_rfl) (by kernel_rfl) jd (fun _ => qM 1 underlying120 rfl rfl sizeOf22 (by decide) rfl rfl) (jq rfl) ?_
              refine lZ 17 rfl rfl rfl (by kernel_rfl) (by kernel_rfl) jd (by decide) (fun W hW => iC (dM underlying22 rfl) rfl (fJ ((Kp.h hW)).get.2 rfl)) (jq rfl) ?_
              refine dY 18 rfl rfl rfl (by kernel_rfl) (by kernel_rfl) jd (fun _ => oz (hd _ (HD4.right.right)) underlying22 rfl) (jq rfl) ?_
              refine dY 19 rfl rfl rfl (by kernel_rfl) (by kernel_rfl) jd (fun _ => eP rfl rfl (by omega)) (jq rfl) ?_
              refine dY 21 rfl rfl rfl (by kernel_rfl) (by kernel_rfl) jd (fun _ => qM 1 underlying120 rfl rfl sizeOf22 (by decide) rfl rfl) (jq rfl) ?_
              refine lZ 22 rfl rfl rfl (by kernel_rfl) (by kernel_rfl) jd (by decide) (fun W hW => iC (dM underlying22 rfl) rfl (fJ ((Kp.h hW)).get.2 rfl)) (jq rfl) ?_
              refine zJ 11 rfl rfl rfl (by kernel_rfl) (oW (oZ rfl func117 rfl rfl) (kU HD4.f2)) (jq rfl) ?_
              rintro u5 w5 H5
              have zQ := aB.kp (H5.f3.f3.f3)
              refine bW zQ (fun W hW => (Kp.h hW).right.f2) ?_
              refine dY 20 rfl rfl rfl (by kernel_rfl) (by kernel_rfl) zQ (fun _ => vk ((H5).aT) underlying22 sizeOf21 rfl rfl rfl (by omega)) (jq rfl) ?_
              refine zJ 23 rfl rfl rfl (by kernel_rfl) (oW (oZ rfl func17 rfl rfl) (GY _ _ _ _ _ (jG.cut ((H5).aT) (by omega) (by omega)) (hd _ (H5.right.right.right)))) (jq rfl) ?_
              rintro _ w6 ⟨rfl, hD6⟩
              have HD6 := H5.nH hD6
              have vG := aB.kp (HD6.f3.f3.f3)
              refine fA vG (by kernel_rfl) ?_
              refine dY 24 rfl rfl rfl (by kernel_rfl) (by kernel_rfl) vG (fun _ => kM rfl) (jq rfl) ?_
              refine iJ 25 rfl vG (fun _ => xQ rfl rfl) (iJ 26 rfl vG (fun _ => fO rfl) (mg (aj (aH rfl (fun h4 => ?_) (fun h4 => ?_)))))
              · (try simp only [aG] at h4)
                try (exfalso; first | contradiction | omega)
                all_goals
                  have hcond := h4
                  refine ay (ah (aV rfl (aA (aj (aJ (aW (aK (aP (.inl rfl) results59 rfl ?_))))))))
                  have e1 : (a + dl.length).toNat - a.toNat = dl.length := by omega
                  have hf : yj L a dl = false := by
                    simp only [yj, Bool.and_eq_false_iff, decide_eq_false_iff_not, beq_eq_false_iff_ne, ne_eq]
                    first
                      | (refine .inl ?_; omega)
                      | (refine .inr ?_; rw [e1] at hcond; exact hcond)
                  have e : xG L a dl il = 71 := by unfold xG; rw [if_neg (by omega), hf]; rfl
                  unfold wE Nc Nh
                  rw [e]
                  exact ⟨rfl, HD6.right.f2.right⟩
              · (try simp only [aG] at h4)
                try (exfalso; first | contradiction | omega)
                all_goals
                  have hcond := h4
                  refine aS (aQ (aj (ay (ah (aO rfl (aZ 0 underlying120 rfl sizeOf3 rfl (cO underlying3 rfl (HD6.f3).get.2 rfl (aZ 0 underlying120 rfl sizeOf3 rfl (cO underlying3 rfl (HD6.f3).get.2 rfl (aZ 1 underlying120 rfl sizeOf22 rfl (cO underlying22 rfl (HD6.f3).get.2 rfl (aU (oz (hd _ (HD6.right.right.right)) underlying22 rfl) (aU (eP rfl rfl (by omega)) (aZ 2 underlying120 rfl sizeOf22 rfl (cO underlying22 rfl (HD6.f3).get.2 rfl (dw rfl func113 (xq HD6.f2 (fun W HW => hi _ (HW.right.right))) ?_))))))))))))))))
                  rintro _ w7 ⟨d7, s7, rfl, H7⟩
                  refine aO rfl (nX rfl rfl (nX rfl rfl (iy (dI (l := [_, _, _]) H7 zeroValue120 rfl) ?_)))
                  rintro _ w8 ⟨b8, rfl, H8⟩
                  refine aI (bJ 0 (l' := [_, _, _]) (us := [_, _, _]) H8 sizeOf120 rfl rfl rfl (aC (by first | rfl | assumption) (aC (by first | rfl | exact Rd.one ((H8.f2).aT)) (aC (by first | rfl | exact Rd.one ((H8.f3).aT)) bn))) rfl rfl) ?_
                  rintro _ w9 H9
                  refine aV rfl (aA (aj (ay (ah (aO rfl (aV rfl (aA (aj (aJ (aP (.inl rfl) results59 rfl ?_))))))))))
                  have e1 : (a + dl.length).toNat - a.toNat = dl.length := by omega
                  have hf : yj L a dl = true := by
                    simp only [yj, Bool.and_eq_true, decide_eq_true_eq, beq_iff_eq]
                    exact ⟨by omega, by rw [e1] at hcond; exact hcond⟩
                  have e : xG L a dl il = iM L a (a + dl.length) il := by unfold xG; rw [if_neg (by omega), if_pos hf]
                  refine ⟨by rw [e]; rfl, ?_⟩
                  unfold wE Nc Nh
                  rw [e]
                  by_cases h0 : iM L a (a + dl.length) il = 0
                  · simp only [if_pos h0]; exact H9.right.right.right.f2.right.f2.right
                  · simp only [if_neg h0]
                    have H9 := H9.right.right.right.f2.right.f2.right
                    unfold iR mW nK at H9
                    simpa only [if_neg h0] using H9
end
end Go.Proofs.YtgmpclifphbjkaaGreatDoor
end
section
namespace Go.Proofs.YtgmpclifphbjkaaGreatDoor
open Go.RowKit
open _root_.Go.Proofs.Tryz
def bT (s : List Value) (h n p : Nat) : Array Value := (Value.bool true :: (s ++ [.int .i64 h, .int .i64 n, .int .i64 p])).toArray
section
variable {s : List Value} {h n p : Nat}
theorem je (hs : s.length = 60) : (bT s h n p).size = 64 := by simp [bT, hs]
theorem uM : (bT s h n p)[0]? = some (.bool true) := by simp [bT]
theorem G9 (hs : s.length = 60) {i : Nat} (hi : i < 60) : (bT s h n p)[1 + i]? = some (s.getD i undef) := by
  simp [bT, Nat.add_comm 1 i, List.getElem?_append_left (show i < s.length by omega), List.getD_eq_getElem?_getD, show i < s.length by omega]
theorem vH (hs : s.length = 60) : (bT s h n p)[61]? = some (.int .i64 h) := by simp [bT, hs]
theorem jU (hs : s.length = 60) : (bT s h n p)[62]? = some (.int .i64 n) := by simp [bT, hs]
theorem Ep (hs : s.length = 60) : (bT s h n p)[63]? = some (.int .i64 p) := by simp [bT, hs]
theorem F7 (hs : s.length = 60) (x : Nat) : (bT s h n p).setIfInBounds 61 (.int .i64 x) = bT s x n p := by
  apply Array.ext'; simp [bT, List.set_append, hs]
theorem F8 (hs : s.length = 60) (x : Nat) : (bT s h n p).setIfInBounds 62 (.int .i64 x) = bT s h x p := by
  apply Array.ext'; simp [bT, List.set_append, hs]
theorem jk (hs : s.length = 60) (x : Nat) : (bT s h n p).setIfInBounds 63 (.int .i64 x) = bT s h n x := by
  apply Array.ext'; simp [bT, List.set_append, hs]
theorem uN (hs : s.length = 60) {i : Nat} (hi : i < 60) (v : Value) : (bT s h n p).setIfInBounds (1 + i) v = bT (s.set i v) h n p := by
  apply Array.ext'; simp [bT, Nat.add_comm 1 i, List.set_append, hs, hi]
end
def J7 (I : Hp) (s : List Value) (h : Nat) (E : List (List Int)) : Prop := ∀ i, i < E.length → y8 I .i32 (s.getD ((h + i) % 60) undef) (E.getD i [])
def wF (s : List Value) (h : Nat) (E : List (List Int)) : HP := know (fun I => J7 I s h E) fun _ _ hl hk i hi => (hk i hi).mono hl
def bY (p : Nat) (E : List (List Int)) (place : Nat) : HP := sS fun (x : List Value × Nat) =>
  fact (x.1.length = 60 ∧ x.2 < 60 ∧ E.length ≤ 60 ∧ (place < E.length ∨ place = 0) ∧ (∀ e ∈ E, e.length ≤ 1024) ∧ ∀ v ∈ x.1, v.oneCell' = true) • dA p (.cells (bT x.1 x.2 E.length place) 155 (0, 0)) • wF x.1 x.2 E
section
variable {w0 w : World} {F : HP} {p place : Nat} {E : List (List Int)}
theorem aB.ring (H : aB w0 w (bY p E place • F)) : ∃ s h, s.length = 60 ∧ h < 60 ∧ E.length ≤ 60 ∧ (place < E.length ∨ place = 0) ∧ (∀ e ∈ E, e.length ≤ 1024) ∧ (∀ v ∈ s, v.oneCell' = true) ∧ aB w0 w (dA p (.cells (bT s h E.length place) 155 (0, 0)) • wF s h E • F) := by
  obtain ⟨⟨s, h⟩, H⟩ := H.oh
  obtain ⟨⟨h1, h2, h3, h4, h5, h6⟩, H⟩ := H.flat.fact
  exact ⟨s, h, h1, h2, h3, h4, h5, h6, H.flat⟩
theorem aB.pF {s : List Value} {h : Nat} (h1 : s.length = 60) (h2 : h < 60) (h3 : E.length ≤ 60) (h4 : place < E.length ∨ place = 0) (h5 : ∀ e ∈ E, e.length ≤ 1024) (h6 : ∀ v ∈ s, v.oneCell' = true) (H : aB w0 w (dA p (.cells (bT s h E.length place) 155 (0, 0)) • wF s h E • F)) : aB w0 w (bY p E place • F) :=
  aB.iF (s, h) (aB.deep (aB.kJ ⟨h1, h2, h3, h4, h5, h6⟩ H.deep))
theorem IX (H : aB w0 w F) : fQ prog 41 #[] w fun v w' => ∃ p, v = .pointer (some ⟨p, 0, none⟩) ∧ aB w0 w' (bY p [] 0 • F) := by
 refine gX func41 ntmps41 ?_
 dsimp only [bg, Nat.reduceAdd]
 refine ay (ah (aV rfl (aA (aj (ay (ah (aU (gq (pl := #[(0, 1), (1, 60), (61, 1), (62, 1), (63, 1)]) (bT (List.replicate 60 (.slice none 0 0)) 0 0 0) underlying155 zeroValue155 (fun w => by kernel_rfl) rfl (by kernel_rfl)) (iy (GI H rfl) ?_))))))))
 rintro _ w1 ⟨b1, rfl, H1⟩
 refine aV rfl (aA (aj (aJ (aP (.inl rfl) results41 rfl ?_))))
 refine ⟨b1, rfl, aB.pF (s := List.replicate 60 (.slice none 0 0)) (h := 0) (by simp) (by omega) (by simp) (.inr rfl) (by simp) (by intro v hv; rw [List.eq_of_mem_replicate hv]; rfl) ?_⟩
 exact aB.swap (aB.DL (fun I i hi => by simp at hi) H1)
theorem iK (t : TypeId) {cs : Array Value} {fr : Nat × Nat} {m : Bool} (hb : w.heap[p]? = some (.cells cs t fr)) (h0 : cs[0]? = some (.bool m)) :
  fQ prog 135 #[.pointer (some ⟨p, 0, none⟩)] w fun v w' => v = .bool (!m) ∧ w = w' := by
 refine gX func135 ntmps135 ?_
 dsimp only [bg, Nat.reduceAdd]
 refine ay (ah (aV rfl (aA (aj (ay (ah (aO rfl (aU (jc underlying58 rfl rfl) (jo rfl (fun h => by exfalso; (try simp only [aG] at h); simp at h) (fun h1 => ?_))))))))))
 (try simp only [aG] at h1)
 refine bD (aO rfl (bD (bH rfl (bD (aZ 0 underlying155 rfl sizeOf4 rfl (bD (cO underlying4 rfl hb h0 (bD (aU (kM rfl) (jr rfl rfl (aV rfl (aA (aj (aJ (aP (.inl rfl) results135 rfl ?_)))))))))))))))
 exact ⟨rfl, rfl⟩
theorem aB.yt {s : List Value} {h i : Nat} (H : aB w0 w (wF s h E • F)) (hi : i < E.length) : jG w .i32 (s.getD ((h + i) % 60) undef) (E.getD i []) := let ⟨I, k, hI⟩ := H.uf; (k i hi).rd hI
theorem qV {s : List Value} {h n m : Nat} {t : TypeId} {fr : Nat × Nat} {k : Nat} (hs : s.length = 60) (hh : h < 60) (hk : k < 60) (hb : w.heap[p]? = some (.cells (bT s h n m) t fr)) :
  fQ prog 137 #[.pointer (some ⟨p, 0, none⟩), .int .i64 k] w fun v w' => v = s.getD ((h + k) % 60) undef ∧ qc w w' := by
 refine gX func137 ntmps137 ?_
 dsimp only [bg, Nat.reduceAdd]
 refine ay (ah (aV rfl (aA (aj (ay ?_)))))
 refine kN (n := 13) [0, 1, 2, 3, 4, 5, 6, 7, 8, 9, 10, 11, 12] (fun W => W.heap = w.heap) (by kernel_rfl) (by kernel_rfl) rfl ?_
 have hS0 : (fun W => W.heap = w.heap) (w.drew) := rfl
 refine fU 0 rfl hS0 rfl (fU 1 rfl hS0 rfl (iT 2 rfl hS0 rfl (dP 3 rfl hS0 61 underlying155 rfl sizeOf3 rfl ?_)))
 refine gQ 4 rfl hS0 (fun W hW => iI underlying3 rfl (by rw [hW]; exact hb) (vH hs)) ?_
 refine fU 5 rfl hS0 rfl (iJ 6 rfl hS0 (fun _ => eP rfl rfl (by omega)) ?_)
 refine iJ 7 rfl hS0 (fun _ => VZ rfl rfl (by omega) (by  omega)) ?_
 refine iT 8 rfl hS0 rfl (dP 9 rfl hS0 1 underlying155 rfl sizeOf153 rfl (iJ 10 rfl hS0 (fun _ => oI underlying153 sizeOf22 rfl rfl (by omega)) ?_))
 refine gQ 11 rfl hS0 (fun W hW => iI underlying22 rfl (by rw [hW]; exact hb) (by rw [show (1 + (((h : Int) + (k : Int)) % 60).toNat * 1) = 1 + (h + k) % 60 from by omega]; exact G9 hs (by omega))) ?_
 refine iJ 12 rfl hS0 (fun _ => fO rfl) (mg (aj (aJ (aP (.inl rfl) results137 rfl ?_))))
 exact ⟨rfl, ⟨1, rfl⟩⟩
theorem IY (H : aB w0 w (bY p E place • F)) : fQ prog 80 #[.pointer (some ⟨p, 0, none⟩)] w fun v w' => v = .int .i64 E.length ∧ w = w' := by
 obtain ⟨s, h, hs, hh, hE, hp, hm, ho, H1⟩ := H.ring
 have hb := H1.get.2
 refine gX func80 ntmps80 ?_
 dsimp only [bg, Nat.reduceAdd]
 refine ay (ah (aV rfl (aA (aj (ay (ay (ah (aO rfl (dw rfl func135 (iK _ hb uM) ?_)))))))))
 rintro _ _ ⟨rfl, rfl⟩
 refine aA (aj (qN (aS (aj (ay (ah (aO rfl (bH rfl (aZ 62 underlying155 rfl sizeOf3 rfl (cO underlying3 rfl hb (jU hs) (aV rfl (aA (aj (aJ (aP (.inl rfl) results80 rfl ?_)))))))))))))))
 exact ⟨rfl, rfl⟩
theorem IZ {s : List Value} {u : Value} {i : Nat} (h : ∀ v ∈ s, v.oneCell' = true) (hu : u.oneCell' = true) : ∀ v ∈ s.set i u, v.oneCell' = true := by
  intro v hv
  rcases List.mem_or_eq_of_mem_set hv with hv | rfl
  · exact h v hv
  · exact hu
theorem Nj {I : Hp} {s : List Value} {h : Nat} {l : List Int} {v : Value} (hs : s.length = 60) (hh : h < 60) (hE : E.length ≤ 60) (hS : J7 I s h E) (hv : y8 I .i32 v l) :
    J7 I (s.set ((h + 59) % 60) v) ((h + 59) % 60) ((l :: E).take 60) := by
  intro i hi
  have ab9 : i < 60 ∧ i < E.length + 1 := by simp at hi; omega
  rw [List.getD_eq_getElem?_getD (l := (l :: E).take 60), List.getElem?_take, if_pos (by omega)]
  cases i with
  | zero =>
    have e : ((h + 59) % 60 + 0) % 60 = (h + 59) % 60 := by omega
    rw [e, List.getD_eq_getElem?_getD, List.getElem?_set_self (by omega)]
    exact hv
  | succ i =>
    have e : ((h + 59) % 60 + (i + 1)) % 60 = (h + i) % 60 := by omega
    have hne : ¬ (h + 59) % 60 = (h + i) % 60 := by omega
    rw [e, List.getD_eq_getElem?_getD, List.getElem?_set_ne hne, ← List.getD_eq_getElem?_getD]
    have := hS i (by omega)
    simpa [List.getD_eq_getElem?_getD] using this
theorem qI {v : Value} {l : List Int} (H : aB w0 w (bY p E place • F)) (hr : iU w0 F .i32 v l) (hl : l.length ≤ 1024) :
    fQ prog 166 #[.pointer (some ⟨p, 0, none⟩), v] w fun _ w' => aB w0 w' (bY p ((l :: E).take 60) 0 • F) := by
  obtain ⟨s, h, hs, hh, hE, hp, hm, ho, H⟩ := H.ring
  have hh' : (h + 59) % 60 < 60 := by omega
  refine gX func166 ntmps166 ?_
  dsimp only [bg, Nat.reduceAdd]
  refine ay (ah (aO rfl (aO rfl (bH rfl (aZ 61 underlying155 rfl sizeOf3 rfl (cO underlying3 rfl H.get.2 (vH hs) (aU (eP rfl rfl (by omega)) (aU (jB rfl rfl (by omega)) ?_))))))))
  refine aU (VZ rfl rfl (by omega) (by  omega)) ?_
  refine bH rfl (aZ 61 underlying155 rfl sizeOf3 rfl (aI (dO H sizeOf3 rfl rfl rfl (by rw [je hs]; decide)) ?_))
  rintro _ w1 H1
  rw [show (((h : Int) + 60 - 1) % 60) = (((h + 59) % 60 : Nat) : Int) from by omega, F7 hs] at H1
  refine aA (aj (ay ?_))
  refine kN (n := 11) [0, 1, 2, 3, 4, 5, 6, 7, 8, 9, 10] (fun W => W.heap[p]? = some (.cells (bT s ((h + 59) % 60) E.length place) 155 (0, 0))) (by kernel_rfl) (by kernel_rfl) rfl ?_
  have hS0 : (fun W => W.heap[p]? = some (.cells (bT s ((h + 59) % 60) E.length place) 155 (0, 0))) (w1.drew) := H1.get.2
  have H1d := H1.drew
  refine fU 0 rfl hS0 rfl (fU 1 rfl hS0 rfl (iT 2 rfl hS0 rfl (dP 3 rfl hS0 61 underlying155 rfl sizeOf3 rfl (gQ 4 rfl hS0 (fun W hW => iI underlying3 rfl hW (vH hs)) (fU 5 rfl hS0 rfl (iT 7 rfl hS0 rfl (dP 8 rfl hS0 1 underlying155 rfl sizeOf153 rfl (jH 6 rfl (rU rfl func136 (oK H1d hr.under.under (by omega))) ?_))))))))
  rintro u w2 H2
  have hS2 : (fun W => W.heap[p]? = some (.cells (bT s ((h + 59) % 60) E.length place) 155 (0, 0))) w2 := H2.swap.get.2
  refine Ar hS2 ?_
  refine iJ 9 rfl hS2 (fun _ => oI underlying153 sizeOf22 rfl rfl (by omega)) ?_
  refine dB 10 rfl (by kernel_rfl) (dO H2.swap sizeOf22 rfl rfl H2.aT.one (by rw [je hs]; omega)) ?_
  rintro _ w3 H3
  rw [show (1 + ((((h + 59) % 60 : Nat) : Int)).toNat * 1) = 1 + (h + 59) % 60 from by omega, uN hs hh'] at H3
  have hs' : (s.set ((h + 59) % 60) u).length = 60 := by simp [hs]
  have ho' := IZ ho (u := u) (i := (h + 59) % 60) H2.aT.one
  refine Ea (by kernel_rfl) ?_
  refine mg (aj (ay (ah (aO rfl (aO rfl (bH rfl (aZ 62 underlying155 rfl sizeOf3 rfl (cO underlying3 rfl H3.get.2 (jU hs') (aU (eP rfl rfl (by omega)) (aU (Oq rfl rfl) (bH rfl (aZ 62 underlying155 rfl sizeOf3 rfl (aI (dO H3 sizeOf3 rfl rfl rfl (by rw [je hs']; decide)) ?_)))))))))))))
  rintro _ w4 H4
  rw [show min ((E.length : Int) + 1) 60 = ((min (E.length + 1) 60 : Nat) : Int) from by omega, F8 hs'] at H4
  refine aA (aj (ah (aO rfl (bH rfl (aZ 63 underlying155 rfl sizeOf3 rfl (aI (dO H4 sizeOf3 rfl rfl rfl (by rw [je hs']; decide)) ?_))))))
  rintro _ w5 H5
  rw [show (Value.int .i64 0) = .int .i64 ((0 : Nat) : Int) from rfl, jk hs'] at H5
  refine aA (dN (.inr rfl) results166 ?_)
  have hlen : ((l :: E).take 60).length = min (E.length + 1) 60 := by simp; omega
  refine aB.pF hs' hh' (by omega) (.inr rfl) ?_ ho' ?_
  · intro e he
    rcases List.mem_cons.1 (List.mem_of_mem_take he) with rfl | he
    · exact hl
    · exact hm e he
  · rw [hlen]
    exact (H5.swap.kT.FQ.DF (qQ (fun I a b => Nj hs hh hE a b) _)).swap
end
end Go.Proofs.YtgmpclifphbjkaaGreatDoor
end
