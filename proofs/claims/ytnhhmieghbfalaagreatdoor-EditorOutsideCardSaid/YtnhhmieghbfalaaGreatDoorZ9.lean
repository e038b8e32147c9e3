import Derived.Test.YtnhhmieghbfalaaGreatDoorZ4
import Derived.Test.YtnhhmieghbfalaaGreatDoorZ8
import Derived.Test.YtnhhmieghbfalaaGreatDoorZ6
import Derived.Test.YtnhhmieghbfalaaGreatDoorZ5
set_option linter.unusedSimpArgs false
set_option linter.unusedVariables false
/- Texts of mine, joined, their names in short: BufP Ring Ring2 Ring3 RingAny. -/
section
namespace Go.Proofs.YtnhhmieghbfalaaGreatDoor
open Go.RowKit
open _root_.Go.Proofs.Tryz
def lG (L : List Int) (i j : Int) (l : List Int) : Int := if i < 0 ∨ L.length < i ∨ j < i ∨ L.length < j then 70 else if 1024 < L.length - (j - i) + l.length then 3 else 0
def nP (L : List Int) (i j : Int) (l : List Int) : List Int := if lG L i j l = 0 then L.take i.toNat ++ l ++ L.drop j.toNat else L
def wo (L : List Int) (pt i j : Int) (l : List Int) : Int := if lG L i j l = 0 then fK pt i j l.length else pt
def wu (L : List Int) (mk i j : Int) (l : List Int) : Int := if lG L i j l = 0 then fQ mk i j l.length else mk
def yw (L : List Int) (i j : Int) (l : List Int) : Int := if lG L i j l = 0 then i else 0
def nU (L : List Int) (i j : Int) (l : List Int) : List Int := if lG L i j l = 0 then (L.drop i.toNat).take (j - i).toNat else []
def nV (L : List Int) (i j : Int) (l : List Int) : List Int := if lG L i j l = 0 then l else []
section
variable {w0 w : World} {F : HP} {p : Nat} {L : List Int} {pt mk : Int} {v d s : Value} {l dl il : List Int} {i j a x : Int}
theorem Jb (H : V w0 w (jC p L pt mk • F)) (hr : jZ w0 F .i32 v l) :
    iK prog 137 #[.pointer (some ⟨p, 0, none⟩), .int .i64 i, .int .i64 j, v] w fun v' w' => ∃ d s, v' = .tuple #[.agg #[.int .i64 (yw L i j l), d, s], .int .i64 (lG L i j l)] ∧
      V w0 w' (kF 21 .i32 d (nU L i j l) • kF 21 .i32 s (nV L i j l) • jC p (nP L i j l) (wo L pt i j l) (wu L mk i j l) • F) := by
  unfold yw nP wo wu nU nV
  by_cases h1 : i < 0 ∨ L.length < i ∨ j < i ∨ L.length < j
  · have e : lG L i j l = 70 := by unfold lG; rw [if_pos h1]
    simp only [e, show ¬ (70 : Int) = 0 from by decide, if_false]
    exact (P8 H hr h1).mono fun v' w' h => ⟨_, _, h.1, (h.2.Dk none).Dk none⟩
  · have h2 : 0 ≤ i ∧ i ≤ j ∧ j ≤ L.length := by omega
    by_cases h3 : 1024 < L.length - (j - i) + l.length
    · have e : lG L i j l = 3 := by unfold lG; rw [if_neg h1, if_pos h3]
      simp only [e, show ¬ (3 : Int) = 0 from by decide, if_false]
      exact (Ov H hr h2 h3).mono fun v' w' h => ⟨_, _, h.1, (h.2.Dk none).Dk none⟩
    · have e : lG L i j l = 0 := by unfold lG; rw [if_neg h1, if_neg h3]
      simp only [e, if_true]
      obtain ⟨i', rfl⟩ := Int.eq_ofNat_of_zero_le h2.1
      obtain ⟨j', rfl⟩ := Int.eq_ofNat_of_zero_le (show 0 ≤ j by omega)
      have hij : i' ≤ j' ∧ j' ≤ L.length := by omega
      have := Rx (i := i') (j := j') H hr hij (by omega)
      simpa only [Int.toNat_natCast, show ((j' : Int) - (i' : Int)).toNat = j' - i' from by omega, iq] using this
def smE (L : List Int) (x : Int) : Int := if x < -1 ∨ L.length < x then 70 else 0
def ZL (L : List Int) (mk x : Int) : Int := if x < -1 ∨ L.length < x then mk else x
theorem Jc (H : V w0 w (jC p L pt mk • F)) : iK prog 86 #[.pointer (some ⟨p, 0, none⟩), .int .i64 x] w fun v' w' => v' = .int .i64 (smE L x) ∧ V w0 w' (jC p L pt (ZL L mk x) • F) := by
 unfold smE ZL
 have hL : L.length ≤ 1024 := by obtain ⟨a, c, xs, f, t, h1, h2, h3, h4, h5, h6, h7, hc1, hc2, hl, H1⟩ := H.buf; exact h4
 refine nO func86 ntmps86 ?_
 refine kG O (aI (bK (bT O (fH O func136 (vY H) ?_))))
 rintro _ _ ⟨rfl, rfl⟩
 refine iU O (yh (bT O (aT (fJ O O) (nS O (fun h1 => ?_) (fun h1 => ?_)))))
 ·(try simp only [aG] at h1)
  refine dB (dB (dB (dB (mQ O O (iU O (DZ (jE O (aY (aC (dO results86 O ?_))))))))))
  exact ⟨by rw [if_pos (by omega)], by rw [if_pos (by omega)]; exact H⟩
 ·(try simp only [aG] at h1)
  refine bJ (cO O (bJ (cO O (bJ (fH O func73 (tJ H) ?_)))))
  rintro _ w2 ⟨rfl, hD2⟩
  have HD2 := H.yg hD2
  refine bJ (aT (fZ O O) (kP O O (iU O (dw O (fun h2 => ?_) (fun h2 => ?_)))))
  ·(try simp only [aG] at h2)
   refine jE O (aY (aC (dO results86 O ?_)))
   exact ⟨by rw [if_pos (by omega)], by rw [if_pos (by omega)]; exact HD2⟩
  ·(try simp only [aG] at h2)
   refine eG (aS (aZ (aI ?_)))
   obtain ⟨ai8, ai9, aja, f_p, t_p, aah, aai, aaj, aak, aal, acr, ajb, ajc, ajd, agW, Yd⟩ := (HD2).buf
   refine aF (ku O O (dM O (bg 5 bV O ah O (aH (iw 5 (l' := [_, _, _, _, _, _]) Yd ah O O (by first | rfl | assumption) O O) ?_))))
   rintro _ w4 H4
   refine iR (jE O (dO results86 O ?_))
   exact ⟨by rw [if_neg (by omega)], by rw [if_neg (by omega)]; exact V.zh aah aai aaj aak aal acr (by omega) H4.f2.f2⟩
def swE (mk : Int) : Int := if mk < 0 then 6 else 0
def swP (pt mk : Int) : Int := if mk < 0 then pt else mk
def swM (pt mk : Int) : Int := if mk < 0 then mk else pt
theorem Wh (H : V w0 w (jC p L pt mk • F)) : iK prog 88 #[.pointer (some ⟨p, 0, none⟩)] w fun v' w' => v' = .int .i64 (swE mk) ∧ V w0 w' (jC p L (swP pt mk) (swM pt mk) • F) := by
 unfold swE swP swM
 refine jl func88 ntmps88 ?_
 refine kG O (aI (bK (bT O (fH O func136 (vY H) ?_))))
 rintro _ _ ⟨rfl, rfl⟩
 refine iU O (yh (aI ?_))
 obtain ⟨ai8, ai9, aja, f_p, t_p, aah, aai, aaj, aak, aal, acr, ajb, ajc, ajd, agW, Yd⟩ := (H).buf
 refine aF (kY O O (bg 5 bV O ah O (dQ ay O (Yd).get.2 O (aT (fJ O O) (iU O (dw O (fun h1 => ?_) (fun h1 => ?_)))))))
 ·(try simp only [aG] at h1)
  refine jE O (aY (aC (dO results88 O ?_)))
  exact ⟨by rw [if_pos (by omega)], by rw [if_pos (by omega), if_pos (by omega)]; exact V.zh aah aai aaj aak aal acr (by omega) Yd.f2.f2⟩
 ·(try simp only [aG] at h1)
  refine eG (aS (aZ (aI ?_)))
  have aje := Yd.drew
  have Gz := V.kp (aje.f2.f2)
  refine tH [5, 9] Gz O (fM 0 O Gz O (fM 1 O Gz O (fM 2 O Gz O (jF 3 O Gz O (eP 4 O Gz 5 bV O ah O (iD 5 O Gz (fun W hW => jk ay O ((Kp.h hW)).get.2 O) (fM 6 O Gz O (jF 7 O Gz O (eP 8 O Gz 4 bV O ah O (iD 9 O Gz (fun W hW => jk ay O ((Kp.h hW)).get.2 O) (jF 10 O Gz O (eP 11 O Gz 4 bV O ah O ?_))))))))))))
  refine gW 12 O (by kernel_rfl) (iw 4 (l' := [_, _, _, _, _, _]) aje ah O O (by first | rfl | assumption) O O) ?_
  rintro _ w3 H3
  have lW := V.kp (H3.f2.f2)
  refine dX lW (by kernel_rfl) ?_
  refine jF 13 O lW O (eP 14 O lW 5 bV O ah O ?_)
  refine gW 15 O (by kernel_rfl) (iw 5 (l' := [_, _, _, _, _, _]) H3 ah O O (by first | rfl | assumption) O O) ?_
  rintro _ w4 H4
  have ng := V.kp (H4.f2.f2)
  refine dX ng (by kernel_rfl) ?_
  refine oH (aZ (jE O (dO results88 O ?_)))
  exact ⟨by rw [if_neg (by omega)], by rw [if_neg (by omega), if_neg (by omega)]; exact V.zh aah aai aaj aak aal (by omega) (by omega) H4.f2.f2⟩
theorem Uh (H : V w0 w (jC p L pt mk • F)) : iK prog 78 #[.pointer (some ⟨p, 0, none⟩)] w fun v' w' => ∃ q, v' = .pointer (some ⟨q, 0, none⟩) ∧ V w0 w' (jC q L pt mk • jC p L pt mk • F) := by
 refine jl func78 ntmps78 ?_
 refine kG O (aI (bT O (fH O func136 (vY H) ?_)))
 rintro _ _ ⟨rfl, rfl⟩
 refine iR (yh (gX (aI ?_)))
 obtain ⟨ai8, ai9, aja, f_p, t_p, aah, aai, aaj, aak, aal, acr, ajb, ajc, ajd, agW, Yd⟩ := (H).buf
 refine aF (kY O O (aT (dU bV O sizeOf168 O O (Yd).get.2) (jT (iI (l := [_, _, _, _, _, _]) Yd zeroValue168 O) ?_)))
 rintro _ w3 ⟨b3, rfl, H3⟩
 refine aH (dR 0 (l' := [_, _, _, _, _, _]) (us := [_, _, _, _, _, _]) H3 sizeOf168 O O O (aP (bD (by first | rfl | exact Rd.one ((H3.f3).aJ)) (aP (aP (aP (aP bW)))))) O O) ?_
 rintro _ w4 H4
 refine qG O (dM O (bg 1 bV O bI O (dQ aB O (H4.f2).get.2 O (fH O func144 (Aw H4 (fun W HW => (HW.f3).aJ) (by omega)) ?_))))
 rintro u5 w5 H5
 refine bg 1 bV O bI O (aH (iw 1 (l' := [_, _, _, _, _, _]) H5.f2 bI O O (by first | rfl | exact Rd.one ((H5).aJ)) O O) ?_)
 rintro _ w6 H6
 refine iR (jE O (dO results78 O ?_))
 exact ⟨_, O, (V.zh aah aai aaj aak aal acr (by omega) (V.zh aah aai aaj aak aal acr (by omega) H6.f4.f4.f4.f4).f2.f3.f2).f2⟩
def Dq (L : List Int) (a : Int) (dl : List Int) : Bool := decide ((dl.length : Int) ≤ L.length - a) && ((L.drop a.toNat).take dl.length == dl)
def CO (L : List Int) (a : Int) (dl il : List Int) : Int := if a < 0 ∨ L.length < a then 70 else if Dq L a dl then lG L a (a + dl.length) il else 71
def Ed (L : List Int) (a : Int) (dl il : List Int) : List Int := if CO L a dl il = 0 then nP L a (a + dl.length) il else L
def Qa (L : List Int) (pt a : Int) (dl il : List Int) : Int := if CO L a dl il = 0 then wo L pt a (a + dl.length) il else pt
def Qb (L : List Int) (mk a : Int) (dl il : List Int) : Int := if CO L a dl il = 0 then wu L mk a (a + dl.length) il else mk
theorem KU (H : V w0 w (jC p L pt mk • F)) (hd : jZ w0 F .i32 d dl) (hi : jZ w0 F .i32 s il) : iK prog 158 #[.pointer (some ⟨p, 0, none⟩), .agg #[.int .i64 a, d, s]] w fun v' w' =>
    v' = .int .i64 (CO L a dl il) ∧ V w0 w' (jC p (Ed L a dl il) (Qa L pt a dl il) (Qb L mk a dl il) • F) := by
  have hL : L.length ≤ 1024 := by obtain ⟨a, c, xs, f, t, h1, h2, h3, h4, h5, h6, h7, hc1, hc2, hl, H1⟩ := H.buf; exact h4
  refine nO func158 ntmps158 ?_
  refine kQ (jT (kZ (l := [_, _, _]) H O O) ?_)
  rintro _ w1 ⟨b1, rfl, H1⟩
  refine vI O (bK (bT O (fH O func136 (vY H1.f2) ?_)))
  rintro _ _ ⟨rfl, rfl⟩
  refine iU O (yh (aI ?_))
  have Jl := H1.drew
  have jX := V.kp (Jl.f2.f2)
  refine tH [1, 5] jX O (eP 0 O jX 0 aQ O ah O (iD 1 O jX (fun W hW => jk ay O ((Kp.h hW)).get.2 O) (iE 2 O jX (fun _ => fJ O O) ?_)))
  refine rO 3 O O (by kernel_rfl) (by kernel_rfl) jX (iO O) (fun h1 => ?_) (fun h1 => ?_)
  · (try simp only [aG] at h1)
    refine jB 4 O O O O (by kernel_rfl) (by kernel_rfl) jX (iO O) ?_
    refine jB 5 O O O O (by kernel_rfl) (by kernel_rfl) jX (iO O) ?_
    refine jB 6 O O O O (by kernel_rfl) (by kernel_rfl) jX (iO O) ?_
    refine jB 7 O O O O (by kernel_rfl) (by kernel_rfl) jX (iO O) ?_
    refine jB 8 O O O O (by kernel_rfl) (by kernel_rfl) jX (iO O) ?_
    refine iE 9 O jX (fun _ => oP O O) (iE 10 O jX (fun _ => eH O) (oH (aZ (DZ (jE O (aY (aC (dO results158 O ?_))))))))
    have e : CO L a dl il = 70 := by unfold CO; rw [if_pos (by omega)]
    unfold Ed Qa Qb
    rw [e]
    exact ⟨O, Jl.right⟩
  · (try simp only [aG] at h1)
    refine bQ 4 O O O (by kernel_rfl) (by kernel_rfl) jX (fun _ => xH 0 aQ O O ah (by decide) O rfl) (iO O) ?_
    refine jW 5 O O O (by kernel_rfl) (by kernel_rfl) jX (by decide) (fun W hW => fB (dG ay O) O (iP ((Kp.h hW)).get.2 O)) (iO O) ?_
    refine bQ 6 O O O (by kernel_rfl) (by kernel_rfl) jX (fun _ => oh O) (iO O) ?_
    refine kJ 7 O O O (by kernel_rfl) (nM (nX O func73 O O) (tJ Jl.f2)) (iO O) ?_
    rintro _ w3 ⟨rfl, hD3⟩
    have HD3 := Jl.yg hD3
    have lW := V.kp (HD3.f2.f2)
    refine dZ lW (fun W hW => (Kp.h hW).f2.f2) ?_
    refine bQ 8 O O O (by kernel_rfl) (by kernel_rfl) lW (fun _ => fZ O O) (iO O) ?_
    refine iE 9 O lW (fun _ => y5 O O) (iE 10 O lW (fun _ => eH O) (oH (aZ (dw O (fun h2 => ?_) (fun h2 => ?_)))))
    · (try simp only [aG] at h2)
      refine jE O (aY (aC (dO results158 O ?_)))
      have e : CO L a dl il = 70 := by unfold CO; rw [if_pos (by omega)]
      unfold Ed Qa Qb
      rw [e]
      exact ⟨O, HD3.right⟩
    · (try simp only [aG] at h2)
      refine aI ?_
      have MX := HD3.drew
      have qj := V.kp (MX.f2.f2)
      refine tH [1, 6, 13, 15, 17, 22] qj O (eP 0 O qj 1 aQ O bI O (iD 1 O qj (fun W hW => jk aB O ((Kp.h hW)).get.2 O) (iE 2 O qj (fun _ => kT (hd _ (MX.right.right)) aB O) (fM 3 O qj O (eP 5 O qj 0 aQ O ah O (iD 6 O qj (fun W hW => jk ay O ((Kp.h hW)).get.2 O) (lC 4 O (qW O func73 (tJ MX.f2)) ?_)))))))
      rintro _ w4 ⟨rfl, hD4⟩
      have HD4 := MX.yg hD4
      have ng := V.kp (HD4.f2.f2)
      refine dZ ng (fun W hW => (Kp.h hW).f2.f2) ?_
      refine iE 7 O ng (fun _ => nN O O (by omega)) (iE 8 O ng (fun _ => fZ O O) ?_)
      refine rO 9 O O (by kernel_rfl) (by kernel_rfl) ng (iO O) (fun h3 => ?_) (fun h3 => ?_)
      · (try simp only [aG] at h3)
        refine jB 10 O O O O (by kernel_rfl) (by kernel_rfl) ng (iO O) ?_
        refine jB 11 O O O O (by kernel_rfl) (by kernel_rfl) ng (iO O) ?_
        refine jB 12 O O O O (by kernel_rfl) (by kernel_rfl) ng (iO O) ?_
        refine jB 13 O O O O (by kernel_rfl) (by kernel_rfl) ng (iO O) ?_
        refine jB 14 O O O O (by kernel_rfl) (by kernel_rfl) ng (iO O) ?_
        refine jB 15 O O O O (by kernel_rfl) (by kernel_rfl) ng (iO O) ?_
        refine jB 16 O O O O (by kernel_rfl) (by kernel_rfl) ng (iO O) ?_
        refine jB 17 O O O O (by kernel_rfl) (by kernel_rfl) ng (iO O) ?_
        refine jB 18 O O O O (by kernel_rfl) (by kernel_rfl) ng (iO O) ?_
        refine jB 19 O O O O (by kernel_rfl) (by kernel_rfl) ng (iO O) ?_
        refine jB 20 O O O O (by kernel_rfl) (by kernel_rfl) ng (iO O) ?_
        refine jB 21 O O O O (by kernel_rfl) (by kernel_rfl) ng (iO O) ?_
        refine jB 22 O O O O (by kernel_rfl) (by kernel_rfl) ng (iO O) ?_
        refine jB 23 O O O O (by kernel_rfl) (by kernel_rfl) ng (iO O) ?_
        refine jB 24 O O O O (by kernel_rfl) (by kernel_rfl) ng (iO O) ?_
        refine iE 25 O ng (fun _ => oP O O) (iE 26 O ng (fun _ => eH O) (oH (aZ (DZ (jE O (aY (aC (dO results158 O ?_))))))))
        have e1 : (a + dl.length).toNat - a.toNat = dl.length := by omega
        have hf : Dq L a dl = false := by
          simp only [Dq, Bool.and_eq_false_iff, decide_eq_false_iff_not, beq_eq_false_iff_ne, ne_eq]
          first
            | (refine .inl ?_; omega)
            | (refine .inr ?_; rw [e1] at hcond; exact hcond)
        have e : CO L a dl il = 71 := by unfold CO; rw [if_neg (by omega), hf]; rfl
        unfold Ed Qa Qb
        rw [e]
        exact ⟨O, HD4.right⟩
      · (try simp only [aG] at h3)
        refine bQ 10 O O O (by kernel_rfl) (by kernel_rfl) ng (fun _ => oh O) (iO O) ?_
        refine bQ 12 O O O (by kernel_rfl) (by kernel_rfl) ng (fun _ => xH 0 aQ O O ah (by decide) O rfl) (iO O) ?_
        refine jW 13 O O O (by kernel_rfl) (by kernel_rfl) ng (by decide) (fun W hW => fB (dG ay O) O (iP ((Kp.h hW)).get.2 O)) (iO O) ?_
        refine bQ 14 O O O (by kernel_rfl) (by kernel_rfl) ng (fun _ => xH 0 aQ O O ah (by decide) O rfl) (iO O) ?_
        refine jW 15 O O O (by kernel_rfl) (by kernel_rfl) ng (by decide) (fun W hW => fB (dG ay O) O (iP ((Kp.h hW)).get.2 O)) (iO O) ?_
        refine bQ 16 O O O (by kernel_rfl) (by kernel_rfl) ng (fun _ => xH 1 aQ O O bI (by decide) O rfl) (iO O) ?_
        refine jW 17 O O O (by kernel_rfl) (by kernel_rfl) ng (by decide) (fun W hW => fB (dG aB O) O (iP ((Kp.h hW)).get.2 O)) (iO O) ?_
        refine bQ 18 O O O (by kernel_rfl) (by kernel_rfl) ng (fun _ => kT (hd _ (HD4.right.right)) aB O) (iO O) ?_
        refine bQ 19 O O O (by kernel_rfl) (by kernel_rfl) ng (fun _ => gY O O (by omega)) (iO O) ?_
        refine bQ 21 O O O (by kernel_rfl) (by kernel_rfl) ng (fun _ => xH 1 aQ O O bI (by decide) O rfl) (iO O) ?_
        refine jW 22 O O O (by kernel_rfl) (by kernel_rfl) ng (by decide) (fun W hW => fB (dG aB O) O (iP ((Kp.h hW)).get.2 O)) (iO O) ?_
        refine kJ 11 O O O (by kernel_rfl) (nM (nX O func154 O O) (yF HD4.f2)) (iO O) ?_
        rintro u5 w5 H5
        have zQ := V.kp (H5.f3.f3.f3)
        refine dZ zQ (fun W hW => (Kp.h hW).right.f2) ?_
        refine bQ 20 O O O (by kernel_rfl) (by kernel_rfl) zQ (fun _ => rP ((H5).aJ) aB jU O O O (by omega)) (iO O) ?_
        refine kJ 23 O O O (by kernel_rfl) (nM (nX O func62 O O) (Gx _ _ _ _ _ (mP.cut ((H5).aJ) (by omega) (by omega)) (hd _ (H5.right.right.right)))) (iO O) ?_
        rintro _ w6 ⟨rfl, hD6⟩
        have HD6 := H5.yg hD6
        have Am := V.kp (HD6.f3.f3.f3)
        refine dX Am (by kernel_rfl) ?_
        refine bQ 24 O O O (by kernel_rfl) (by kernel_rfl) Am (fun _ => jG O) (iO O) ?_
        refine iE 25 O Am (fun _ => y5 O O) (iE 26 O Am (fun _ => eH O) (oH (aZ (dw O (fun h4 => ?_) (fun h4 => ?_)))))
        · (try simp only [aG] at h4)
          have hcond := h4
          refine jE O (aY (aC (dO results158 O ?_)))
          have e1 : (a + dl.length).toNat - a.toNat = dl.length := by omega
          have hf : Dq L a dl = false := by
            simp only [Dq, Bool.and_eq_false_iff, decide_eq_false_iff_not, beq_eq_false_iff_ne, ne_eq]
            first
              | (refine .inl ?_; omega)
              | (refine .inr ?_; rw [e1] at hcond; exact hcond)
          have e : CO L a dl il = 71 := by unfold CO; rw [if_neg (by omega), hf]; rfl
          unfold Ed Qa Qb
          rw [e]
          exact ⟨O, HD6.right.f2.right⟩
        · (try simp only [aG] at h4)
          have hcond := h4
          refine eG (aS (aZ (bT O (bg 0 aQ O ah O (dQ ay O (HD6.f3).get.2 O (bg 0 aQ O ah O (dQ ay O (HD6.f3).get.2 O (bg 1 aQ O bI O (dQ aB O (HD6.f3).get.2 O (aT (kT (hd _ (HD6.right.right.right)) aB O) (aT (gY O O (by omega)) (bg 2 aQ O bI O (dQ aB O (HD6.f3).get.2 O (fH O func137 (Jb HD6.f2 (fun W HW => hi _ (HW.right.right))) ?_))))))))))))))
          rintro _ w7 ⟨d7, s7, rfl, H7⟩
          refine cO O (xY O O (xY O O (jT (iI (l := [_, _, _]) H7 cZ O) ?_)))
          rintro _ w8 ⟨b8, rfl, H8⟩
          refine aH (dR 0 (l' := [_, _, _]) (us := [_, _, _]) H8 bM O O O (aP (bD (by first | rfl | exact Rd.one ((H8.f2).aJ)) (bD (by first | rfl | exact Rd.one ((H8.f3).aJ)) bW))) O O) ?_
          rintro _ w9 H9
          refine iU O (bT O (iJ O (dO results158 O ?_)))
          have e1 : (a + dl.length).toNat - a.toNat = dl.length := by omega
          have hf : Dq L a dl = true := by
            simp only [Dq, Bool.and_eq_true, decide_eq_true_eq, beq_iff_eq]
            exact ⟨by omega, by rw [e1] at hcond; exact hcond⟩
          have e : CO L a dl il = lG L a (a + dl.length) il := by unfold CO; rw [if_neg (by omega), if_pos hf]
          refine ⟨by rw [e]; rfl, ?_⟩
          unfold Ed Qa Qb
          rw [e]
          by_cases h0 : lG L a (a + dl.length) il = 0
          · simp only [if_pos h0]; exact H9.right.right.right.f2.right.f2.right
          · simp only [if_neg h0]
            have H9 := H9.right.right.right.f2.right.f2.right
            unfold nP wo wu at H9
            simpa only [if_neg h0] using H9
end
def gq (s : List Value) (h n p : Nat) : Array Value := (Value.bool true :: (s ++ [.int .i64 h, .int .i64 n, .int .i64 p])).toArray
section
variable {s : List Value} {h n p : Nat}
theorem uh (hs : s.length = 60) : (gq s h n p).size = 64 := by simp [gq, hs]
theorem F7 : (gq s h n p)[0]? = some (.bool true) := by simp [gq]
theorem U8 (hs : s.length = 60) {i : Nat} (hi : i < 60) : (gq s h n p)[1 + i]? = some (s.getD i undef) := by
  simp [gq, Nat.add_comm 1 i, List.getElem?_append_left (show i < s.length by omega), List.getD_eq_getElem?_getD, show i < s.length by omega]
theorem GH (hs : s.length = 60) : (gq s h n p)[61]? = some (.int .i64 h) := by simp [gq, hs]
theorem vN (hs : s.length = 60) : (gq s h n p)[62]? = some (.int .i64 n) := by simp [gq, hs]
theorem RD (hs : s.length = 60) : (gq s h n p)[63]? = some (.int .i64 p) := by simp [gq, hs]
theorem Ui (hs : s.length = 60) (x : Nat) : (gq s h n p).setIfInBounds 61 (.int .i64 x) = gq s x n p := by
  apply Array.ext'; simp [gq, List.set_append, hs]
theorem Uj (hs : s.length = 60) (x : Nat) : (gq s h n p).setIfInBounds 62 (.int .i64 x) = gq s h x p := by
  apply Array.ext'; simp [gq, List.set_append, hs]
theorem xM (hs : s.length = 60) (x : Nat) : (gq s h n p).setIfInBounds 63 (.int .i64 x) = gq s h n x := by
  apply Array.ext'; simp [gq, List.set_append, hs]
theorem F8 (hs : s.length = 60) {i : Nat} (hi : i < 60) (v : Value) : (gq s h n p).setIfInBounds (1 + i) v = gq (s.set i v) h n p := by
  apply Array.ext'; simp [gq, Nat.add_comm 1 i, List.set_append, hs, hi]
end
def Ye (I : Hp) (s : List Value) (h : Nat) (E : List (List Int)) : Prop := ∀ i, i < E.length → KD I .i32 (s.getD ((h + i) % 60) undef) (E.getD i [])
def Ik (s : List Value) (h : Nat) (E : List (List Int)) : HP := know (fun I => Ye I s h E) fun _ _ hl hk i hi => (hk i hi).mono hl
def iG (p : Nat) (E : List (List Int)) (place : Nat) : HP := BK fun (x : List Value × Nat) =>
  fact (x.1.length = 60 ∧ x.2 < 60 ∧ E.length ≤ 60 ∧ (place < E.length ∨ place = 0) ∧ (∀ e ∈ E, e.length ≤ 1024) ∧ ∀ v ∈ x.1, v.oneCell' = true) • gU p (.cells (gq x.1 x.2 E.length place) 166 (0, 0)) • Ik x.1 x.2 E
section
variable {w0 w : World} {F : HP} {p place : Nat} {E : List (List Int)}
theorem V.ring (H : V w0 w (iG p E place • F)) : ∃ s h, s.length = 60 ∧ h < 60 ∧ E.length ≤ 60 ∧ (place < E.length ∨ place = 0) ∧ (∀ e ∈ E, e.length ≤ 1024) ∧ (∀ v ∈ s, v.oneCell' = true) ∧ V w0 w (gU p (.cells (gq s h E.length place) 166 (0, 0)) • Ik s h E • F) := by
  obtain ⟨⟨s, h⟩, H⟩ := H.sS
  obtain ⟨⟨h1, h2, h3, h4, h5, h6⟩, H⟩ := H.flat.fact
  exact ⟨s, h, h1, h2, h3, h4, h5, h6, H.flat⟩
theorem V.Ee {s : List Value} {h : Nat} (h1 : s.length = 60) (h2 : h < 60) (h3 : E.length ≤ 60) (h4 : place < E.length ∨ place = 0) (h5 : ∀ e ∈ E, e.length ≤ 1024) (h6 : ∀ v ∈ s, v.oneCell' = true) (H : V w0 w (gU p (.cells (gq s h E.length place) 166 (0, 0)) • Ik s h E • F)) : V w0 w (iG p E place • F) :=
  V.lK (s, h) (V.deep (V.qY ⟨h1, h2, h3, h4, h5, h6⟩ H.deep))
theorem Wi (H : V w0 w F) : iK prog 71 #[] w fun v w' => ∃ p, v = .pointer (some ⟨p, 0, none⟩) ∧ V w0 w' (iG p [] 0 • F) := by
  refine ahs func71 ntmps71 ?_
  refine kG O (kQ (aT (kS (pl := #[(0, 1), (1, 60), (61, 1), (62, 1), (63, 1)]) (gq (List.replicate 60 (.slice none 0 0)) 0 0 0) dV zeroValue166 (fun w => by kernel_rfl) O (by kernel_rfl)) (jT (UQ H O) ?_)))
  rintro _ w1 ⟨b1, rfl, H1⟩
  refine iJ O (dO results71 O ?_)
  refine ⟨b1, O, V.Ee (s := List.replicate 60 (.slice none 0 0)) (h := 0) (by simp) (by omega) (by simp) (.inr O) (by simp) (by intro v hv; rw [List.eq_of_mem_replicate hv]; rfl) ?_⟩
  exact V.swap (V.Eb (fun I i hi => by simp at hi) H1)
theorem pG (t : TypeId) {cs : Array Value} {fr : Nat × Nat} {m : Bool} (hb : w.heap[p]? = some (.cells cs t fr)) (h0 : cs[0]? = some (.bool m)) :
    iK prog 145 #[.pointer (some ⟨p, 0, none⟩)] w fun v w' => v = .bool (!m) ∧ w = w' := by
  refine jl func145 ntmps145 ?_
  refine kG O (bT O (aT (oQ xg O O) (QW O (fun h1 => ?_))))
  (try simp only [aG] at h1)
  refine bJ (cO O (bJ (dM O (bJ (bg 0 dV O aN O (bJ (dQ bn O hb h0 (bJ (aT (jG O) (kP O O (iJ O (dO results145 O ?_))))))))))))
  exact ⟨O, O⟩
theorem V.JC {s : List Value} {h i : Nat} (H : V w0 w (Ik s h E • F)) (hi : i < E.length) : mP w .i32 (s.getD ((h + i) % 60) undef) (E.getD i []) := let ⟨I, k, hI⟩ := H.zx; (k i hi).rd hI
theorem Dt {s : List Value} {h n m : Nat} {t : TypeId} {fr : Nat × Nat} {k : Nat} (hs : s.length = 60) (hh : h < 60) (hk : k < 60) (hb : w.heap[p]? = some (.cells (gq s h n m) t fr)) :
  iK prog 175 #[.pointer (some ⟨p, 0, none⟩), .int .i64 k] w fun v w' => v = s.getD ((h + k) % 60) undef ∧ Cj w w' := by
 refine nO func175 ntmps175 ?_
 refine kG O (aI ?_)
 refine vU (n := 13) [0, 1, 2, 3, 4, 5, 6, 7, 8, 9, 10, 11, 12] (fun W => W.heap = w.heap) (by kernel_rfl) (by kernel_rfl) O ?_
 have hS0 : (fun W => W.heap = w.heap) (w.drew) := rfl
 refine fM 0 O hS0 O (fM 1 O hS0 O (jF 2 O hS0 O (eP 3 O hS0 61 dV O ah O ?_)))
 refine iD 4 O hS0 (fun W hW => jk ay O (by rw [hW]; exact hb) (GH hs)) ?_
 refine fM 5 O hS0 O (iE 6 O hS0 (fun _ => gY O O (by omega)) ?_)
 refine iE 7 O hS0 (fun _ => agN O O (by omega) (by  omega)) ?_
 refine jF 8 O hS0 O (eP 9 O hS0 1 dV O sizeOf164 O (iE 10 O hS0 (fun _ => Au underlying164 bI O O (by omega)) ?_))
 refine iD 11 O hS0 (fun W hW => jk aB O (by rw [hW]; exact hb) (by rw [show (1 + (((h : Int) + (k : Int)) % 60).toNat * 1) = 1 + (h + k) % 60 from by omega]; exact U8 hs (by omega))) ?_
 refine iE 12 O hS0 (fun _ => eH O) (oH (aZ (kN (dO results175 O ?_))))
 exact ⟨O, ⟨1, O⟩⟩
theorem Wj (H : V w0 w (iG p E place • F)) : iK prog 125 #[.pointer (some ⟨p, 0, none⟩)] w fun v w' => v = .int .i64 E.length ∧ w = w' := by
  obtain ⟨s, h, hs, hh, hE, hp, hm, ho, H1⟩ := H.ring
  have hb := H1.get.2
  refine jl func125 ntmps125 ?_
  refine kG O (aI (bT O (fH O func145 (pG _ hb F7) ?_)))
  rintro _ _ ⟨rfl, rfl⟩
  refine iR (yh (gX (bT O (dM O (bg 62 dV O ah O (dQ ay O hb (vN hs) (iJ O (dO results125 O ?_))))))))
  exact ⟨O, O⟩
theorem Wn {s : List Value} {u : Value} {i : Nat} (h : ∀ v ∈ s, v.oneCell' = true) (hu : u.oneCell' = true) : ∀ v ∈ s.set i u, v.oneCell' = true := by
  intro v hv
  rcases List.mem_or_eq_of_mem_set hv with hv | rfl
  · exact h v hv
  · exact hu
theorem aam {I : Hp} {s : List Value} {h : Nat} {l : List Int} {v : Value} (hs : s.length = 60) (hh : h < 60) (hE : E.length ≤ 60) (hS : Ye I s h E) (hv : KD I .i32 v l) :
    Ye I (s.set ((h + 59) % 60) v) ((h + 59) % 60) ((l :: E).take 60) := by
  intro i hi
  have amB : i < 60 ∧ i < E.length + 1 := by simp at hi; omega
  rw [List.getD_eq_getElem?_getD (l := (l :: E).take 60), List.getElem?_take, if_pos (by omega)]
  cases i with
  | zero =>
    have e : ((h + 59) % 60 + 0) % 60 = (h + 59) % 60 := by omega
    rw [e, List.getD_eq_getElem?_getD, List.getElem?_set_self (by omega)]
    exact hv
  | succ i =>
    have e : ((h + 59) % 60 + (i + 1)) % 60 = (h + i) % 60 := by omega
    have hne : ¬ (h + 59) % 60 = (h + i) % 60 := by omega
    rw [e, List.getD_eq_getElem?_getD, List.getElem?_set_ne hne, ← List.getD_eq_getElem?_getD]
    have := hS i (by omega)
    simpa [List.getD_eq_getElem?_getD] using this
theorem KW {v : Value} {l : List Int} (H : V w0 w (iG p E place • F)) (hr : jZ w0 F .i32 v l) (hl : l.length ≤ 1024) :
    iK prog 181 #[.pointer (some ⟨p, 0, none⟩), v] w fun _ w' => V w0 w' (iG p ((l :: E).take 60) 0 • F) := by
  obtain ⟨s, h, hs, hh, hE, hp, hm, ho, H⟩ := H.ring
  have hh' : (h + 59) % 60 < 60 := by omega
  refine nO func181 ntmps181 ?_
  refine bT O (kY O O (bg 61 dV O ah O (dQ ay O H.get.2 (GH hs) (aT (gY O O (by omega)) (aT (nN O O (by omega)) ?_)))))
  refine aT (agN O O (by omega) (by  omega)) ?_
  refine dM O (bg 61 dV O ah O (aH (iQ H ah O O O (by rw [uh hs]; decide)) ?_))
  rintro _ w1 H1
  rw [show (((h : Int) + 60 - 1) % 60) = (((h + 59) % 60 : Nat) : Int) from by omega, Ui hs] at H1
  refine uV ?_
  refine vU (n := 11) [0, 1, 2, 3, 4, 5, 6, 7, 8, 9, 10] (fun W => W.heap[p]? = some (.cells (gq s ((h + 59) % 60) E.length place) 166 (0, 0))) (by kernel_rfl) (by kernel_rfl) O ?_
  have hS0 : (fun W => W.heap[p]? = some (.cells (gq s ((h + 59) % 60) E.length place) 166 (0, 0))) (w1.drew) := H1.get.2
  have H1d := H1.drew
  refine fM 0 O hS0 O (fM 1 O hS0 O (jF 2 O hS0 O (eP 3 O hS0 61 dV O ah O (iD 4 O hS0 (fun W hW => jk ay O hW (GH hs)) (fM 5 O hS0 O (jF 7 O hS0 O (eP 8 O hS0 1 dV O sizeOf164 O (lC 6 O (qW O func144 (Aw H1d hr.under.under (by omega))) ?_))))))))
  rintro u w2 H2
  have hS2 : (fun W => W.heap[p]? = some (.cells (gq s ((h + 59) % 60) E.length place) 166 (0, 0))) w2 := H2.swap.get.2
  refine KP hS2 ?_
  refine iE 9 O hS2 (fun _ => Au underlying164 bI O O (by omega)) ?_
  refine gW 10 O (by kernel_rfl) (iQ H2.swap bI O O H2.aJ.one (by rw [uh hs]; omega)) ?_
  rintro _ w3 H3
  rw [show (1 + ((((h + 59) % 60 : Nat) : Int)).toNat * 1) = 1 + (h + 59) % 60 from by omega, F8 hs hh'] at H3
  have hs' : (s.set ((h + 59) % 60) u).length = 60 := by simp [hs]
  have ho' := Wn ho (u := u) (i := (h + 59) % 60) H2.aJ.one
  refine OY (by kernel_rfl) ?_
  refine oH (aZ (bT O (kY O O (bg 62 dV O ah O (dQ ay O H3.get.2 (vN hs') (aT (gY O O (by omega)) (aT (QO O O) (dM O (bg 62 dV O ah O (aH (iQ H3 ah O O O (by rw [uh hs']; decide)) ?_))))))))))
  rintro _ w4 H4
  rw [show min ((E.length : Int) + 1) 60 = ((min (E.length + 1) 60 : Nat) : Int) from by omega, Uj hs'] at H4
  refine iR (aF (kY O O (bg 63 dV O ah O (aH (iQ H4 ah O O O (by rw [uh hs']; decide)) ?_))))
  rintro _ w5 H5
  rw [show (Value.int .i64 0) = .int .i64 ((0 : Nat) : Int) from rfl, xM hs'] at H5
  refine dJ (nJ (.inr O) results181 ?_)
  have hlen : ((l :: E).take 60).length = min (E.length + 1) 60 := by simp; omega
  refine V.Ee hs' hh' (by omega) (.inr O) ?_ ho' ?_
  · intro e he
    rcases List.mem_cons.1 (List.mem_of_mem_take he) with rfl | he
    · exact hl
    · exact hm e he
  · rw [hlen]
    exact (H5.swap.mM.PU.I5 (xJ (fun I a b => aam hs hh hE a b) _)).swap
end
def oN (E : List (List Int)) (place : Nat) (way : Int) (l : List Int) : Int × List (List Int) × Nat :=
  if way < 0 ∨ 2 < way then (1, E, place)
  else if 1024 < l.length then (3, E, place)
  else if way ≠ 0 ∧ 0 < E.length then
    if 1024 < l.length + (E.getD 0 []).length then (3, E, place)
    else (0, (if way = 1 then E.getD 0 [] ++ l else l ++ E.getD 0 []) :: E.tail, 0)
  else if way = 0 ∧ l.length = 0 then (0, E, place)
  else (0, (l :: E).take 60, 0)
theorem Pe {I : Hp} {s : List Value} {h : Nat} {l : List Int} {v : Value} {E : List (List Int)} (hs : s.length = 60) (hh : h < 60) (hE : E.length ≤ 60) (h0 : 0 < E.length) (hS : Ye I s h E) (hv : KD I .i32 v l) :
    Ye I (s.set h v) h (l :: E.tail) := by
  intro i hi
  have hi' : i < E.length := by simp at hi; omega
  cases i with
  | zero =>
    have e : (h + 0) % 60 = h := by omega
    rw [e, List.getD_eq_getElem?_getD, List.getElem?_set_self (by omega)]
    exact hv
  | succ i =>
    have hne : ¬ h = (h + (i + 1)) % 60 := by omega
    rw [List.getD_eq_getElem?_getD, List.getElem?_set_ne hne, ← List.getD_eq_getElem?_getD]
    have := hS (i + 1) hi'
    simpa [List.getD_eq_getElem?_getD] using this
section
variable {w0 w : World} {F : HP} {p place : Nat} {E : List (List Int)} {v : Value} {l : List Int} {way : Int}
theorem zX (h0 : 0 < E.length) (x : List Int) : (x :: E.tail).length = E.length := by simp; omega
theorem Uk (H : V w0 w (iG p E place • F)) (hr : jZ w0 F .i32 v l) (hw : way < 0 ∨ 2 < way) :
    iK prog 153 #[.pointer (some ⟨p, 0, none⟩), .int .i64 way, v] w fun v' w' => v' = .int .i64 1 ∧ V w0 w' (iG p E place • F) := by
  obtain ⟨s, h, hs, hh, hE, hp, hm, ho, H1⟩ := H.ring
  have hb := H1.get.2
  refine FY func153 ntmps153 ?_
  refine kG O (aI (bT O (fH O func145 (pG _ hb F7) ?_)))
  rintro _ _ ⟨rfl, rfl⟩
  refine iR (yh (gX (aI (bT O (aT (fJ O O) (nS O (fun h1 => ?_) (fun h1 => ?_)))))))
  · (try simp only [aG] at h1)
    refine dB (dB (mQ O O (iR (DZ (jE O (aC (dO tK O ?_)))))))
    exact ⟨O, H⟩
  · (try simp only [aG] at h1)
    refine bJ (cO O (bJ (aT (fZ O O) (kP O O (iR (wcA O (fun h2 => ?_)))))))
    (try simp only [aG] at h2)
    refine jE O (aC (dO tK O ?_))
    exact ⟨O, H⟩
theorem RF (H : V w0 w (iG p E place • F)) (hr : jZ w0 F .i32 v l) (hw : 0 ≤ way ∧ way ≤ 2) (hl : 1024 < l.length) :
    iK prog 153 #[.pointer (some ⟨p, 0, none⟩), .int .i64 way, v] w fun v' w' => v' = .int .i64 3 ∧ V w0 w' (iG p E place • F) := by
  obtain ⟨s, h, hs, hh, hE, hp, hm, ho, H1⟩ := H.ring
  have hb := H1.get.2
  obtain ⟨a, c, rfl, _, _, _⟩ := (hr w H.right).open
  refine FY func153 ntmps153 ?_
  refine kG O (aI (bT O (fH O func145 (pG _ hb F7) ?_)))
  rintro _ _ ⟨rfl, rfl⟩
  refine iR (yh (gX (aI (bT O (aT (fJ O O) (xsB O (fun h1 => ?_)))))))
  (try simp only [aG] at h1)
  refine bJ (cO O (bJ (aT (fZ O O) (kP O O (iR (VR O (fun h2 => ?_)))))))
  (try simp only [aG] at h2)
  refine gX (bT O (aT (fF O O) (nS O (fun h3 => ?_) (fun h3 => ?_))))
  · (try simp only [aG] at h3)
    refine bJ (cO O (bJ (dM O (bJ (bg 62 dV O ah O (bJ (dQ ay O hb (vN hs) (bJ (aT (fZ O O) (mQ O O (vI O (bK (bT O (aT (kE aB O) (aT (fZ O O) (xsA O (fun h4 => ?_)))))))))))))))))
    (try simp only [aG] at h4)
    refine dB (dB (yX (yX (yX (yX (yX (yX (yX (dB (mQ O O (iU O (DZ (jE O (aY (aC (dO tK O ?_))))))))))))))))
    exact ⟨O, H⟩
  · (try simp only [aG] at h3)
    refine dB (dB (dB (dB (dB (kP O O (vI O (bK (bT O (aT (kE aB O) (aT (fZ O O) (xsA O (fun h5 => ?_))))))))))))
    (try simp only [aG] at h5)
    refine dB (dB (yX (yX (yX (yX (yX (yX (yX (dB (mQ O O (iU O (DZ (jE O (aY (aC (dO tK O ?_))))))))))))))))
    exact ⟨O, H⟩
theorem Nc (H : V w0 w (iG p E place • F)) (hr : jZ w0 F .i32 v l) (hl : l.length = 0) :
    iK prog 153 #[.pointer (some ⟨p, 0, none⟩), .int .i64 0, v] w fun v' w' => v' = .int .i64 0 ∧ V w0 w' (iG p E place • F) := by
  obtain ⟨s, h, hs, hh, hE, hp, hm, ho, H1⟩ := H.ring
  have hb := H1.get.2
  obtain ⟨a, c, rfl, _, _, _⟩ := (hr w H.right).open
  refine FY func153 ntmps153 ?_
  refine kG O (aI (bT O (fH O func145 (pG _ hb F7) ?_)))
  rintro _ _ ⟨rfl, rfl⟩
  refine iR (yh (gX (aI (bT O (aT (fJ O O) (xsB O (fun h1 => ?_)))))))
  (try simp only [aG] at h1)
  refine bJ (cO O (bJ (aT (fZ O O) (kP O O (iR (VR O (fun h2 => ?_)))))))
  (try simp only [aG] at h2)
  refine gX (bT O (aT (fF O O) (xsB O (fun h3 => ?_))))
  (try simp only [aG] at h3)
  refine dB (dB (dB (dB (dB (kP O O (vI O (bK (bT O (aT (kE aB O) (aT (fZ O O) (xsB O (fun h4 => ?_))))))))))))
  (try simp only [aG] at h4)
  refine bJ (cO O (bJ (cO O (dB (dB (dB (dB (dB (dB (dB (bJ (kP O O (kP O O (iU O (yh (bT O (aT (fA O O) (xsA O (fun h5 => ?_)))))))))))))))))))
  (try simp only [aG] at h5)
  refine bJ (cO O (bJ (aT (kE aB O) (bJ (aT (fA O O) (mQ O O (iU O (wcA O (fun h6 => ?_)))))))))
  (try simp only [aG] at h6)
  refine jE O (aY (aC (dO tK O ?_)))
  exact ⟨O, H⟩
theorem Ul (H : V w0 w (iG p E place • F)) (hr : jZ w0 F .i32 v l) (hw : 0 ≤ way ∧ way ≤ 2) (hl : l.length ≤ 1024) (hj : way = 0 ∨ E.length = 0) (hn : ¬ (way = 0 ∧ l.length = 0)) :
  iK prog 153 #[.pointer (some ⟨p, 0, none⟩), .int .i64 way, v] w fun v' w' => v' = .int .i64 0 ∧ V w0 w' (iG p ((l :: E).take 60) 0 • F) := by
 obtain ⟨s, h, hs, hh, hE, hp, hm, ho, H1⟩ := H.ring
 have hb := H1.get.2
 obtain ⟨a, c, hv, _, _, _⟩ := (hr w H.right).open
 subst hv
 refine FY func153 ntmps153 ?_
 refine kG O (aI (bT O (fH O func145 (pG _ hb F7) ?_)))
 rintro _ _ ⟨rfl, rfl⟩
 refine iR (yh (gX (aI (bT O (aT (fJ O O) (xsB O (fun h1 => ?_)))))))
 (try simp only [aG] at h1)
 refine bJ (cO O (bJ (aT (fZ O O) (kP O O (iR (VR O (fun h2 => ?_)))))))
 (try simp only [aG] at h2)
 refine gX (bT O (aT (fF O O) (nS O (fun h3 => ?_) (fun h3 => ?_))))
 ·(try simp only [aG] at h3)
  refine bJ (cO O (bJ (dM O (bJ (bg 62 dV O ah O (bJ (dQ ay O hb (vN hs) (bJ ?_))))))))
  refine aT (UN (fZ O O) (by first | (rw [decide_eq_true_eq]; omega) | (rw [decide_eq_false_iff_not]; omega) | (rw [beq_iff_eq]; omega) | (rw [beq_eq_false_iff_ne]; omega) | (rw [bne_iff_ne]; omega) | (rw [bne_eq_false_iff_eq]; omega) | (simp; done) | (simp; omega))) ?_
  refine mQ O O (vI O (bK (bT O (aT (kE aB O) (aT (fZ O O) (xsB O (fun h4 => ?_)))))))
  (try simp only [aG] at h4)
  refine bJ (cO O (bJ (cO O (dB (dB (dB (dB (dB (dB (dB (bJ (kP O O (kP O O (iU O (yh (bT O (aT (fA O O) (nS O (fun h5 => ?_) (fun h5 => ?_)))))))))))))))))))
  ·(try simp only [aG] at h5)
   exfalso; first | contradiction | omega
  ·(try simp only [aG] at h5)
   refine dB (dB (dB (kP O O (iU O (yh (bT O (aT (jG O) (iU O (dw O (fun h9 => ?_) (fun h9 => ?_))))))))))
   ·(try simp only [aG] at h9)
    refine aF (ku O O (fH O func181 (KW H hr hl) ?_))
    rintro _ O9 H7
    obtain ⟨s2, h2, hs2, hh2, hE2, hp2, hm2, ho2, H2⟩ := H7.ring
    refine dJ (aS (aZ (bT O (dM O (bg 63 dV O ah O (aH (iQ H2 ah O O O (by rw [uh hs2]; decide)) ?_))))))
    rintro _ Ry H8
    rw [show (Value.int .i64 0) = .int .i64 ((0 : Nat) : Int) from rfl, xM hs2] at H8
    refine iR (jE O (dO tK O ?_))
    exact ⟨O, V.Ee hs2 hh2 hE2 hp2 hm2 ho2 H8⟩
   ·(try simp only [aG] at h9)
    exfalso; first | contradiction | omega
 ·(try simp only [aG] at h3)
  refine dB (dB (dB (dB (dB (kP O O (vI O (bK (bT O (aT (kE aB O) (aT (fZ O O) (xsB O (fun h11 => ?_))))))))))))
  (try simp only [aG] at h11)
  refine bJ (cO O (bJ (cO O (dB (dB (dB (dB (dB (dB (dB (bJ (kP O O (kP O O (iU O (yh (bT O (aT (fA O O) (nS O (fun h12 => ?_) (fun h12 => ?_)))))))))))))))))))
  ·(try simp only [aG] at h12)
   refine bJ (cO O (bJ (aT (kE aB O) (bJ (aT (fA O O) (mQ O O (iU O (VR O (fun h13 => ?_)))))))))
   (try simp only [aG] at h13)
   refine bT O (aT (jG O) (iU O (dw O (fun h14 => ?_) (fun h14 => ?_))))
   ·(try simp only [aG] at h14)
    refine aF (ku O O (fH O func181 (KW H hr hl) ?_))
    rintro _ w26 H7
    obtain ⟨s2, h2, hs2, hh2, hE2, hp2, hm2, ho2, H2⟩ := H7.ring
    refine dJ (aS (aZ (bT O (dM O (bg 63 dV O ah O (aH (iQ H2 ah O O O (by rw [uh hs2]; decide)) ?_))))))
    rintro _ w27 H8
    rw [show (Value.int .i64 0) = .int .i64 ((0 : Nat) : Int) from rfl, xM hs2] at H8
    refine iR (jE O (dO tK O ?_))
    exact ⟨O, V.Ee hs2 hh2 hE2 hp2 hm2 ho2 H8⟩
   ·(try simp only [aG] at h14)
    exfalso; first | contradiction | omega
  ·(try simp only [aG] at h12)
   exfalso; first | contradiction | omega
theorem Um (H : V w0 w (iG p E place • F)) (hr : jZ w0 F .i32 v l) (hw : 0 < way ∧ way ≤ 2) (hl : l.length ≤ 1024) (hE0 : 0 < E.length) (hj : 1024 < l.length + (E.getD 0 []).length) :
    iK prog 153 #[.pointer (some ⟨p, 0, none⟩), .int .i64 way, v] w fun v' w' => v' = .int .i64 3 ∧ V w0 w' (iG p E place • F) := by
  obtain ⟨s, h, hs, hh, hE, hp, hm, ho, H1⟩ := H.ring
  have hb := H1.get.2
  obtain ⟨a, c, hv, _, _, _⟩ := (hr w H.right).open
  subst hv
  have hm0 : (E.getD 0 []).length ≤ 1024 := hm _ (by rw [List.getD_eq_getElem?_getD, List.getElem?_eq_getElem hE0]; simp)
  refine FY func153 ntmps153 ?_
  refine kG O (aI (bT O (fH O func145 (pG _ hb F7) ?_)))
  rintro _ _ ⟨rfl, rfl⟩
  refine iR (yh (gX (aI (bT O (aT (fJ O O) (xsB O (fun h1 => ?_)))))))
  (try simp only [aG] at h1)
  refine bJ (cO O (bJ (aT (fZ O O) (kP O O (iR (VR O (fun h2 => ?_)))))))
  (try simp only [aG] at h2)
  refine gX (bT O (aT (fF O O) (xsA O (fun h3 => ?_))))
  (try simp only [aG] at h3)
  refine bJ (cO O (bJ (dM O (bJ (bg 62 dV O ah O (bJ (dQ ay O hb (vN hs) (bJ ?_))))))))
  refine aT (Es (fZ O O) (by first | (rw [decide_eq_true_eq]; omega) | (rw [decide_eq_false_iff_not]; omega) | (rw [beq_iff_eq]; omega) | (rw [beq_eq_false_iff_ne]; omega) | (rw [bne_iff_ne]; omega) | (rw [bne_eq_false_iff_eq]; omega) | (simp; done) | (simp; omega))) ?_
  refine mQ O O (vI O (bK (bT O (aT (kE aB O) (aT (fZ O O) (xsB O (fun h4 => ?_)))))))
  (try simp only [aG] at h4)
  refine bJ (cO O (bJ (cO O (bJ (cO O (bJ (aT (kE aB O) (bJ (cO O (bJ (fH O func175 (Dt (k := 0) hs hh (by omega) hb) ?_)))))))))))
  rintro _ w2 ⟨rfl, hD⟩
  obtain ⟨a0, c0, e0, _, _, _⟩ := ((H1.yg hD).right.JC (i := 0) hE0).open
  rw [e0]
  refine bJ (aT (kE aB O) (bJ (aT (nN O O (by omega)) (bJ ?_))))
  refine aT (Es (fZ O O) (by first | (rw [decide_eq_true_eq]; omega) | (rw [decide_eq_false_iff_not]; omega) | (rw [beq_iff_eq]; omega) | (rw [beq_eq_false_iff_ne]; omega) | (rw [bne_iff_ne]; omega) | (rw [bne_eq_false_iff_eq]; omega) | (simp; done) | (simp; omega))) ?_
  refine bJ (mQ O O (kP O O (iU O (DZ (jE O (aY (aC (dO tK O ?_))))))))
  exact ⟨O, H.yg hD⟩
theorem RH (H : V w0 w (iG p E place • F)) (hr : jZ w0 F .i32 v l) (hw : 0 < way ∧ way ≤ 2) (hE0 : 0 < E.length) (hj : l.length + (E.getD 0 []).length ≤ 1024) :
    iK prog 153 #[.pointer (some ⟨p, 0, none⟩), .int .i64 way, v] w fun v' w' => v' = .int .i64 0 ∧ V w0 w' (iG p ((if way = 1 then E.getD 0 [] ++ l else l ++ E.getD 0 []) :: E.tail) 0 • F) := by
  obtain ⟨s, h, hs, hh, hE, hp, hm, ho, H⟩ := H.ring
  have hb := H.get.2
  obtain ⟨a, c, hv, _, _, _⟩ := (hr w H.right.right).open
  subst hv
  have hm0 : (E.getD 0 []).length ≤ 1024 := hm _ (by rw [List.getD_eq_getElem?_getD, List.getElem?_eq_getElem hE0]; simp)
  have alS := U8 (h := h) (n := E.length) (p := place) hs (i := (h + 0) % 60) (by omega)
  refine FY func153 ntmps153 ?_
  refine kG O (aI (bT O (fH O func145 (pG _ hb F7) ?_)))
  rintro _ _ ⟨rfl, rfl⟩
  refine iR (yh (gX (aI (bT O (aT (fJ O O) (xsB O (fun h1 => ?_)))))))
  (try simp only [aG] at h1)
  refine bJ (cO O (bJ (aT (fZ O O) (kP O O (iR (VR O (fun h2 => ?_)))))))
  (try simp only [aG] at h2)
  refine gX (bT O (aT (fF O O) (xsA O (fun h3 => ?_))))
  (try simp only [aG] at h3)
  refine bJ (cO O (bJ (dM O (bJ (bg 62 dV O ah O (bJ (dQ ay O hb (vN hs) (bJ ?_))))))))
  refine aT (Es (fZ O O) (by first | (rw [decide_eq_true_eq]; omega) | (rw [decide_eq_false_iff_not]; omega) | (rw [beq_iff_eq]; omega) | (rw [beq_eq_false_iff_ne]; omega) | (rw [bne_iff_ne]; omega) | (rw [bne_eq_false_iff_eq]; omega) | (simp; done) | (simp; omega))) ?_
  refine mQ O O (vI O (bK (bT O (aT (kE aB O) (aT (fZ O O) (xsB O (fun h4 => ?_)))))))
  (try simp only [aG] at h4)
  refine bJ (cO O (bJ (cO O (bJ (cO O (bJ (aT (kE aB O) (bJ (cO O (bJ (fH O func175 (Dt (k := 0) hs hh (by omega) hb) ?_)))))))))))
  rintro _ w2 ⟨rfl, hD⟩
  obtain ⟨a0, c0, e0, _, _, _⟩ := ((H.yg hD).right.JC (i := 0) hE0).open
  rw [e0]
  have rU := H.yg hD
  refine bJ (aT (kE aB O) (bJ (aT (nN O O (by omega)) (bJ ?_))))
  refine aT (UN (fZ O O) (by first | (rw [decide_eq_true_eq]; omega) | (rw [decide_eq_false_iff_not]; omega) | (rw [beq_iff_eq]; omega) | (rw [beq_eq_false_iff_ne]; omega) | (rw [bne_iff_ne]; omega) | (rw [bne_eq_false_iff_eq]; omega) | (simp; done) | (simp; omega))) ?_
  refine bJ (mQ O O (kP O O (iU O (yh (bT O (aT (fA O O) (xsB O (fun h5 => ?_))))))))
  (try simp only [aG] at h5)
  refine dB (dB (dB (kP O O (iU O (yh (bT O (aT (jG O) (iU O (VR O (fun h6 => ?_))))))))))
  (try simp only [aG] at h6)
  refine bT O (aT (fA O O) (iU O (dw O (fun h7 => ?_) (fun h7 => ?_))))
  · (try simp only [aG] at h7)
    have hw1 : way = 1 := by omega
    refine vU (n := 14) [0, 1, 2, 3, 4, 5, 6, 7, 8, 9, 10, 11, 12, 13] (fun W => W.heap[p]? = some (.cells (gq s h E.length place) 166 (0, 0))) (by kernel_rfl) (by kernel_rfl) O ?_
    have hS0 : (fun W => W.heap[p]? = some (.cells (gq s h E.length place) 166 (0, 0))) (w2.drew) := rU.get.2
    have Yf := rU.drew
    refine fM 0 O hS0 O (fM 1 O hS0 O (jF 2 O hS0 O (eP 3 O hS0 61 dV O ah O (iD 4 O hS0 (fun W hW => jk ay O hW (GH hs)) (fM 5 O hS0 O (fM 7 O hS0 O (jF 10 O hS0 O (eP 11 O hS0 1 dV O sizeOf164 O (lC 6 O (qW O func175 (Dt (k := 0) hs hh (by omega) Yf.get.2)) ?_)))))))))
    rintro _ w3 ⟨rfl, hD2⟩
    have DR := Yf.yg hD2
    have hS3 : (fun W => W.heap[p]? = some (.cells (gq s h E.length place) 166 (0, 0))) w3 := DR.get.2
    refine KP hS3 ?_
    refine lC 8 O (abp (vs := [s.getD ((h + 0) % 60) undef, .slice a l.length c]) DR bF bI pR O O O (by decide) (by rw [e0]; simp [Value.oneCell'])) ?_
    rintro _ w4 ⟨b2, rfl, H4⟩
    have hS4 : (fun W => W.heap[p]? = some (.cells (gq s h E.length place) 166 (0, 0))) w4 := H4.swap.get.2
    refine KP hS4 ?_
    refine lC 9 O (qW O func182 (Jy H4 (fun W HW => HW.right.right.JC (i := 0) hE0) hr.under.under.under (by omega))) ?_
    rintro u w5 H5
    have xZ := H5.PU
    have hS5 : (fun W => W.heap[p]? = some (.cells (gq s h E.length place) 166 (0, 0))) w5 := xZ.get.2
    refine KP hS5 ?_
    refine iE 12 O hS5 (fun _ => Au underlying164 bI O O (by omega)) ?_
    refine gW 13 O (by kernel_rfl) (iQ xZ bI O O H5.aJ.one (by rw [uh hs]; omega)) ?_
    rintro _ w6 FI
    rw [show (1 + ((h : Int)).toNat * 1) = 1 + h from by omega, F8 hs hh] at FI
    have hs' : (s.set h u).length = 60 := by simp [hs]
    have ho' := Wn ho (u := u) (i := h) H5.aJ.one
    refine OY (by kernel_rfl) ?_
    refine oH (aS (aZ (bT O (dM O (bg 63 dV O ah O (aH (iQ FI ah O O O (by rw [uh hs']; decide)) ?_))))))
    rintro _ w7 BM
    rw [show (Value.int .i64 0) = .int .i64 ((0 : Nat) : Int) from rfl, xM hs'] at BM
    have Hw := BM.swap.mM
    refine iR (jE O (dO tK O ?_))
    refine ⟨O, V.Ee hs' hh (by rw [zX hE0]; omega) (.inr O) ?_ ho' ?_⟩
    · intro e he
      rcases List.mem_cons.1 he with rfl | he
      · first | (rw [if_pos hw1, List.length_append]; omega) | (rw [if_neg (by omega), List.length_append]; omega)
      · exact hm e (List.mem_of_mem_tail he)
    · rw [zX hE0]
      first | rw [if_pos hw1] | rw [if_neg (by omega)]
      exact (Hw.r4.swap.I5 (xJ (fun I a b => Pe hs hh hE hE0 b a) _)).PU.right.swap
  · (try simp only [aG] at h7)
    have hw2 : way = 2 := by omega
    refine vU (n := 14) [0, 1, 2, 3, 4, 5, 6, 7, 8, 9, 10, 11, 12, 13] (fun W => W.heap[p]? = some (.cells (gq s h E.length place) 166 (0, 0))) (by kernel_rfl) (by kernel_rfl) O ?_
    have hS0 : (fun W => W.heap[p]? = some (.cells (gq s h E.length place) 166 (0, 0))) (w2.drew) := rU.get.2
    have H6d := rU.drew
    refine fM 0 O hS0 O (fM 1 O hS0 O (jF 2 O hS0 O (eP 3 O hS0 61 dV O ah O (iD 4 O hS0 (fun W hW => jk ay O hW (GH hs)) (fM 5 O hS0 O (fM 6 O hS0 O (jF 10 O hS0 O (eP 11 O hS0 1 dV O sizeOf164 O (lC 7 O (qW O func175 (Dt (k := 0) hs hh (by omega) H6d.get.2)) ?_)))))))))
    rintro _ w8 ⟨rfl, hD2⟩
    have DR := H6d.yg hD2
    have hS8 : (fun W => W.heap[p]? = some (.cells (gq s h E.length place) 166 (0, 0))) w8 := DR.get.2
    refine KP hS8 ?_
    refine lC 8 O (abp (vs := [.slice a l.length c, s.getD ((h + 0) % 60) undef]) DR bF bI pR O O O (by decide) (by rw [e0]; simp [Value.oneCell'])) ?_
    rintro _ w9 ⟨b2, rfl, H9⟩
    have hS9 : (fun W => W.heap[p]? = some (.cells (gq s h E.length place) 166 (0, 0))) w9 := H9.swap.get.2
    refine KP hS9 ?_
    refine lC 9 O (qW O func182 (Jy H9 hr.under.under.under (fun W HW => HW.right.right.JC (i := 0) hE0) (by omega))) ?_
    rintro u w10 rU
    have xZ := rU.PU
    have ajf : (fun W => W.heap[p]? = some (.cells (gq s h E.length place) 166 (0, 0))) w10 := xZ.get.2
    refine KP ajf ?_
    refine iE 12 O ajf (fun _ => Au underlying164 bI O O (by omega)) ?_
    refine gW 13 O (by kernel_rfl) (iQ xZ bI O O rU.aJ.one (by rw [uh hs]; omega)) ?_
    rintro _ Ii FI
    rw [show (1 + ((h : Int)).toNat * 1) = 1 + h from by omega, F8 hs hh] at FI
    have hs' : (s.set h u).length = 60 := by simp [hs]
    have ho' := Wn ho (u := u) (i := h) rU.aJ.one
    refine OY (by kernel_rfl) ?_
    refine oH (aS (aZ (bT O (dM O (bg 63 dV O ah O (aH (iQ FI ah O O O (by rw [uh hs']; decide)) ?_))))))
    rintro _ w12 BM
    rw [show (Value.int .i64 0) = .int .i64 ((0 : Nat) : Int) from rfl, xM hs'] at BM
    have Hw := BM.swap.mM
    refine iR (jE O (dO tK O ?_))
    refine ⟨O, V.Ee hs' hh (by rw [zX hE0]; omega) (.inr O) ?_ ho' ?_⟩
    · intro e he
      rcases List.mem_cons.1 he with rfl | he
      · first | (rw [if_pos hw1, List.length_append]; omega) | (rw [if_neg (by omega), List.length_append]; omega)
      · exact hm e (List.mem_of_mem_tail he)
    · rw [zX hE0]
      first | rw [if_pos hw1] | rw [if_neg (by omega)]
      exact (Hw.r4.swap.I5 (xJ (fun I a b => Pe hs hh hE hE0 b a) _)).PU.right.swap
end
def zC (m place : Nat) (n : Int) : Nat := (((place : Int) + n) % (m : Int)).toNat
theorem Qx {m place : Nat} {n : Int} (h : 0 < m) : zC m place n < m := by
  unfold zC
  have h1 := Int.emod_nonneg ((place : Int) + n) (show (m : Int) ≠ 0 by omega)
  have h2 := Int.emod_lt_of_pos ((place : Int) + n) (show (0 : Int) < m by omega)
  omega
theorem Ku (a : Int) {m : Int} (h : 0 < m) : -m < a.tmod m ∧ a.tmod m < m := by
  have h2 := Int.tmod_lt_of_pos a h
  have h3 := Int.tmod_lt_of_pos (-a) h
  rw [Int.neg_tmod] at h3
  omega
theorem U9 (a m : Int) : a.tmod m % m = a % m := by
  rw [Int.tmod_def]
  exact Int.sub_mul_emod_self_left a m (a.tdiv m)
theorem adY (m place : Nat) (n : Int) (h : 0 < m) : (((place : Int) + n.tmod m).tmod m + m).tmod m = (zC m place n : Int) := by
  have h1 := Ku ((place : Int) + n.tmod m) (show (0 : Int) < m by omega)
  have h2 := Int.emod_nonneg ((place : Int) + n) (show (m : Int) ≠ 0 by omega)
  unfold zC
  rw [Int.toNat_of_nonneg h2, Int.tmod_eq_emod_of_nonneg (by omega), Int.add_emod_right, U9, Int.add_emod, U9, ← Int.add_emod]
section
variable {w0 w : World} {F : HP} {p place : Nat} {E : List (List Int)} {v : Value} {l : List Int} {way : Int}
theorem Un (H : V w0 w (iG p E place • F)) (hr : jZ w0 F .i32 v l) :
    iK prog 153 #[.pointer (some ⟨p, 0, none⟩), .int .i64 way, v] w fun v' w' => v' = .int .i64 (oN E place way l).1 ∧ V w0 w' (iG p (oN E place way l).2.1 (oN E place way l).2.2 • F) := by
  unfold oN
  by_cases h1 : way < 0 ∨ 2 < way
  · simp only [h1, if_true]; exact Uk H hr h1
  · simp only [h1, if_false]
    by_cases h2 : 1024 < l.length
    · simp only [h2, if_true]; exact RF H hr (by omega) h2
    · simp only [h2, if_false]
      by_cases h3 : way ≠ 0 ∧ 0 < E.length
      · rw [if_pos h3]
        by_cases h4 : 1024 < l.length + (E.getD 0 []).length
        · rw [if_pos h4]; exact Um H hr (by omega) (by omega) h3.2 h4
        · rw [if_neg h4]; exact RH H hr (by omega) h3.2 (by omega)
      · rw [if_neg h3]
        by_cases h5 : way = 0 ∧ l.length = 0
        · rw [if_pos h5]; obtain ⟨rfl, h6⟩ := h5; exact Nc H hr h6
        · rw [if_neg h5]; exact Ul H hr (by omega) (by omega) (by omega) h5
theorem GI {n : Int} (H : V w0 w (iG p [] place • F)) :
    iK prog 126 #[.pointer (some ⟨p, 0, none⟩), .int .i64 n] w fun v' w' => v' = .tuple #[.slice none 0 0, .int .i64 6] ∧ V w0 w' (iG p [] place • F) := by
  obtain ⟨s, h, hs, hh, hE, hp, hm, ho, H1⟩ := H.ring
  have hb := H1.get.2
  refine nO func126 ntmps126 ?_
  refine kQ (lg O (vI O (bK (bT O (fH O func145 (pG _ hb F7) ?_)))))
  rintro _ _ ⟨rfl, rfl⟩
  refine iU O (yh (bT O (dM O (bg 62 dV O ah O (dQ ay O hb (vN hs) (aT (fA O O) (iU O (wcA O (fun h1 => ?_)))))))))
  (try simp only [aG] at h1)
  refine kQ (lg O (iJ O (aY (aC (Fp results126 O O ?_)))))
  exact ⟨O, H⟩
theorem Jd {n : Int} (H : V w0 w (iG p E place • F)) (h0 : 0 < E.length) :
  iK prog 126 #[.pointer (some ⟨p, 0, none⟩), .int .i64 n] w fun v' w' => ∃ u, v' = .tuple #[u, .int .i64 0] ∧
   V w0 w' (kF 21 .i32 u (E.getD (zC E.length place n) []) • iG p E (zC E.length place n) • F) := by
 obtain ⟨s, h, hs, hh, hE, hp, hm, ho, H⟩ := H.ring
 have hb := H.get.2
 have hlt := Qx (place := place) (n := n) h0
 have acs := adY E.length place n h0
 have hb1 := Ku n (show (0 : Int) < E.length by omega)
 have hb2 := Ku ((place : Int) + n.tmod E.length) (show (0 : Int) < E.length by omega)
 refine nO func126 ntmps126 ?_
 refine kQ (lg O (vI O (bK (bT O (fH O func145 (pG _ hb F7) ?_)))))
 rintro _ _ ⟨rfl, rfl⟩
 refine iU O (yh (bT O (dM O (bg 62 dV O ah O (dQ ay O hb (vN hs) (aT (fA O O) (iU O (VR O (fun h1 => ?_)))))))))
 (try simp only [aG] at h1)
 refine eG (aS (aZ (aI ?_)))
 refine vU (n := 30) [0, 1, 2, 3, 4, 5, 6, 7, 8, 9, 10, 11, 12, 13, 14, 15, 16, 17, 18, 19, 20, 21, 22, 23, 24, 25, 26, 27, 28, 29] (fun W => W.heap = w.heap) (by kernel_rfl) (by kernel_rfl) O ?_
 have hS0 : (fun W => W.heap = w.heap) (w.drew) := rfl
 have H5d := H.drew
 refine fM 0 O hS0 O (fM 1 O hS0 O (jF 2 O hS0 O (eP 3 O hS0 63 dV O ah O ?_)))
 refine iD 4 O hS0 (fun W hW => jk ay O (by rw [hW]; exact hb) (RD hs)) ?_
 refine fM 5 O hS0 O (fM 6 O hS0 O (jF 7 O hS0 O (eP 8 O hS0 62 dV O ah O ?_)))
 refine iD 9 O hS0 (fun W hW => jk ay O (by rw [hW]; exact hb) (vN hs)) ?_
 refine iE 10 O hS0 (fun _ => LD O O (by omega)) (iE 11 O hS0 (fun _ => gY O O (by omega)) (fM 12 O hS0 O (jF 13 O hS0 O (eP 14 O hS0 62 dV O ah O ?_))))
 refine iD 15 O hS0 (fun W hW => jk ay O (by rw [hW]; exact hb) (vN hs)) ?_
 refine iE 16 O hS0 (fun _ => LD O O (by omega)) (fM 17 O hS0 O (jF 18 O hS0 O (eP 19 O hS0 62 dV O ah O ?_)))
 refine iD 20 O hS0 (fun W hW => jk ay O (by rw [hW]; exact hb) (vN hs)) ?_
 refine iE 21 O hS0 (fun _ => gY O O (by omega)) (fM 22 O hS0 O (jF 23 O hS0 O (eP 24 O hS0 62 dV O ah O ?_)))
 refine iD 25 O hS0 (fun W hW => jk ay O (by rw [hW]; exact hb) (vN hs)) ?_
 refine iE 26 O hS0 (fun _ => LD O O (by omega)) (jF 27 O hS0 O (eP 28 O hS0 63 dV O ah O ?_))
 refine gW 29 O (by kernel_rfl) (iQ H5d ah O O O (by rw [uh hs]; decide)) ?_
 rintro _ w2 H2
 rw [acs, xM hs] at H2
 refine OY (by kernel_rfl) ?_
 refine oH (aZ (bT O (kY O O (bg 63 dV O ah O (dQ ay O H2.get.2 (RD hs) (fH O func175 (Dt hs hh (by omega) H2.get.2) ?_))))))
 rintro _ w3 ⟨rfl, hD2⟩
 have H3 := H2.yg hD2
 refine ZR (nM (nX O func144 O O) (Aw H3 (fun W HW => HW.right.JC (i := zC E.length place n) hlt) (by have := hm (E.getD (zC E.length place n) []) (by rw [List.getD_eq_getElem?_getD, List.getElem?_eq_getElem hlt]; simp); omega))) (iO O) ?_
 rintro u w4 H4
 refine lg O (iJ O (Fp results126 O O ?_))
 exact ⟨u, O, (V.Ee hs hh hE (.inl hlt) hm ho H4.d3).swap⟩
theorem RI (H : V w0 w (iG p [] place • F)) :
    iK prog 155 #[.pointer (some ⟨p, 0, none⟩)] w fun v' w' => v' = .tuple #[.slice none 0 0, .int .i64 6] ∧ V w0 w' (iG p [] place • F) := by
  refine jl func155 ntmps155 ?_
  refine kQ (lg O (iU O (bT O (fH O func126 (GI H) ?_))))
  rintro _ w1 ⟨rfl, H1⟩
  refine xY O O (xY O O (lg O (iJ O (Fp results155 O O ?_))))
  exact ⟨O, H1⟩
theorem acu {m place : Nat} (h : place < m) : zC m place 0 = place := by
  unfold zC
  rw [Int.add_zero, Int.emod_eq_of_lt (by omega) (by omega)]
  omega
theorem Uo (H : V w0 w (iG p E place • F)) (h0 : 0 < E.length) :
    iK prog 155 #[.pointer (some ⟨p, 0, none⟩)] w fun v' w' => ∃ u, v' = .tuple #[u, .int .i64 0] ∧
      V w0 w' (kF 21 .i32 u (E.getD place []) • iG p E place • F) := by
  obtain ⟨s, h, hs, hh, hE, hp, hm, ho, H1⟩ := H.ring
  have hpl : zC E.length place 0 = place := acu (by omega)
  refine jl func155 ntmps155 ?_
  refine kQ (lg O (iU O (bT O (fH O func126 (Jd H h0) ?_))))
  rintro _ w1 ⟨u, rfl, H1⟩
  refine xY O O (xY O O (lg O (iJ O (Fp results155 O O ?_))))
  rw [hpl] at H1; exact ⟨u, rfl, H1⟩
theorem V.acv {s : List Value} {h : Nat} (H : V w0 w (Ik s h E • F)) : V w0 w (Ik s h E • Ik s h E • F) := H.zU
theorem acw {s : List Value} {h n p : Nat} (ho : ∀ v ∈ s, v.oneCell' = true) : ∀ v ∈ (gq s h n p).toList, v.oneCell' = true := by
  intro v hv
  simp [gq] at hv
  rcases hv with rfl | hv | rfl | rfl | rfl <;> first | rfl | exact ho v hv
theorem EP (H : V w0 w (iG p E place • F)) :
    iK prog 79 #[.pointer (some ⟨p, 0, none⟩)] w fun v' w' => ∃ q, v' = .pointer (some ⟨q, 0, none⟩) ∧ V w0 w' (iG q E place • iG p E place • F) := by
  obtain ⟨s, h, hs, hh, hE, hp, hm, ho, H⟩ := H.ring
  have hb := H.get.2
  refine jl func79 ntmps79 ?_
  refine kG O (aI (bT O (fH O func145 (pG _ hb F7) ?_)))
  rintro _ _ ⟨rfl, rfl⟩
  refine iR (yh (gX (bT O (dM O (aT (dU dV O sizeOf166 (uh hs) O hb) (jT (Bc H zeroValue166) ?_))))))
  rintro _ w2 ⟨b2, rfl, H2⟩
  refine aH (fC H2 sizeOf166 (uh hs) O O O (acw ho)) ?_
  rintro _ w3 H3
  refine iR (jE O (dO results79 O ?_))
  exact ⟨_, O, V.Ee hs hh hE hp hm ho (V.Ee hs hh hE hp hm ho (H3.PU.acv.r4)).swap.PU⟩
end
section
variable {w0 w : World} {F : HP} {p place : Nat} {E : List (List Int)}
theorem LU (H : V w0 w (iG p E place • F)) : E.length ≤ 60 ∧ (place < E.length ∨ place = 0) ∧ ∀ e ∈ E, e.length ≤ 1024 := by
  obtain ⟨s, h, hs, hh, hE, hpl, hE2, hs1, H1⟩ := H.ring
  exact ⟨hE, hpl, hE2⟩
theorem Ur (H : V w0 w (iG p E place • F)) : iK prog 155 #[.pointer (some ⟨p, 0, none⟩)] w fun v w' => ∃ u, v = .tuple #[u, .int .i64 (if E.length = 0 then 6 else 0)] ∧ V w0 w' (kF 21 .i32 u (E.getD place []) • iG p E place • F) := by
  by_cases h0 : E.length = 0
  · obtain rfl := List.eq_nil_of_length_eq_zero h0
    exact (RI H).mono fun v w' h => ⟨_, h.1, h.2.iV none⟩
  · rw [if_neg h0]
    exact (Uo H (by omega)).mono fun v w' h => h
theorem Je {n : Int} (H : V w0 w (iG p E place • F)) : iK prog 126 #[.pointer (some ⟨p, 0, none⟩), .int .i64 n] w fun v w' => ∃ u, v = .tuple #[u, .int .i64 (if E.length = 0 then 6 else 0)] ∧
    V w0 w' (kF 21 .i32 u (if E.length = 0 then [] else E.getD (zC E.length place n) []) • iG p E (if E.length = 0 then place else zC E.length place n) • F) := by
  by_cases h0 : E.length = 0
  · obtain rfl := List.eq_nil_of_length_eq_zero h0
    simp only [List.length_nil, if_true]
    exact (GI H).mono fun v w' h => ⟨_, h.1, h.2.iV none⟩
  · simp only [if_neg h0]
    exact (Jd H (by omega)).mono fun v w' h => h
end
end Go.Proofs.YtnhhmieghbfalaaGreatDoor
end
