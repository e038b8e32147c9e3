import Derived.Test.YtimndnfpcomhlaaGreatDoorZ4
import Derived.Test.YtimndnfpcomhlaaGreatDoorZ6
import Derived.Test.YtimndnfpcomhlaaGreatDoorZ5
import Derived.Test.YtimndnfpcomhlaaGreatDoorZ3
set_option linter.unusedSimpArgs false
set_option linter.unusedVariables false
/- Texts of mine, joined, their names in short: BufP Ring Ring2 Ring3 RingAny LL. -/
section
namespace Go.Proofs.YtimndnfpcomhlaaGreatDoor
open Go.RowKit
open _root_.Go.Proofs.Tryz
def kC (L : List Int) (i j : Int) (l : List Int) : Int := if i < 0 ∨ L.length < i ∨ j < i ∨ L.length < j then 70 else if 1024 < L.length - (j - i) + l.length then 3 else 0
def kL (L : List Int) (i j : Int) (l : List Int) : List Int := if kC L i j l = 0 then L.take i.toNat ++ l ++ L.drop j.toNat else L
def qJ (L : List Int) (pt i j : Int) (l : List Int) : Int := if kC L i j l = 0 then dX pt i j l.length else pt
def qZ (L : List Int) (mk i j : Int) (l : List Int) : Int := if kC L i j l = 0 then eG mk i j l.length else mk
def qK (L : List Int) (i j : Int) (l : List Int) : Int := if kC L i j l = 0 then i else 0
def lg (L : List Int) (i j : Int) (l : List Int) : List Int := if kC L i j l = 0 then (L.drop i.toNat).take (j - i).toNat else []
def lq (L : List Int) (i j : Int) (l : List Int) : List Int := if kC L i j l = 0 then l else []
section
variable {w0 w : World} {F : HP} {p : Nat} {L : List Int} {pt mk : Int} {v d s : Value} {l dl il : List Int} {i j a x : Int}
theorem zQ (H : V w0 w (fF p L pt mk • F)) (hr : kP w0 F .i32 v l) :
    iU prog 54 #[.pointer (some ⟨p, 0, none⟩), .int .i64 i, .int .i64 j, v] w fun v' w' => ∃ d s, v' = .tuple #[.agg #[.int .i64 (qK L i j l), d, s], .int .i64 (kC L i j l)] ∧
      V w0 w' (jR 21 .i32 d (lg L i j l) • jR 21 .i32 s (lq L i j l) • fF p (kL L i j l) (qJ L pt i j l) (qZ L mk i j l) • F) := by
  unfold qK kL qJ qZ lg lq
  by_cases h1 : i < 0 ∨ L.length < i ∨ j < i ∨ L.length < j
  · have e : kC L i j l = 70 := by unfold kC; rw [if_pos h1]
    simp only [e, show ¬ (70 : Int) = 0 from by decide, if_false]
    exact (FV H hr h1).mono fun v' w' h => ⟨_, _, h.1, (h.2.DK none).DK none⟩
  · have h2 : 0 ≤ i ∧ i ≤ j ∧ j ≤ L.length := by omega
    by_cases h3 : 1024 < L.length - (j - i) + l.length
    · have e : kC L i j l = 3 := by unfold kC; rw [if_neg h1, if_pos h3]
      simp only [e, show ¬ (3 : Int) = 0 from by decide, if_false]
      exact (EH H hr h2 h3).mono fun v' w' h => ⟨_, _, h.1, (h.2.DK none).DK none⟩
    · have e : kC L i j l = 0 := by unfold kC; rw [if_neg h1, if_neg h3]
      simp only [e, if_true]
      obtain ⟨i', rfl⟩ := Int.eq_ofNat_of_zero_le h2.1
      obtain ⟨j', rfl⟩ := Int.eq_ofNat_of_zero_le (show 0 ≤ j by omega)
      have hij : i' ≤ j' ∧ j' ≤ L.length := by omega
      have := GZ (i := i') (j := j') H hr hij (by omega)
      simpa only [Int.toNat_natCast, show ((j' : Int) - (i' : Int)).toNat = j' - i' from by omega, jv] using this
def smE (L : List Int) (x : Int) : Int := if x < -1 ∨ L.length < x then 70 else 0
def Zi (L : List Int) (mk x : Int) : Int := if x < -1 ∨ L.length < x then mk else x
theorem zS (H : V w0 w (fF p L pt mk • F)) : iU prog 61 #[.pointer (some ⟨p, 0, none⟩), .int .i64 x] w fun v' w' => v' = .int .i64 (smE L x) ∧ V w0 w' (fF p L pt (Zi L mk x) • F) := by
 unfold smE Zi
 have hL : L.length ≤ 1024 := by obtain ⟨a, c, xs, f, t, h1, h2, h3, h4, h5, h6, h7, hc1, hc2, hl, H1⟩ := H.buf; exact h4
 refine oP func61 ntmps61 ?_
 refine lZ O (aO (bn (bM O (dZ O func92 (nM H) ?_))))
 rintro _ _ ⟨rfl, rfl⟩
 refine gY O (vO (bM O (aV (fJ O O) (qC O (fun h1 => ?_) (fun h1 => ?_)))))
 ·(try simp only [aH] at h1)
  refine dH (dH (dH (dH (pW O O (gY O (EY (lF O (bD (aK (fB results61 O ?_))))))))))
  exact ⟨by rw [if_pos (by omega)], by rw [if_pos (by omega)]; exact H⟩
 ·(try simp only [aH] at h1)
  refine bU (cZ O (bU (cZ O (bU (dZ O func50 (mG H) ?_)))))
  rintro _ w2 ⟨rfl, hD2⟩
  have HD2 := H.qW hD2
  refine bU (aV (fZ O O) (lV O O (gY O (bI O (fun h2 => ?_) (fun h2 => ?_)))))
  ·(try simp only [aH] at h2)
   refine lF O (bD (aK (fB results61 O ?_)))
   exact ⟨by rw [if_pos (by omega)], by rw [if_pos (by omega)]; exact HD2⟩
  ·(try simp only [aH] at h2)
   refine fU (aN (bg (aO ?_)))
   obtain ⟨aaB, aaC, aaD, f_p, t_p, PL, PN, PO, PS, PU, Tc, aaE, aaF, aaG, Yz, Nq⟩ := (HD2).buf
   refine aC (mQ O O (dM O (bf 5 aW O aj O (aI (fM 5 (l' := [_, _, _, _, _, _]) Nq aj O O (by first | rfl | assumption) O O) ?_))))
   rintro _ w4 H4
   refine iT (lF O (fB results61 O ?_))
   exact ⟨by rw [if_neg (by omega)], by rw [if_neg (by omega)]; exact V.qx PL PN PO PS PU Tc (by omega) H4.f2.f2⟩
def swE (mk : Int) : Int := if mk < 0 then 6 else 0
def swP (pt mk : Int) : Int := if mk < 0 then pt else mk
def swM (pt mk : Int) : Int := if mk < 0 then mk else pt
theorem Ld (H : V w0 w (fF p L pt mk • F)) : iU prog 64 #[.pointer (some ⟨p, 0, none⟩)] w fun v' w' => v' = .int .i64 (swE mk) ∧ V w0 w' (fF p L (swP pt mk) (swM pt mk) • F) := by
 unfold swE swP swM
 refine ji func64 ntmps64 ?_
 refine lZ O (aO (bn (bM O (dZ O func92 (nM H) ?_))))
 rintro _ _ ⟨rfl, rfl⟩
 refine gY O (vO (aO ?_))
 obtain ⟨aaB, aaC, aaD, f_p, t_p, PL, PN, PO, PS, PU, Tc, aaE, aaF, aaG, Yz, Nq⟩ := (H).buf
 refine aC (ny O O (bf 5 aW O aj O (dQ ay O (Nq).get.2 O (aV (fJ O O) (gY O (bI O (fun h1 => ?_) (fun h1 => ?_)))))))
 ·(try simp only [aH] at h1)
  refine lF O (bD (aK (fB results64 O ?_)))
  exact ⟨by rw [if_pos (by omega)], by rw [if_pos (by omega), if_pos (by omega)]; exact V.qx PL PN PO PS PU Tc (by omega) Nq.f2.f2⟩
 ·(try simp only [aH] at h1)
  refine fU (aN (bg (aO ?_)))
  have aaH := Nq.drew
  have yE := V.kp (aaH.f2.f2)
  refine xP [5, 9] yE O (jc 0 O yE O (jc 1 O yE O (jc 2 O yE O (kN 3 O yE O (fV 4 O yE 5 aW O aj O (jq 5 O yE (fun W hW => jV ay O ((Kp.h hW)).get.2 O) (jc 6 O yE O (kN 7 O yE O (fV 8 O yE 4 aW O aj O (jq 9 O yE (fun W hW => jV ay O ((Kp.h hW)).get.2 O) (kN 10 O yE O (fV 11 O yE 4 aW O aj O ?_))))))))))))
  refine eF 12 O (by kernel_rfl) (fM 4 (l' := [_, _, _, _, _, _]) aaH aj O O (by first | rfl | assumption) O O) ?_
  rintro _ w3 H3
  have wG := V.kp (H3.f2.f2)
  refine iC wG (by kernel_rfl) ?_
  refine kN 13 O wG O (fV 14 O wG 5 aW O aj O ?_)
  refine eF 15 O (by kernel_rfl) (fM 5 (l' := [_, _, _, _, _, _]) H3 aj O O (by first | rfl | assumption) O O) ?_
  rintro _ w4 H4
  have kW := V.kp (H4.f2.f2)
  refine iC kW (by kernel_rfl) ?_
  refine qp (bg (lF O (fB results64 O ?_)))
  exact ⟨by rw [if_neg (by omega)], by rw [if_neg (by omega), if_neg (by omega)]; exact V.qx PL PN PO PS PU (by omega) (by omega) H4.f2.f2⟩
theorem Ji (H : V w0 w (fF p L pt mk • F)) : iU prog 51 #[.pointer (some ⟨p, 0, none⟩)] w fun v' w' => ∃ q, v' = .pointer (some ⟨q, 0, none⟩) ∧ V w0 w' (fF q L pt mk • fF p L pt mk • F) := by
 refine ji func51 ntmps51 ?_
 refine lZ O (aO (bM O (dZ O func92 (nM H) ?_)))
 rintro _ _ ⟨rfl, rfl⟩
 refine iT (vO (iq (aO ?_)))
 obtain ⟨aaB, aaC, aaD, f_p, t_p, PL, PN, PO, PS, PU, Tc, aaE, aaF, aaG, Yz, Nq⟩ := (H).buf
 refine aC (ny O O (aV (dG aW O sizeOf162 O O (Nq).get.2) (jL (fE (l := [_, _, _, _, _, _]) Nq zeroValue162 O) ?_)))
 rintro _ w3 ⟨b3, rfl, H3⟩
 refine aI (dh 0 (l' := [_, _, _, _, _, _]) (us := [_, _, _, _, _, _]) H3 sizeOf162 O O O (aF (aZ (by first | rfl | exact Rd.one ((H3.f3).aP)) (aF (aF (aF (aF bK)))))) O O) ?_
 rintro _ w4 H4
 refine sU O (dM O (bf 1 aW O dD O (dQ aG O (H4.f2).get.2 O (dZ O func93 (sK H4 (fun W HW => (HW.f3).aP) (by omega)) ?_))))
 rintro u5 w5 H5
 refine bf 1 aW O dD O (aI (fM 1 (l' := [_, _, _, _, _, _]) H5.f2 dD O O (by first | rfl | exact Rd.one ((H5).aP)) O O) ?_)
 rintro _ w6 H6
 refine iT (lF O (fB results51 O ?_))
 exact ⟨_, O, (V.qx PL PN PO PS PU Tc (by omega) (V.qx PL PN PO PS PU Tc (by omega) H6.f4.f4.f4.f4).f2.f3.f2).f2⟩
def Az (L : List Int) (a : Int) (dl : List Int) : Bool := decide ((dl.length : Int) ≤ L.length - a) && ((L.drop a.toNat).take dl.length == dl)
def zZ (L : List Int) (a : Int) (dl il : List Int) : Int := if a < 0 ∨ L.length < a then 70 else if Az L a dl then kC L a (a + dl.length) il else 71
def zf (L : List Int) (a : Int) (dl il : List Int) : List Int := if zZ L a dl il = 0 then kL L a (a + dl.length) il else L
def PV (L : List Int) (pt a : Int) (dl il : List Int) : Int := if zZ L a dl il = 0 then qJ L pt a (a + dl.length) il else pt
def PW (L : List Int) (mk a : Int) (dl il : List Int) : Int := if zZ L a dl il = 0 then qZ L mk a (a + dl.length) il else mk
theorem Jj (H : V w0 w (fF p L pt mk • F)) (hd : kP w0 F .i32 d dl) (hi : kP w0 F .i32 s il) : iU prog 66 #[.pointer (some ⟨p, 0, none⟩), .agg #[.int .i64 a, d, s]] w fun v' w' =>
    v' = .int .i64 (zZ L a dl il) ∧ V w0 w' (fF p (zf L a dl il) (PV L pt a dl il) (PW L mk a dl il) • F) := by
  have hL : L.length ≤ 1024 := by obtain ⟨a, c, xs, f, t, h1, h2, h3, h4, h5, h6, h7, hc1, hc2, hl, H1⟩ := H.buf; exact h4
  refine oP func66 ntmps66 ?_
  refine jg (jL (jG (l := [_, _, _]) H O O) ?_)
  rintro _ w1 ⟨b1, rfl, H1⟩
  refine tJ O (bn (bM O (dZ O func92 (nM H1.f2) ?_)))
  rintro _ _ ⟨rfl, rfl⟩
  refine gY O (vO (aO ?_))
  have Aa := H1.drew
  have gG := V.kp (Aa.f2.f2)
  refine xP [1, 5] gG O (fV 0 O gG 0 aS O aj O (jq 1 O gG (fun W hW => jV ay O ((Kp.h hW)).get.2 O) (jW 2 O gG (fun _ => fJ O O) ?_)))
  refine DJ 3 O O (by kernel_rfl) (by kernel_rfl) gG (jY O) (fun h1 => ?_) (fun h1 => ?_)
  · (try simp only [aH] at h1)
    refine nZ 4 O O O O (by kernel_rfl) (by kernel_rfl) gG (jY O) ?_
    refine nZ 5 O O O O (by kernel_rfl) (by kernel_rfl) gG (jY O) ?_
    refine nZ 6 O O O O (by kernel_rfl) (by kernel_rfl) gG (jY O) ?_
    refine nZ 7 O O O O (by kernel_rfl) (by kernel_rfl) gG (jY O) ?_
    refine nZ 8 O O O O (by kernel_rfl) (by kernel_rfl) gG (jY O) ?_
    refine jW 9 O gG (fun _ => Ah O O) (jW 10 O gG (fun _ => iV O) (qp (bg (EY (lF O (bD (aK (fB results66 O ?_))))))))
    have e : zZ L a dl il = 70 := by unfold zZ; rw [if_pos (by omega)]
    unfold zf PV PW
    rw [e]
    exact ⟨O, Aa.right⟩
  · (try simp only [aH] at h1)
    refine gJ 4 O O O (by kernel_rfl) (by kernel_rfl) gG (fun _ => uT 0 aS O O aj (by decide) O rfl) (jY O) ?_
    refine qo 5 O O O (by kernel_rfl) (by kernel_rfl) gG (by decide) (fun W hW => jM (fK ay O) O (iP ((Kp.h hW)).get.2 O)) (jY O) ?_
    refine gJ 6 O O O (by kernel_rfl) (by kernel_rfl) gG (fun _ => CS O) (jY O) ?_
    refine CW 7 O O O (by kernel_rfl) (tq (tu O func50 O O) (mG Aa.f2)) (jY O) ?_
    rintro _ w3 ⟨rfl, hD3⟩
    have HD3 := Aa.qW hD3
    have wG := V.kp (HD3.f2.f2)
    refine dK wG (fun W hW => (Kp.h hW).f2.f2) ?_
    refine gJ 8 O O O (by kernel_rfl) (by kernel_rfl) wG (fun _ => fZ O O) (jY O) ?_
    refine jW 9 O wG (fun _ => Ai O O) (jW 10 O wG (fun _ => iV O) (qp (bg (bI O (fun h2 => ?_) (fun h2 => ?_)))))
    · (try simp only [aH] at h2)
      refine lF O (bD (aK (fB results66 O ?_)))
      have e : zZ L a dl il = 70 := by unfold zZ; rw [if_pos (by omega)]
      unfold zf PV PW
      rw [e]
      exact ⟨O, HD3.right⟩
    · (try simp only [aH] at h2)
      refine aO ?_
      have Nr := HD3.drew
      have qL := V.kp (Nr.f2.f2)
      refine xP [1, 6, 13, 15, 17, 22] qL O (fV 0 O qL 1 aS O dD O (jq 1 O qL (fun W hW => jV aG O ((Kp.h hW)).get.2 O) (jW 2 O qL (fun _ => rX (hd _ (Nr.right.right)) aG O) (jc 3 O qL O (fV 5 O qL 0 aS O aj O (jq 6 O qL (fun W hW => jV ay O ((Kp.h hW)).get.2 O) (mP 4 O (wu O func50 (mG Nr.f2)) ?_)))))))
      rintro _ w4 ⟨rfl, hD4⟩
      have HD4 := Nr.qW hD4
      have kW := V.kp (HD4.f2.f2)
      refine dK kW (fun W hW => (Kp.h hW).f2.f2) ?_
      refine jW 7 O kW (fun _ => lX O O (by omega)) (jW 8 O kW (fun _ => fZ O O) ?_)
      refine DJ 9 O O (by kernel_rfl) (by kernel_rfl) kW (jY O) (fun h3 => ?_) (fun h3 => ?_)
      · (try simp only [aH] at h3)
        refine nZ 10 O O O O (by kernel_rfl) (by kernel_rfl) kW (jY O) ?_
        refine nZ 11 O O O O (by kernel_rfl) (by kernel_rfl) kW (jY O) ?_
        refine nZ 12 O O O O (by kernel_rfl) (by kernel_rfl) kW (jY O) ?_
        refine nZ 13 O O O O (by kernel_rfl) (by kernel_rfl) kW (jY O) ?_
        refine nZ 14 O O O O (by kernel_rfl) (by kernel_rfl) kW (jY O) ?_
        refine nZ 15 O O O O (by kernel_rfl) (by kernel_rfl) kW (jY O) ?_
        refine nZ 16 O O O O (by kernel_rfl) (by kernel_rfl) kW (jY O) ?_
        refine nZ 17 O O O O (by kernel_rfl) (by kernel_rfl) kW (jY O) ?_
        refine nZ 18 O O O O (by kernel_rfl) (by kernel_rfl) kW (jY O) ?_
        refine nZ 19 O O O O (by kernel_rfl) (by kernel_rfl) kW (jY O) ?_
        refine nZ 20 O O O O (by kernel_rfl) (by kernel_rfl) kW (jY O) ?_
        refine nZ 21 O O O O (by kernel_rfl) (by kernel_rfl) kW (jY O) ?_
        refine nZ 22 O O O O (by kernel_rfl) (by kernel_rfl) kW (jY O) ?_
        refine nZ 23 O O O O (by kernel_rfl) (by kernel_rfl) kW (jY O) ?_
        refine nZ 24 O O O O (by kernel_rfl) (by kernel_rfl) kW (jY O) ?_
        refine jW 25 O kW (fun _ => Ah O O) (jW 26 O kW (fun _ => iV O) (qp (bg (EY (lF O (bD (aK (fB results66 O ?_))))))))
        have e1 : (a + dl.length).toNat - a.toNat = dl.length := by omega
        have hf : Az L a dl = false := by
          simp only [Az, Bool.and_eq_false_iff, decide_eq_false_iff_not, beq_eq_false_iff_ne, ne_eq]
          first
            | (refine .inl ?_; omega)
            | (refine .inr ?_; rw [e1] at hcond; exact hcond)
        have e : zZ L a dl il = 71 := by unfold zZ; rw [if_neg (by omega), hf]; rfl
        unfold zf PV PW
        rw [e]
        exact ⟨O, HD4.right⟩
      · (try simp only [aH] at h3)
        refine gJ 10 O O O (by kernel_rfl) (by kernel_rfl) kW (fun _ => CS O) (jY O) ?_
        refine gJ 12 O O O (by kernel_rfl) (by kernel_rfl) kW (fun _ => uT 0 aS O O aj (by decide) O rfl) (jY O) ?_
        refine qo 13 O O O (by kernel_rfl) (by kernel_rfl) kW (by decide) (fun W hW => jM (fK ay O) O (iP ((Kp.h hW)).get.2 O)) (jY O) ?_
        refine gJ 14 O O O (by kernel_rfl) (by kernel_rfl) kW (fun _ => uT 0 aS O O aj (by decide) O rfl) (jY O) ?_
        refine qo 15 O O O (by kernel_rfl) (by kernel_rfl) kW (by decide) (fun W hW => jM (fK ay O) O (iP ((Kp.h hW)).get.2 O)) (jY O) ?_
        refine gJ 16 O O O (by kernel_rfl) (by kernel_rfl) kW (fun _ => uT 1 aS O O dD (by decide) O rfl) (jY O) ?_
        refine qo 17 O O O (by kernel_rfl) (by kernel_rfl) kW (by decide) (fun W hW => jM (fK aG O) O (iP ((Kp.h hW)).get.2 O)) (jY O) ?_
        refine gJ 18 O O O (by kernel_rfl) (by kernel_rfl) kW (fun _ => rX (hd _ (HD4.right.right)) aG O) (jY O) ?_
        refine gJ 19 O O O (by kernel_rfl) (by kernel_rfl) kW (fun _ => gX O O (by omega)) (jY O) ?_
        refine gJ 21 O O O (by kernel_rfl) (by kernel_rfl) kW (fun _ => uT 1 aS O O dD (by decide) O rfl) (jY O) ?_
        refine qo 22 O O O (by kernel_rfl) (by kernel_rfl) kW (by decide) (fun W hW => jM (fK aG O) O (iP ((Kp.h hW)).get.2 O)) (jY O) ?_
        refine CW 11 O O O (by kernel_rfl) (tq (tu O func59 O O) (oK HD4.f2)) (jY O) ?_
        rintro u5 w5 H5
        have Dc := V.kp (H5.f3.f3.f3)
        refine dK Dc (fun W hW => (Kp.h hW).right.f2) ?_
        refine gJ 20 O O O (by kernel_rfl) (by kernel_rfl) Dc (fun _ => yx ((H5).aP) aG jr O O O (by omega)) (jY O) ?_
        refine CW 23 O O O (by kernel_rfl) (tq (tu O func104 O O) (JV _ _ _ _ _ (mM.cut ((H5).aP) (by omega) (by omega)) (hd _ (H5.right.right.right)))) (jY O) ?_
        rintro _ w6 ⟨rfl, hD6⟩
        have HD6 := H5.qW hD6
        have yF := V.kp (HD6.f3.f3.f3)
        refine iC yF (by kernel_rfl) ?_
        refine gJ 24 O O O (by kernel_rfl) (by kernel_rfl) yF (fun _ => oO O) (jY O) ?_
        refine jW 25 O yF (fun _ => Ai O O) (jW 26 O yF (fun _ => iV O) (qp (bg (bI O (fun h4 => ?_) (fun h4 => ?_)))))
        · (try simp only [aH] at h4)
          have hcond := h4
          refine lF O (bD (aK (fB results66 O ?_)))
          have e1 : (a + dl.length).toNat - a.toNat = dl.length := by omega
          have hf : Az L a dl = false := by
            simp only [Az, Bool.and_eq_false_iff, decide_eq_false_iff_not, beq_eq_false_iff_ne, ne_eq]
            first
              | (refine .inl ?_; omega)
              | (refine .inr ?_; rw [e1] at hcond; exact hcond)
          have e : zZ L a dl il = 71 := by unfold zZ; rw [if_neg (by omega), hf]; rfl
          unfold zf PV PW
          rw [e]
          exact ⟨O, HD6.right.f2.right⟩
        · (try simp only [aH] at h4)
          have hcond := h4
          refine fU (aN (bg (bM O (bf 0 aS O aj O (dQ ay O (HD6.f3).get.2 O (bf 0 aS O aj O (dQ ay O (HD6.f3).get.2 O (bf 1 aS O dD O (dQ aG O (HD6.f3).get.2 O (aV (rX (hd _ (HD6.right.right.right)) aG O) (aV (gX O O (by omega)) (bf 2 aS O dD O (dQ aG O (HD6.f3).get.2 O (dZ O func54 (zQ HD6.f2 (fun W HW => hi _ (HW.right.right))) ?_))))))))))))))
          rintro _ w7 ⟨d7, s7, rfl, H7⟩
          refine cZ O (rO O O (rO O O (jL (fE (l := [_, _, _]) H7 dB O) ?_)))
          rintro _ w8 ⟨b8, rfl, H8⟩
          refine aI (dh 0 (l' := [_, _, _]) (us := [_, _, _]) H8 bG O O O (aF (aZ (by first | rfl | exact Rd.one ((H8.f2).aP)) (aZ (by first | rfl | exact Rd.one ((H8.f3).aP)) bK))) O O) ?_
          rintro _ w9 H9
          refine gY O (bM O (iW O (fB results66 O ?_)))
          have e1 : (a + dl.length).toNat - a.toNat = dl.length := by omega
          have hf : Az L a dl = true := by
            simp only [Az, Bool.and_eq_true, decide_eq_true_eq, beq_iff_eq]
            exact ⟨by omega, by rw [e1] at hcond; exact hcond⟩
          have e : zZ L a dl il = kC L a (a + dl.length) il := by unfold zZ; rw [if_neg (by omega), if_pos hf]
          refine ⟨by rw [e]; rfl, ?_⟩
          unfold zf PV PW
          rw [e]
          by_cases h0 : kC L a (a + dl.length) il = 0
          · simp only [if_pos h0]; exact H9.right.right.right.f2.right.f2.right
          · simp only [if_neg h0]
            have H9 := H9.right.right.right.f2.right.f2.right
            unfold kL qJ qZ at H9
            simpa only [if_neg h0] using H9
end
def dF (s : List Value) (h n p : Nat) : Array Value := (Value.bool true :: (s ++ [.int .i64 h, .int .i64 n, .int .i64 p])).toArray
section
variable {s : List Value} {h n p : Nat}
theorem mO (hs : s.length = 60) : (dF s h n p).size = 64 := by simp [dF, hs]
theorem xU : (dF s h n p)[0]? = some (.bool true) := by simp [dF]
theorem JY (hs : s.length = 60) {i : Nat} (hi : i < 60) : (dF s h n p)[1 + i]? = some (s.getD i undef) := by
  simp [dF, Nat.add_comm 1 i, List.getElem?_append_left (show i < s.length by omega), List.getD_eq_getElem?_getD, show i < s.length by omega]
theorem yG (hs : s.length = 60) : (dF s h n p)[61]? = some (.int .i64 h) := by simp [dF, hs]
theorem nD (hs : s.length = 60) : (dF s h n p)[62]? = some (.int .i64 n) := by simp [dF, hs]
theorem G6 (hs : s.length = 60) : (dF s h n p)[63]? = some (.int .i64 p) := by simp [dF, hs]
theorem Jk (hs : s.length = 60) (x : Nat) : (dF s h n p).setIfInBounds 61 (.int .i64 x) = dF s x n p := by
  apply Array.ext'; simp [dF, List.set_append, hs]
theorem Jl (hs : s.length = 60) (x : Nat) : (dF s h n p).setIfInBounds 62 (.int .i64 x) = dF s h x p := by
  apply Array.ext'; simp [dF, List.set_append, hs]
theorem oD (hs : s.length = 60) (x : Nat) : (dF s h n p).setIfInBounds 63 (.int .i64 x) = dF s h n x := by
  apply Array.ext'; simp [dF, List.set_append, hs]
theorem xW (hs : s.length = 60) {i : Nat} (hi : i < 60) (v : Value) : (dF s h n p).setIfInBounds (1 + i) v = dF (s.set i v) h n p := by
  apply Array.ext'; simp [dF, Nat.add_comm 1 i, List.set_append, hs, hi]
end
def Ns (I : Hp) (s : List Value) (h : Nat) (E : List (List Int)) : Prop := ∀ i, i < E.length → BP I .i32 (s.getD ((h + i) % 60) undef) (E.getD i [])
def zh (s : List Value) (h : Nat) (E : List (List Int)) : HP := know (fun I => Ns I s h E) fun _ _ hl hk i hi => (hk i hi).mono hl
def dL (p : Nat) (E : List (List Int)) (place : Nat) : HP := wR fun (x : List Value × Nat) =>
  fact (x.1.length = 60 ∧ x.2 < 60 ∧ E.length ≤ 60 ∧ (place < E.length ∨ place = 0) ∧ (∀ e ∈ E, e.length ≤ 1024) ∧ ∀ v ∈ x.1, v.oneCell' = true) • dR p (.cells (dF x.1 x.2 E.length place) 155 (0, 0)) • zh x.1 x.2 E
section
variable {w0 w : World} {F : HP} {p place : Nat} {E : List (List Int)}
theorem V.ring (H : V w0 w (dL p E place • F)) : ∃ s h, s.length = 60 ∧ h < 60 ∧ E.length ≤ 60 ∧ (place < E.length ∨ place = 0) ∧ (∀ e ∈ E, e.length ≤ 1024) ∧ (∀ v ∈ s, v.oneCell' = true) ∧ V w0 w (dR p (.cells (dF s h E.length place) 155 (0, 0)) • zh s h E • F) := by
  obtain ⟨⟨s, h⟩, H⟩ := H.qP
  obtain ⟨⟨h1, h2, h3, h4, h5, h6⟩, H⟩ := H.flat.fact
  exact ⟨s, h, h1, h2, h3, h4, h5, h6, H.flat⟩
theorem V.wH {s : List Value} {h : Nat} (h1 : s.length = 60) (h2 : h < 60) (h3 : E.length ≤ 60) (h4 : place < E.length ∨ place = 0) (h5 : ∀ e ∈ E, e.length ≤ 1024) (h6 : ∀ v ∈ s, v.oneCell' = true) (H : V w0 w (dR p (.cells (dF s h E.length place) 155 (0, 0)) • zh s h E • F)) : V w0 w (dL p E place • F) :=
  V.jQ (s, h) (V.deep (V.nH ⟨h1, h2, h3, h4, h5, h6⟩ H.deep))
theorem Le (H : V w0 w F) : iU prog 46 #[] w fun v w' => ∃ p, v = .pointer (some ⟨p, 0, none⟩) ∧ V w0 w' (dL p [] 0 • F) := by
  refine Zb func46 ntmps46 ?_
  refine lZ O (jg (aV (lQ (pl := #[(0, 1), (1, 60), (61, 1), (62, 1), (63, 1)]) (dF (List.replicate 60 (.slice none 0 0)) 0 0 0) bQ zeroValue155 (fun w => by kernel_rfl) O (by kernel_rfl)) (jL (JI H O) ?_)))
  rintro _ w1 ⟨b1, rfl, H1⟩
  refine iW O (fB results46 O ?_)
  refine ⟨b1, O, V.wH (s := List.replicate 60 (.slice none 0 0)) (h := 0) (by simp) (by omega) (by simp) (.inr O) (by simp) (by intro v hv; rw [List.eq_of_mem_replicate hv]; rfl) ?_⟩
  exact V.swap (V.Gg (fun I i hi => by simp at hi) H1)
theorem jX (t : TypeId) {cs : Array Value} {fr : Nat × Nat} {m : Bool} (hb : w.heap[p]? = some (.cells cs t fr)) (h0 : cs[0]? = some (.bool m)) :
    iU prog 94 #[.pointer (some ⟨p, 0, none⟩)] w fun v w' => v = .bool (!m) ∧ w = w' := by
  refine ji func94 ntmps94 ?_
  refine lZ O (bM O (aV (kV nT O O) (JO O (fun h1 => ?_))))
  (try simp only [aH] at h1)
  refine bU (cZ O (bU (dM O (bU (bf 0 bQ O aQ O (bU (dQ bW O hb h0 (bU (aV (oO O) (lV O O (iW O (fB results94 O ?_))))))))))))
  exact ⟨O, O⟩
theorem V.AA {s : List Value} {h i : Nat} (H : V w0 w (zh s h E • F)) (hi : i < E.length) : mM w .i32 (s.getD ((h + i) % 60) undef) (E.getD i []) := let ⟨I, k, hI⟩ := H.xw; (k i hi).rd hI
theorem vk {s : List Value} {h n m : Nat} {t : TypeId} {fr : Nat × Nat} {k : Nat} (hs : s.length = 60) (hh : h < 60) (hk : k < 60) (hb : w.heap[p]? = some (.cells (dF s h n m) t fr)) :
  iU prog 99 #[.pointer (some ⟨p, 0, none⟩), .int .i64 k] w fun v w' => v = s.getD ((h + k) % 60) undef ∧ uy w w' := by
 refine oP func99 ntmps99 ?_
 refine lZ O (aO ?_)
 refine oC (n := 13) [0, 1, 2, 3, 4, 5, 6, 7, 8, 9, 10, 11, 12] (fun W => W.heap = w.heap) (by kernel_rfl) (by kernel_rfl) O ?_
 have hS0 : (fun W => W.heap = w.heap) (w.drew) := rfl
 refine jc 0 O hS0 O (jc 1 O hS0 O (kN 2 O hS0 O (fV 3 O hS0 61 bQ O aj O ?_)))
 refine jq 4 O hS0 (fun W hW => jV ay O (by rw [hW]; exact hb) (yG hs)) ?_
 refine jc 5 O hS0 O (jW 6 O hS0 (fun _ => gX O O (by omega)) ?_)
 refine jW 7 O hS0 (fun _ => Yq O O (by omega) (by  omega)) ?_
 refine kN 8 O hS0 O (fV 9 O hS0 1 bQ O sizeOf153 O (jW 10 O hS0 (fun _ => sD underlying153 dD O O (by omega)) ?_))
 refine jq 11 O hS0 (fun W hW => jV aG O (by rw [hW]; exact hb) (by rw [show (1 + (((h : Int) + (k : Int)) % 60).toNat * 1) = 1 + (h + k) % 60 from by omega]; exact JY hs (by omega))) ?_
 refine jW 12 O hS0 (fun _ => iV O) (qp (bg (rV (fB results99 O ?_))))
 exact ⟨O, ⟨1, O⟩⟩
theorem Lh (H : V w0 w (dL p E place • F)) : iU prog 79 #[.pointer (some ⟨p, 0, none⟩)] w fun v w' => v = .int .i64 E.length ∧ w = w' := by
  obtain ⟨s, h, hs, hh, hE, hp, hm, ho, H1⟩ := H.ring
  have hb := H1.get.2
  refine ji func79 ntmps79 ?_
  refine lZ O (aO (bM O (dZ O func94 (jX _ hb xU) ?_)))
  rintro _ _ ⟨rfl, rfl⟩
  refine iT (vO (iq (bM O (dM O (bf 62 bQ O aj O (dQ ay O hb (nD hs) (iW O (fB results79 O ?_))))))))
  exact ⟨O, O⟩
theorem Lj {s : List Value} {u : Value} {i : Nat} (h : ∀ v ∈ s, v.oneCell' = true) (hu : u.oneCell' = true) : ∀ v ∈ s.set i u, v.oneCell' = true := by
  intro v hv
  rcases List.mem_or_eq_of_mem_set hv with hv | rfl
  · exact h v hv
  · exact hu
theorem PX {I : Hp} {s : List Value} {h : Nat} {l : List Int} {v : Value} (hs : s.length = 60) (hh : h < 60) (hE : E.length ≤ 60) (hS : Ns I s h E) (hv : BP I .i32 v l) :
    Ns I (s.set ((h + 59) % 60) v) ((h + 59) % 60) ((l :: E).take 60) := by
  intro i hi
  have ado : i < 60 ∧ i < E.length + 1 := by simp at hi; omega
  rw [List.getD_eq_getElem?_getD (l := (l :: E).take 60), List.getElem?_take, if_pos (by omega)]
  cases i with
  | zero =>
    have e : ((h + 59) % 60 + 0) % 60 = (h + 59) % 60 := by omega
    rw [e, List.getD_eq_getElem?_getD, List.getElem?_set_self (by omega)]
    exact hv
  | succ i =>
    have e : ((h + 59) % 60 + (i + 1)) % 60 = (h + i) % 60 := by omega
    have hne : ¬ (h + 59) % 60 = (h + i) % 60 := by omega
    rw [e, List.getD_eq_getElem?_getD, List.getElem?_set_ne hne, ← List.getD_eq_getElem?_getD]
    have := hS i (by omega)
    simpa [List.getD_eq_getElem?_getD] using this
theorem Cc {v : Value} {l : List Int} (H : V w0 w (dL p E place • F)) (hr : kP w0 F .i32 v l) (hl : l.length ≤ 1024) :
    iU prog 100 #[.pointer (some ⟨p, 0, none⟩), v] w fun _ w' => V w0 w' (dL p ((l :: E).take 60) 0 • F) := by
  obtain ⟨s, h, hs, hh, hE, hp, hm, ho, H⟩ := H.ring
  have hh' : (h + 59) % 60 < 60 := by omega
  refine oP func100 ntmps100 ?_
  refine bM O (ny O O (bf 61 bQ O aj O (dQ ay O H.get.2 (yG hs) (aV (gX O O (by omega)) (aV (lX O O (by omega)) ?_)))))
  refine aV (Yq O O (by omega) (by  omega)) ?_
  refine dM O (bf 61 bQ O aj O (aI (jk H aj O O O (by rw [mO hs]; decide)) ?_))
  rintro _ w1 H1
  rw [show (((h : Int) + 60 - 1) % 60) = (((h + 59) % 60 : Nat) : Int) from by omega, Jk hs] at H1
  refine qj ?_
  refine oC (n := 11) [0, 1, 2, 3, 4, 5, 6, 7, 8, 9, 10] (fun W => W.heap[p]? = some (.cells (dF s ((h + 59) % 60) E.length place) 155 (0, 0))) (by kernel_rfl) (by kernel_rfl) O ?_
  have hS0 : (fun W => W.heap[p]? = some (.cells (dF s ((h + 59) % 60) E.length place) 155 (0, 0))) (w1.drew) := H1.get.2
  have H1d := H1.drew
  refine jc 0 O hS0 O (jc 1 O hS0 O (kN 2 O hS0 O (fV 3 O hS0 61 bQ O aj O (jq 4 O hS0 (fun W hW => jV ay O hW (yG hs)) (jc 5 O hS0 O (kN 7 O hS0 O (fV 8 O hS0 1 bQ O sizeOf153 O (mP 6 O (wu O func93 (sK H1d hr.under.under (by omega))) ?_))))))))
  rintro u w2 H2
  have hS2 : (fun W => W.heap[p]? = some (.cells (dF s ((h + 59) % 60) E.length place) 155 (0, 0))) w2 := H2.swap.get.2
  refine DI hS2 ?_
  refine jW 9 O hS2 (fun _ => sD underlying153 dD O O (by omega)) ?_
  refine eF 10 O (by kernel_rfl) (jk H2.swap dD O O H2.aP.one (by rw [mO hs]; omega)) ?_
  rintro _ w3 H3
  rw [show (1 + ((((h + 59) % 60 : Nat) : Int)).toNat * 1) = 1 + (h + 59) % 60 from by omega, xW hs hh'] at H3
  have hs' : (s.set ((h + 59) % 60) u).length = 60 := by simp [hs]
  have ho' := Lj ho (u := u) (i := (h + 59) % 60) H2.aP.one
  refine Gy (by kernel_rfl) ?_
  refine qp (bg (bM O (ny O O (bf 62 bQ O aj O (dQ ay O H3.get.2 (nD hs') (aV (gX O O (by omega)) (aV (QK O O) (dM O (bf 62 bQ O aj O (aI (jk H3 aj O O O (by rw [mO hs']; decide)) ?_))))))))))
  rintro _ w4 H4
  rw [show min ((E.length : Int) + 1) 60 = ((min (E.length + 1) 60 : Nat) : Int) from by omega, Jl hs'] at H4
  refine iT (aC (ny O O (bf 63 bQ O aj O (aI (jk H4 aj O O O (by rw [mO hs']; decide)) ?_))))
  rintro _ w5 H5
  rw [show (Value.int .i64 0) = .int .i64 ((0 : Nat) : Int) from rfl, oD hs'] at H5
  refine bY (gQ (.inr O) results100 ?_)
  have hlen : ((l :: E).take 60).length = min (E.length + 1) 60 := by simp; omega
  refine V.wH hs' hh' (by omega) (.inr O) ?_ ho' ?_
  · intro e he
    rcases List.mem_cons.1 (List.mem_of_mem_take he) with rfl | he
    · exact hl
    · exact hm e he
  · rw [hlen]
    exact (H5.swap.oJ.I7.F7 (uX (fun I a b => PX hs hh hE a b) _)).swap
end
def yH (E : List (List Int)) (place : Nat) (way : Int) (l : List Int) : Int × List (List Int) × Nat :=
  if way < 0 ∨ 2 < way then (1, E, place)
  else if 1024 < l.length then (3, E, place)
  else if way ≠ 0 ∧ 0 < E.length then
    if 1024 < l.length + (E.getD 0 []).length then (3, E, place)
    else (0, (if way = 1 then E.getD 0 [] ++ l else l ++ E.getD 0 []) :: E.tail, 0)
  else if way = 0 ∧ l.length = 0 then (0, E, place)
  else (0, (l :: E).take 60, 0)
theorem Fe {I : Hp} {s : List Value} {h : Nat} {l : List Int} {v : Value} {E : List (List Int)} (hs : s.length = 60) (hh : h < 60) (hE : E.length ≤ 60) (h0 : 0 < E.length) (hS : Ns I s h E) (hv : BP I .i32 v l) :
    Ns I (s.set h v) h (l :: E.tail) := by
  intro i hi
  have hi' : i < E.length := by simp at hi; omega
  cases i with
  | zero =>
    have e : (h + 0) % 60 = h := by omega
    rw [e, List.getD_eq_getElem?_getD, List.getElem?_set_self (by omega)]
    exact hv
  | succ i =>
    have hne : ¬ h = (h + (i + 1)) % 60 := by omega
    rw [List.getD_eq_getElem?_getD, List.getElem?_set_ne hne, ← List.getD_eq_getElem?_getD]
    have := hS (i + 1) hi'
    simpa [List.getD_eq_getElem?_getD] using this
section
variable {w0 w : World} {F : HP} {p place : Nat} {E : List (List Int)} {v : Value} {l : List Int} {way : Int}
theorem uP (h0 : 0 < E.length) (x : List Int) : (x :: E.tail).length = E.length := by simp; omega
theorem Jm (H : V w0 w (dL p E place • F)) (hr : kP w0 F .i32 v l) (hw : way < 0 ∨ 2 < way) :
    iU prog 58 #[.pointer (some ⟨p, 0, none⟩), .int .i64 way, v] w fun v' w' => v' = .int .i64 1 ∧ V w0 w' (dL p E place • F) := by
  obtain ⟨s, h, hs, hh, hE, hp, hm, ho, H1⟩ := H.ring
  have hb := H1.get.2
  refine FQ func58 ntmps58 ?_
  refine lZ O (aO (bM O (dZ O func94 (jX _ hb xU) ?_)))
  rintro _ _ ⟨rfl, rfl⟩
  refine iT (vO (iq (aO (bM O (aV (fJ O O) (qC O (fun h1 => ?_) (fun h1 => ?_)))))))
  · (try simp only [aH] at h1)
    refine dH (dH (pW O O (iT (EY (lF O (aK (fB results58 O ?_)))))))
    exact ⟨O, H⟩
  · (try simp only [aH] at h1)
    refine bU (cZ O (bU (aV (fZ O O) (lV O O (iT (wcA O (fun h2 => ?_)))))))
    (try simp only [aH] at h2)
    refine lF O (aK (fB results58 O ?_))
    exact ⟨O, H⟩
theorem G9 (H : V w0 w (dL p E place • F)) (hr : kP w0 F .i32 v l) (hw : 0 ≤ way ∧ way ≤ 2) (hl : 1024 < l.length) :
    iU prog 58 #[.pointer (some ⟨p, 0, none⟩), .int .i64 way, v] w fun v' w' => v' = .int .i64 3 ∧ V w0 w' (dL p E place • F) := by
  obtain ⟨s, h, hs, hh, hE, hp, hm, ho, H1⟩ := H.ring
  have hb := H1.get.2
  obtain ⟨a, c, rfl, _, _, _⟩ := (hr w H.right).open
  refine FQ func58 ntmps58 ?_
  refine lZ O (aO (bM O (dZ O func94 (jX _ hb xU) ?_)))
  rintro _ _ ⟨rfl, rfl⟩
  refine iT (vO (iq (aO (bM O (aV (fJ O O) (Um O (fun h1 => ?_)))))))
  (try simp only [aH] at h1)
  refine bU (cZ O (bU (aV (fZ O O) (lV O O (iT (O7 O (fun h2 => ?_)))))))
  (try simp only [aH] at h2)
  refine iq (bM O (aV (dO O O) (qC O (fun h3 => ?_) (fun h3 => ?_))))
  · (try simp only [aH] at h3)
    refine bU (cZ O (bU (dM O (bU (bf 62 bQ O aj O (bU (dQ ay O hb (nD hs) (bU (aV (fZ O O) (pW O O (tJ O (bn (bM O (aV (jy aG O) (aV (fZ O O) (xsA O (fun h4 => ?_)))))))))))))))))
    (try simp only [aH] at h4)
    refine dH (dH (sG (sG (sG (sG (sG (sG (sG (dH (pW O O (gY O (EY (lF O (bD (aK (fB results58 O ?_))))))))))))))))
    exact ⟨O, H⟩
  · (try simp only [aH] at h3)
    refine dH (dH (dH (dH (dH (lV O O (tJ O (bn (bM O (aV (jy aG O) (aV (fZ O O) (xsA O (fun h5 => ?_))))))))))))
    (try simp only [aH] at h5)
    refine dH (dH (sG (sG (sG (sG (sG (sG (sG (dH (pW O O (gY O (EY (lF O (bD (aK (fB results58 O ?_))))))))))))))))
    exact ⟨O, H⟩
theorem DX (H : V w0 w (dL p E place • F)) (hr : kP w0 F .i32 v l) (hl : l.length = 0) :
    iU prog 58 #[.pointer (some ⟨p, 0, none⟩), .int .i64 0, v] w fun v' w' => v' = .int .i64 0 ∧ V w0 w' (dL p E place • F) := by
  obtain ⟨s, h, hs, hh, hE, hp, hm, ho, H1⟩ := H.ring
  have hb := H1.get.2
  obtain ⟨a, c, rfl, _, _, _⟩ := (hr w H.right).open
  refine FQ func58 ntmps58 ?_
  refine lZ O (aO (bM O (dZ O func94 (jX _ hb xU) ?_)))
  rintro _ _ ⟨rfl, rfl⟩
  refine iT (vO (iq (aO (bM O (aV (fJ O O) (Um O (fun h1 => ?_)))))))
  (try simp only [aH] at h1)
  refine bU (cZ O (bU (aV (fZ O O) (lV O O (iT (O7 O (fun h2 => ?_)))))))
  (try simp only [aH] at h2)
  refine iq (bM O (aV (dO O O) (Um O (fun h3 => ?_))))
  (try simp only [aH] at h3)
  refine dH (dH (dH (dH (dH (lV O O (tJ O (bn (bM O (aV (jy aG O) (aV (fZ O O) (Um O (fun h4 => ?_))))))))))))
  (try simp only [aH] at h4)
  refine bU (cZ O (bU (cZ O (dH (dH (dH (dH (dH (dH (dH (bU (lV O O (lV O O (gY O (vO (bM O (aV (ig O O) (xsA O (fun h5 => ?_)))))))))))))))))))
  (try simp only [aH] at h5)
  refine bU (cZ O (bU (aV (jy aG O) (bU (aV (ig O O) (pW O O (gY O (wcA O (fun h6 => ?_)))))))))
  (try simp only [aH] at h6)
  refine lF O (bD (aK (fB results58 O ?_)))
  exact ⟨O, H⟩
theorem Jo (H : V w0 w (dL p E place • F)) (hr : kP w0 F .i32 v l) (hw : 0 ≤ way ∧ way ≤ 2) (hl : l.length ≤ 1024) (hj : way = 0 ∨ E.length = 0) (hn : ¬ (way = 0 ∧ l.length = 0)) :
  iU prog 58 #[.pointer (some ⟨p, 0, none⟩), .int .i64 way, v] w fun v' w' => v' = .int .i64 0 ∧ V w0 w' (dL p ((l :: E).take 60) 0 • F) := by
 obtain ⟨s, h, hs, hh, hE, hp, hm, ho, H1⟩ := H.ring
 have hb := H1.get.2
 obtain ⟨a, c, hv, _, _, _⟩ := (hr w H.right).open
 subst hv
 refine FQ func58 ntmps58 ?_
 refine lZ O (aO (bM O (dZ O func94 (jX _ hb xU) ?_)))
 rintro _ _ ⟨rfl, rfl⟩
 refine iT (vO (iq (aO (bM O (aV (fJ O O) (Um O (fun h1 => ?_)))))))
 (try simp only [aH] at h1)
 refine bU (cZ O (bU (aV (fZ O O) (lV O O (iT (O7 O (fun h2 => ?_)))))))
 (try simp only [aH] at h2)
 refine iq (bM O (aV (dO O O) (qC O (fun h3 => ?_) (fun h3 => ?_))))
 ·(try simp only [aH] at h3)
  refine bU (cZ O (bU (dM O (bU (bf 62 bQ O aj O (bU (dQ ay O hb (nD hs) (bU ?_))))))))
  refine aV (JG (fZ O O) (by first | (rw [decide_eq_true_eq]; omega) | (rw [decide_eq_false_iff_not]; omega) | (rw [beq_iff_eq]; omega) | (rw [beq_eq_false_iff_ne]; omega) | (rw [bne_iff_ne]; omega) | (rw [bne_eq_false_iff_eq]; omega) | (simp; done) | (simp; omega))) ?_
  refine pW O O (tJ O (bn (bM O (aV (jy aG O) (aV (fZ O O) (Um O (fun h4 => ?_)))))))
  (try simp only [aH] at h4)
  refine bU (cZ O (bU (cZ O (dH (dH (dH (dH (dH (dH (dH (bU (lV O O (lV O O (gY O (vO (bM O (aV (ig O O) (qC O (fun h5 => ?_) (fun h5 => ?_)))))))))))))))))))
  ·(try simp only [aH] at h5)
   exfalso; first | contradiction | omega
  ·(try simp only [aH] at h5)
   refine dH (dH (dH (lV O O (gY O (vO (bM O (aV (oO O) (gY O (bI O (fun h9 => ?_) (fun h9 => ?_))))))))))
   ·(try simp only [aH] at h9)
    refine aC (mQ O O (dZ O func100 (Cc H hr hl) ?_))
    rintro _ MK H7
    obtain ⟨s2, h2, hs2, hh2, hE2, hp2, hm2, ho2, H2⟩ := H7.ring
    refine bY (aN (bg (bM O (dM O (bf 63 bQ O aj O (aI (jk H2 aj O O O (by rw [mO hs2]; decide)) ?_))))))
    rintro _ SX H8
    rw [show (Value.int .i64 0) = .int .i64 ((0 : Nat) : Int) from rfl, oD hs2] at H8
    refine iT (lF O (fB results58 O ?_))
    exact ⟨O, V.wH hs2 hh2 hE2 hp2 hm2 ho2 H8⟩
   ·(try simp only [aH] at h9)
    exfalso; first | contradiction | omega
 ·(try simp only [aH] at h3)
  refine dH (dH (dH (dH (dH (lV O O (tJ O (bn (bM O (aV (jy aG O) (aV (fZ O O) (Um O (fun h11 => ?_))))))))))))
  (try simp only [aH] at h11)
  refine bU (cZ O (bU (cZ O (dH (dH (dH (dH (dH (dH (dH (bU (lV O O (lV O O (gY O (vO (bM O (aV (ig O O) (qC O (fun h12 => ?_) (fun h12 => ?_)))))))))))))))))))
  ·(try simp only [aH] at h12)
   refine bU (cZ O (bU (aV (jy aG O) (bU (aV (ig O O) (pW O O (gY O (O7 O (fun h13 => ?_)))))))))
   (try simp only [aH] at h13)
   refine bM O (aV (oO O) (gY O (bI O (fun h14 => ?_) (fun h14 => ?_))))
   ·(try simp only [aH] at h14)
    refine aC (mQ O O (dZ O func100 (Cc H hr hl) ?_))
    rintro _ w26 H7
    obtain ⟨s2, h2, hs2, hh2, hE2, hp2, hm2, ho2, H2⟩ := H7.ring
    refine bY (aN (bg (bM O (dM O (bf 63 bQ O aj O (aI (jk H2 aj O O O (by rw [mO hs2]; decide)) ?_))))))
    rintro _ w27 H8
    rw [show (Value.int .i64 0) = .int .i64 ((0 : Nat) : Int) from rfl, oD hs2] at H8
    refine iT (lF O (fB results58 O ?_))
    exact ⟨O, V.wH hs2 hh2 hE2 hp2 hm2 ho2 H8⟩
   ·(try simp only [aH] at h14)
    exfalso; first | contradiction | omega
  ·(try simp only [aH] at h12)
   exfalso; first | contradiction | omega
theorem Jp (H : V w0 w (dL p E place • F)) (hr : kP w0 F .i32 v l) (hw : 0 < way ∧ way ≤ 2) (hl : l.length ≤ 1024) (hE0 : 0 < E.length) (hj : 1024 < l.length + (E.getD 0 []).length) :
    iU prog 58 #[.pointer (some ⟨p, 0, none⟩), .int .i64 way, v] w fun v' w' => v' = .int .i64 3 ∧ V w0 w' (dL p E place • F) := by
  obtain ⟨s, h, hs, hh, hE, hp, hm, ho, H1⟩ := H.ring
  have hb := H1.get.2
  obtain ⟨a, c, hv, _, _, _⟩ := (hr w H.right).open
  subst hv
  have hm0 : (E.getD 0 []).length ≤ 1024 := hm _ (by rw [List.getD_eq_getElem?_getD, List.getElem?_eq_getElem hE0]; simp)
  refine FQ func58 ntmps58 ?_
  refine lZ O (aO (bM O (dZ O func94 (jX _ hb xU) ?_)))
  rintro _ _ ⟨rfl, rfl⟩
  refine iT (vO (iq (aO (bM O (aV (fJ O O) (Um O (fun h1 => ?_)))))))
  (try simp only [aH] at h1)
  refine bU (cZ O (bU (aV (fZ O O) (lV O O (iT (O7 O (fun h2 => ?_)))))))
  (try simp only [aH] at h2)
  refine iq (bM O (aV (dO O O) (xsA O (fun h3 => ?_))))
  (try simp only [aH] at h3)
  refine bU (cZ O (bU (dM O (bU (bf 62 bQ O aj O (bU (dQ ay O hb (nD hs) (bU ?_))))))))
  refine aV (wL (fZ O O) (by first | (rw [decide_eq_true_eq]; omega) | (rw [decide_eq_false_iff_not]; omega) | (rw [beq_iff_eq]; omega) | (rw [beq_eq_false_iff_ne]; omega) | (rw [bne_iff_ne]; omega) | (rw [bne_eq_false_iff_eq]; omega) | (simp; done) | (simp; omega))) ?_
  refine pW O O (tJ O (bn (bM O (aV (jy aG O) (aV (fZ O O) (Um O (fun h4 => ?_)))))))
  (try simp only [aH] at h4)
  refine bU (cZ O (bU (cZ O (bU (cZ O (bU (aV (jy aG O) (bU (cZ O (bU (dZ O func99 (vk (k := 0) hs hh (by omega) hb) ?_)))))))))))
  rintro _ w2 ⟨rfl, hD⟩
  obtain ⟨a0, c0, e0, _, _, _⟩ := ((H1.qW hD).right.AA (i := 0) hE0).open
  rw [e0]
  refine bU (aV (jy aG O) (bU (aV (lX O O (by omega)) (bU ?_))))
  refine aV (wL (fZ O O) (by first | (rw [decide_eq_true_eq]; omega) | (rw [decide_eq_false_iff_not]; omega) | (rw [beq_iff_eq]; omega) | (rw [beq_eq_false_iff_ne]; omega) | (rw [bne_iff_ne]; omega) | (rw [bne_eq_false_iff_eq]; omega) | (simp; done) | (simp; omega))) ?_
  refine bU (pW O O (lV O O (gY O (EY (lF O (bD (aK (fB results58 O ?_))))))))
  exact ⟨O, H.qW hD⟩
theorem He (H : V w0 w (dL p E place • F)) (hr : kP w0 F .i32 v l) (hw : 0 < way ∧ way ≤ 2) (hE0 : 0 < E.length) (hj : l.length + (E.getD 0 []).length ≤ 1024) :
    iU prog 58 #[.pointer (some ⟨p, 0, none⟩), .int .i64 way, v] w fun v' w' => v' = .int .i64 0 ∧ V w0 w' (dL p ((if way = 1 then E.getD 0 [] ++ l else l ++ E.getD 0 []) :: E.tail) 0 • F) := by
  obtain ⟨s, h, hs, hh, hE, hp, hm, ho, H⟩ := H.ring
  have hb := H.get.2
  obtain ⟨a, c, hv, _, _, _⟩ := (hr w H.right.right).open
  subst hv
  have hm0 : (E.getD 0 []).length ≤ 1024 := hm _ (by rw [List.getD_eq_getElem?_getD, List.getElem?_eq_getElem hE0]; simp)
  have ac6 := JY (h := h) (n := E.length) (p := place) hs (i := (h + 0) % 60) (by omega)
  refine FQ func58 ntmps58 ?_
  refine lZ O (aO (bM O (dZ O func94 (jX _ hb xU) ?_)))
  rintro _ _ ⟨rfl, rfl⟩
  refine iT (vO (iq (aO (bM O (aV (fJ O O) (Um O (fun h1 => ?_)))))))
  (try simp only [aH] at h1)
  refine bU (cZ O (bU (aV (fZ O O) (lV O O (iT (O7 O (fun h2 => ?_)))))))
  (try simp only [aH] at h2)
  refine iq (bM O (aV (dO O O) (xsA O (fun h3 => ?_))))
  (try simp only [aH] at h3)
  refine bU (cZ O (bU (dM O (bU (bf 62 bQ O aj O (bU (dQ ay O hb (nD hs) (bU ?_))))))))
  refine aV (wL (fZ O O) (by first | (rw [decide_eq_true_eq]; omega) | (rw [decide_eq_false_iff_not]; omega) | (rw [beq_iff_eq]; omega) | (rw [beq_eq_false_iff_ne]; omega) | (rw [bne_iff_ne]; omega) | (rw [bne_eq_false_iff_eq]; omega) | (simp; done) | (simp; omega))) ?_
  refine pW O O (tJ O (bn (bM O (aV (jy aG O) (aV (fZ O O) (Um O (fun h4 => ?_)))))))
  (try simp only [aH] at h4)
  refine bU (cZ O (bU (cZ O (bU (cZ O (bU (aV (jy aG O) (bU (cZ O (bU (dZ O func99 (vk (k := 0) hs hh (by omega) hb) ?_)))))))))))
  rintro _ w2 ⟨rfl, hD⟩
  obtain ⟨a0, c0, e0, _, _, _⟩ := ((H.qW hD).right.AA (i := 0) hE0).open
  rw [e0]
  have sV := H.qW hD
  refine bU (aV (jy aG O) (bU (aV (lX O O (by omega)) (bU ?_))))
  refine aV (JG (fZ O O) (by first | (rw [decide_eq_true_eq]; omega) | (rw [decide_eq_false_iff_not]; omega) | (rw [beq_iff_eq]; omega) | (rw [beq_eq_false_iff_ne]; omega) | (rw [bne_iff_ne]; omega) | (rw [bne_eq_false_iff_eq]; omega) | (simp; done) | (simp; omega))) ?_
  refine bU (pW O O (lV O O (gY O (vO (bM O (aV (ig O O) (Um O (fun h5 => ?_))))))))
  (try simp only [aH] at h5)
  refine dH (dH (dH (lV O O (gY O (vO (bM O (aV (oO O) (gY O (O7 O (fun h6 => ?_))))))))))
  (try simp only [aH] at h6)
  refine bM O (aV (ig O O) (gY O (bI O (fun h7 => ?_) (fun h7 => ?_))))
  · (try simp only [aH] at h7)
    have hw1 : way = 1 := by omega
    refine oC (n := 14) [0, 1, 2, 3, 4, 5, 6, 7, 8, 9, 10, 11, 12, 13] (fun W => W.heap[p]? = some (.cells (dF s h E.length place) 155 (0, 0))) (by kernel_rfl) (by kernel_rfl) O ?_
    have hS0 : (fun W => W.heap[p]? = some (.cells (dF s h E.length place) 155 (0, 0))) (w2.drew) := sV.get.2
    have Nu := sV.drew
    refine jc 0 O hS0 O (jc 1 O hS0 O (kN 2 O hS0 O (fV 3 O hS0 61 bQ O aj O (jq 4 O hS0 (fun W hW => jV ay O hW (yG hs)) (jc 5 O hS0 O (jc 7 O hS0 O (kN 10 O hS0 O (fV 11 O hS0 1 bQ O sizeOf153 O (mP 6 O (wu O func99 (vk (k := 0) hs hh (by omega) Nu.get.2)) ?_)))))))))
    rintro _ w3 ⟨rfl, hD2⟩
    have BD := Nu.qW hD2
    have hS3 : (fun W => W.heap[p]? = some (.cells (dF s h E.length place) 155 (0, 0))) w3 := BD.get.2
    refine DI hS3 ?_
    refine mP 8 O (QL (vs := [s.getD ((h + 0) % 60) undef, .slice a l.length c]) BD fC dD zeroValue34 O O O (by decide) (by rw [e0]; simp [Value.oneCell'])) ?_
    rintro _ w4 ⟨b2, rfl, H4⟩
    have hS4 : (fun W => W.heap[p]? = some (.cells (dF s h E.length place) 155 (0, 0))) w4 := H4.swap.get.2
    refine DI hS4 ?_
    refine mP 9 O (wu O func101 (Aw H4 (fun W HW => HW.right.right.AA (i := 0) hE0) hr.under.under.under (by omega))) ?_
    rintro u w5 H5
    have sW := H5.I7
    have hS5 : (fun W => W.heap[p]? = some (.cells (dF s h E.length place) 155 (0, 0))) w5 := sW.get.2
    refine DI hS5 ?_
    refine jW 12 O hS5 (fun _ => sD underlying153 dD O O (by omega)) ?_
    refine eF 13 O (by kernel_rfl) (jk sW dD O O H5.aP.one (by rw [mO hs]; omega)) ?_
    rintro _ w6 Gi
    rw [show (1 + ((h : Int)).toNat * 1) = 1 + h from by omega, xW hs hh] at Gi
    have hs' : (s.set h u).length = 60 := by simp [hs]
    have ho' := Lj ho (u := u) (i := h) H5.aP.one
    refine Gy (by kernel_rfl) ?_
    refine qp (aN (bg (bM O (dM O (bf 63 bQ O aj O (aI (jk Gi aj O O O (by rw [mO hs']; decide)) ?_))))))
    rintro _ w7 xu
    rw [show (Value.int .i64 0) = .int .i64 ((0 : Nat) : Int) from rfl, oD hs'] at xu
    have JW := xu.swap.oJ
    refine iT (lF O (fB results58 O ?_))
    refine ⟨O, V.wH hs' hh (by rw [uP hE0]; omega) (.inr O) ?_ ho' ?_⟩
    · intro e he
      rcases List.mem_cons.1 he with rfl | he
      · first | (rw [if_pos hw1, List.length_append]; omega) | (rw [if_neg (by omega), List.length_append]; omega)
      · exact hm e (List.mem_of_mem_tail he)
    · rw [uP hE0]
      first | rw [if_pos hw1] | rw [if_neg (by omega)]
      exact (JW.r4.swap.F7 (uX (fun I a b => Fe hs hh hE hE0 b a) _)).I7.right.swap
  · (try simp only [aH] at h7)
    have hw2 : way = 2 := by omega
    refine oC (n := 14) [0, 1, 2, 3, 4, 5, 6, 7, 8, 9, 10, 11, 12, 13] (fun W => W.heap[p]? = some (.cells (dF s h E.length place) 155 (0, 0))) (by kernel_rfl) (by kernel_rfl) O ?_
    have hS0 : (fun W => W.heap[p]? = some (.cells (dF s h E.length place) 155 (0, 0))) (w2.drew) := sV.get.2
    have H6d := sV.drew
    refine jc 0 O hS0 O (jc 1 O hS0 O (kN 2 O hS0 O (fV 3 O hS0 61 bQ O aj O (jq 4 O hS0 (fun W hW => jV ay O hW (yG hs)) (jc 5 O hS0 O (jc 6 O hS0 O (kN 10 O hS0 O (fV 11 O hS0 1 bQ O sizeOf153 O (mP 7 O (wu O func99 (vk (k := 0) hs hh (by omega) H6d.get.2)) ?_)))))))))
    rintro _ w8 ⟨rfl, hD2⟩
    have BD := H6d.qW hD2
    have hS8 : (fun W => W.heap[p]? = some (.cells (dF s h E.length place) 155 (0, 0))) w8 := BD.get.2
    refine DI hS8 ?_
    refine mP 8 O (QL (vs := [.slice a l.length c, s.getD ((h + 0) % 60) undef]) BD fC dD zeroValue34 O O O (by decide) (by rw [e0]; simp [Value.oneCell'])) ?_
    rintro _ w9 ⟨b2, rfl, H9⟩
    have hS9 : (fun W => W.heap[p]? = some (.cells (dF s h E.length place) 155 (0, 0))) w9 := H9.swap.get.2
    refine DI hS9 ?_
    refine mP 9 O (wu O func101 (Aw H9 hr.under.under.under (fun W HW => HW.right.right.AA (i := 0) hE0) (by omega))) ?_
    rintro u w10 sV
    have sW := sV.I7
    have aaI : (fun W => W.heap[p]? = some (.cells (dF s h E.length place) 155 (0, 0))) w10 := sW.get.2
    refine DI aaI ?_
    refine jW 12 O aaI (fun _ => sD underlying153 dD O O (by omega)) ?_
    refine eF 13 O (by kernel_rfl) (jk sW dD O O sV.aP.one (by rw [mO hs]; omega)) ?_
    rintro _ I9 Gi
    rw [show (1 + ((h : Int)).toNat * 1) = 1 + h from by omega, xW hs hh] at Gi
    have hs' : (s.set h u).length = 60 := by simp [hs]
    have ho' := Lj ho (u := u) (i := h) sV.aP.one
    refine Gy (by kernel_rfl) ?_
    refine qp (aN (bg (bM O (dM O (bf 63 bQ O aj O (aI (jk Gi aj O O O (by rw [mO hs']; decide)) ?_))))))
    rintro _ w12 xu
    rw [show (Value.int .i64 0) = .int .i64 ((0 : Nat) : Int) from rfl, oD hs'] at xu
    have JW := xu.swap.oJ
    refine iT (lF O (fB results58 O ?_))
    refine ⟨O, V.wH hs' hh (by rw [uP hE0]; omega) (.inr O) ?_ ho' ?_⟩
    · intro e he
      rcases List.mem_cons.1 he with rfl | he
      · first | (rw [if_pos hw1, List.length_append]; omega) | (rw [if_neg (by omega), List.length_append]; omega)
      · exact hm e (List.mem_of_mem_tail he)
    · rw [uP hE0]
      first | rw [if_pos hw1] | rw [if_neg (by omega)]
      exact (JW.r4.swap.F7 (uX (fun I a b => Fe hs hh hE hE0 b a) _)).I7.right.swap
end
def yI (m place : Nat) (n : Int) : Nat := (((place : Int) + n) % (m : Int)).toNat
theorem XL {m place : Nat} {n : Int} (h : 0 < m) : yI m place n < m := by
  unfold yI
  have h1 := Int.emod_nonneg ((place : Int) + n) (show (m : Int) ≠ 0 by omega)
  have h2 := Int.emod_lt_of_pos ((place : Int) + n) (show (0 : Int) < m by omega)
  omega
theorem Ll (a : Int) {m : Int} (h : 0 < m) : -m < a.tmod m ∧ a.tmod m < m := by
  have h2 := Int.tmod_lt_of_pos a h
  have h3 := Int.tmod_lt_of_pos (-a) h
  rw [Int.neg_tmod] at h3
  omega
theorem JZ (a m : Int) : a.tmod m % m = a % m := by
  rw [Int.tmod_def]
  exact Int.sub_mul_emod_self_left a m (a.tdiv m)
theorem Zj (m place : Nat) (n : Int) (h : 0 < m) : (((place : Int) + n.tmod m).tmod m + m).tmod m = (yI m place n : Int) := by
  have h1 := Ll ((place : Int) + n.tmod m) (show (0 : Int) < m by omega)
  have h2 := Int.emod_nonneg ((place : Int) + n) (show (m : Int) ≠ 0 by omega)
  unfold yI
  rw [Int.toNat_of_nonneg h2, Int.tmod_eq_emod_of_nonneg (by omega), Int.add_emod_right, JZ, Int.add_emod, JZ, ← Int.add_emod]
section
variable {w0 w : World} {F : HP} {p place : Nat} {E : List (List Int)} {v : Value} {l : List Int} {way : Int}
theorem Jq (H : V w0 w (dL p E place • F)) (hr : kP w0 F .i32 v l) :
    iU prog 58 #[.pointer (some ⟨p, 0, none⟩), .int .i64 way, v] w fun v' w' => v' = .int .i64 (yH E place way l).1 ∧ V w0 w' (dL p (yH E place way l).2.1 (yH E place way l).2.2 • F) := by
  unfold yH
  by_cases h1 : way < 0 ∨ 2 < way
  · simp only [h1, if_true]; exact Jm H hr h1
  · simp only [h1, if_false]
    by_cases h2 : 1024 < l.length
    · simp only [h2, if_true]; exact G9 H hr (by omega) h2
    · simp only [h2, if_false]
      by_cases h3 : way ≠ 0 ∧ 0 < E.length
      · rw [if_pos h3]
        by_cases h4 : 1024 < l.length + (E.getD 0 []).length
        · rw [if_pos h4]; exact Jp H hr (by omega) (by omega) h3.2 h4
        · rw [if_neg h4]; exact He H hr (by omega) h3.2 (by omega)
      · rw [if_neg h3]
        by_cases h5 : way = 0 ∧ l.length = 0
        · rw [if_pos h5]; obtain ⟨rfl, h6⟩ := h5; exact DX H hr h6
        · rw [if_neg h5]; exact Jo H hr (by omega) (by omega) (by omega) h5
theorem yJ {n : Int} (H : V w0 w (dL p [] place • F)) :
    iU prog 62 #[.pointer (some ⟨p, 0, none⟩), .int .i64 n] w fun v' w' => v' = .tuple #[.slice none 0 0, .int .i64 6] ∧ V w0 w' (dL p [] place • F) := by
  obtain ⟨s, h, hs, hh, hE, hp, hm, ho, H1⟩ := H.ring
  have hb := H1.get.2
  refine oP func62 ntmps62 ?_
  refine jg (lU O (tJ O (bn (bM O (dZ O func94 (jX _ hb xU) ?_)))))
  rintro _ _ ⟨rfl, rfl⟩
  refine gY O (vO (bM O (dM O (bf 62 bQ O aj O (dQ ay O hb (nD hs) (aV (ig O O) (gY O (wcA O (fun h1 => ?_)))))))))
  (try simp only [aH] at h1)
  refine jg (lU O (iW O (bD (aK (DL results62 O O ?_)))))
  exact ⟨O, H⟩
theorem zT {n : Int} (H : V w0 w (dL p E place • F)) (h0 : 0 < E.length) :
  iU prog 62 #[.pointer (some ⟨p, 0, none⟩), .int .i64 n] w fun v' w' => ∃ u, v' = .tuple #[u, .int .i64 0] ∧
   V w0 w' (jR 21 .i32 u (E.getD (yI E.length place n) []) • dL p E (yI E.length place n) • F) := by
 obtain ⟨s, h, hs, hh, hE, hp, hm, ho, H⟩ := H.ring
 have hb := H.get.2
 have hlt := XL (place := place) (n := n) h0
 have abL := Zj E.length place n h0
 have hb1 := Ll n (show (0 : Int) < E.length by omega)
 have hb2 := Ll ((place : Int) + n.tmod E.length) (show (0 : Int) < E.length by omega)
 refine oP func62 ntmps62 ?_
 refine jg (lU O (tJ O (bn (bM O (dZ O func94 (jX _ hb xU) ?_)))))
 rintro _ _ ⟨rfl, rfl⟩
 refine gY O (vO (bM O (dM O (bf 62 bQ O aj O (dQ ay O hb (nD hs) (aV (ig O O) (gY O (O7 O (fun h1 => ?_)))))))))
 (try simp only [aH] at h1)
 refine fU (aN (bg (aO ?_)))
 refine oC (n := 30) [0, 1, 2, 3, 4, 5, 6, 7, 8, 9, 10, 11, 12, 13, 14, 15, 16, 17, 18, 19, 20, 21, 22, 23, 24, 25, 26, 27, 28, 29] (fun W => W.heap = w.heap) (by kernel_rfl) (by kernel_rfl) O ?_
 have hS0 : (fun W => W.heap = w.heap) (w.drew) := rfl
 have H5d := H.drew
 refine jc 0 O hS0 O (jc 1 O hS0 O (kN 2 O hS0 O (fV 3 O hS0 63 bQ O aj O ?_)))
 refine jq 4 O hS0 (fun W hW => jV ay O (by rw [hW]; exact hb) (G6 hs)) ?_
 refine jc 5 O hS0 O (jc 6 O hS0 O (kN 7 O hS0 O (fV 8 O hS0 62 bQ O aj O ?_)))
 refine jq 9 O hS0 (fun W hW => jV ay O (by rw [hW]; exact hb) (nD hs)) ?_
 refine jW 10 O hS0 (fun _ => Pj O O (by omega)) (jW 11 O hS0 (fun _ => gX O O (by omega)) (jc 12 O hS0 O (kN 13 O hS0 O (fV 14 O hS0 62 bQ O aj O ?_))))
 refine jq 15 O hS0 (fun W hW => jV ay O (by rw [hW]; exact hb) (nD hs)) ?_
 refine jW 16 O hS0 (fun _ => Pj O O (by omega)) (jc 17 O hS0 O (kN 18 O hS0 O (fV 19 O hS0 62 bQ O aj O ?_)))
 refine jq 20 O hS0 (fun W hW => jV ay O (by rw [hW]; exact hb) (nD hs)) ?_
 refine jW 21 O hS0 (fun _ => gX O O (by omega)) (jc 22 O hS0 O (kN 23 O hS0 O (fV 24 O hS0 62 bQ O aj O ?_)))
 refine jq 25 O hS0 (fun W hW => jV ay O (by rw [hW]; exact hb) (nD hs)) ?_
 refine jW 26 O hS0 (fun _ => Pj O O (by omega)) (kN 27 O hS0 O (fV 28 O hS0 63 bQ O aj O ?_))
 refine eF 29 O (by kernel_rfl) (jk H5d aj O O O (by rw [mO hs]; decide)) ?_
 rintro _ w2 H2
 rw [abL, oD hs] at H2
 refine Gy (by kernel_rfl) ?_
 refine qp (bg (bM O (ny O O (bf 63 bQ O aj O (dQ ay O H2.get.2 (G6 hs) (dZ O func99 (vk hs hh (by omega) H2.get.2) ?_))))))
 rintro _ w3 ⟨rfl, hD2⟩
 have H3 := H2.qW hD2
 refine Ph (tq (tu O func93 O O) (sK H3 (fun W HW => HW.right.AA (i := yI E.length place n) hlt) (by have := hm (E.getD (yI E.length place n) []) (by rw [List.getD_eq_getElem?_getD, List.getElem?_eq_getElem hlt]; simp); omega))) (jY O) ?_
 rintro u w4 H4
 refine lU O (iW O (DL results62 O O ?_))
 exact ⟨u, O, (V.wH hs hh hE (.inl hlt) hm ho H4.d3).swap⟩
theorem Hf (H : V w0 w (dL p [] place • F)) :
    iU prog 60 #[.pointer (some ⟨p, 0, none⟩)] w fun v' w' => v' = .tuple #[.slice none 0 0, .int .i64 6] ∧ V w0 w' (dL p [] place • F) := by
  refine ji func60 ntmps60 ?_
  refine jg (lU O (gY O (bM O (dZ O func62 (yJ H) ?_))))
  rintro _ w1 ⟨rfl, H1⟩
  refine rO O O (rO O O (lU O (iW O (DL results60 O O ?_))))
  exact ⟨O, H1⟩
theorem Td {m place : Nat} (h : place < m) : yI m place 0 = place := by
  unfold yI
  rw [Int.add_zero, Int.emod_eq_of_lt (by omega) (by omega)]
  omega
theorem Jr (H : V w0 w (dL p E place • F)) (h0 : 0 < E.length) :
    iU prog 60 #[.pointer (some ⟨p, 0, none⟩)] w fun v' w' => ∃ u, v' = .tuple #[u, .int .i64 0] ∧
      V w0 w' (jR 21 .i32 u (E.getD place []) • dL p E place • F) := by
  obtain ⟨s, h, hs, hh, hE, hp, hm, ho, H1⟩ := H.ring
  have hpl : yI E.length place 0 = place := Td (by omega)
  refine ji func60 ntmps60 ?_
  refine jg (lU O (gY O (bM O (dZ O func62 (zT H h0) ?_))))
  rintro _ w1 ⟨u, rfl, H1⟩
  refine rO O O (rO O O (lU O (iW O (DL results60 O O ?_))))
  rw [hpl] at H1; exact ⟨u, rfl, H1⟩
theorem V.Tf {s : List Value} {h : Nat} (H : V w0 w (zh s h E • F)) : V w0 w (zh s h E • zh s h E • F) := H.Gq
theorem Ti {s : List Value} {h n p : Nat} (ho : ∀ v ∈ s, v.oneCell' = true) : ∀ v ∈ (dF s h n p).toList, v.oneCell' = true := by
  intro v hv
  simp [dF] at hv
  rcases hv with rfl | hv | rfl | rfl | rfl <;> first | rfl | exact ho v hv
theorem wZ (H : V w0 w (dL p E place • F)) :
    iU prog 52 #[.pointer (some ⟨p, 0, none⟩)] w fun v' w' => ∃ q, v' = .pointer (some ⟨q, 0, none⟩) ∧ V w0 w' (dL q E place • dL p E place • F) := by
  obtain ⟨s, h, hs, hh, hE, hp, hm, ho, H⟩ := H.ring
  have hb := H.get.2
  refine ji func52 ntmps52 ?_
  refine lZ O (aO (bM O (dZ O func94 (jX _ hb xU) ?_)))
  rintro _ _ ⟨rfl, rfl⟩
  refine iT (vO (iq (bM O (dM O (aV (dG bQ O sizeOf155 (mO hs) O hb) (jL (y5 H zeroValue155) ?_))))))
  rintro _ w2 ⟨b2, rfl, H2⟩
  refine aI (gq H2 sizeOf155 (mO hs) O O O (Ti ho)) ?_
  rintro _ w3 H3
  refine iT (lF O (fB results52 O ?_))
  exact ⟨_, O, V.wH hs hh hE hp hm ho (V.wH hs hh hE hp hm ho (H3.I7.Tf.r4)).swap.I7⟩
end
section
variable {w0 w : World} {F : HP} {p place : Nat} {E : List (List Int)}
theorem Df (H : V w0 w (dL p E place • F)) : E.length ≤ 60 ∧ (place < E.length ∨ place = 0) ∧ ∀ e ∈ E, e.length ≤ 1024 := by
  obtain ⟨s, h, hs, hh, hE, hpl, hE2, hs1, H1⟩ := H.ring
  exact ⟨hE, hpl, hE2⟩
theorem Js (H : V w0 w (dL p E place • F)) : iU prog 60 #[.pointer (some ⟨p, 0, none⟩)] w fun v w' => ∃ u, v = .tuple #[u, .int .i64 (if E.length = 0 then 6 else 0)] ∧ V w0 w' (jR 21 .i32 u (E.getD place []) • dL p E place • F) := by
  by_cases h0 : E.length = 0
  · obtain rfl := List.eq_nil_of_length_eq_zero h0
    exact (Hf H).mono fun v w' h => ⟨_, h.1, h.2.jH none⟩
  · rw [if_neg h0]
    exact (Jr H (by omega)).mono fun v w' h => h
theorem zU {n : Int} (H : V w0 w (dL p E place • F)) : iU prog 62 #[.pointer (some ⟨p, 0, none⟩), .int .i64 n] w fun v w' => ∃ u, v = .tuple #[u, .int .i64 (if E.length = 0 then 6 else 0)] ∧
    V w0 w' (jR 21 .i32 u (if E.length = 0 then [] else E.getD (yI E.length place n) []) • dL p E (if E.length = 0 then place else yI E.length place n) • F) := by
  by_cases h0 : E.length = 0
  · obtain rfl := List.eq_nil_of_length_eq_zero h0
    simp only [List.length_nil, if_true]
    exact (yJ H).mono fun v w' h => ⟨_, h.1, h.2.jH none⟩
  · simp only [if_neg h0]
    exact (zT H (by omega)).mono fun v w' h => h
end
end Go.Proofs.YtimndnfpcomhlaaGreatDoor
end
section
namespace Go.Proofs.YtimndnfpcomhlaaGreatDoor
open Go.RowKit
def zV (I : Hp) (k : IntKind) (vs : List Value) (ls : List (List Int)) : Prop := vs.length = ls.length ∧ ∀ j, j < ls.length → BP I k (vs.getD j undef) (ls.getD j [])
def aaJ (k : IntKind) (vs : List Value) (ls : List (List Int)) : HP := know (fun I => zV I k vs ls) fun _ _ hl h => ⟨h.1, fun j hj => (h.2 j hj).mono hl⟩
def LL (e : TypeId) (k : IntKind) (v : Value) (ls : List (List Int)) : HP := wR fun vs => Row e 1 v ls.length vs • aaJ k vs ls
theorem uQ {α : Type _} {l m : List α} {j : Nat} {d : α} (h : j < l.length) : (l ++ m).getD j d = l.getD j d := by simp [List.getD_eq_getElem?_getD, List.getElem?_append_left h]
theorem tX {α : Type _} {l m : List α} {j : Nat} {d : α} (h : l.length ≤ j) : (l ++ m).getD j d = m.getD (j - l.length) d := by simp [List.getD_eq_getElem?_getD, List.getElem?_append_right h]
theorem J3 {α : Type _} {l : List α} {i j : Nat} {d : α} : (l.drop i).getD j d = l.getD (i + j) d := by simp [List.getD_eq_getElem?_getD]
theorem EI {α : Type _} {l : List α} {i j : Nat} {d : α} (h : j < i) : (l.take i).getD j d = l.getD j d := by simp [List.getD_eq_getElem?_getD, List.getElem?_take, h]
theorem yK {α : Type _} {l : List α} {j : Nat} {d : α} (h : j < l.length) : l.getD j d ∈ l := by rw [List.getD_eq_getElem?_getD, List.getElem?_eq_getElem h]; exact List.getElem_mem h
theorem zV.app {I : Hp} {k : IntKind} {vs us : List Value} {ls ms : List (List Int)} (h : zV I k vs ls) (g : zV I k us ms) : zV I k (vs ++ us) (ls ++ ms) := by
  refine ⟨by simp [h.1, g.1], fun j hj => ?_⟩
  by_cases hl : j < ls.length
  · rw [uQ (by rw [h.1]; exact hl), uQ hl]; exact h.2 j hl
  · have hj' : j - ls.length < ms.length := by simp at hj; omega
    rw [tX (by rw [h.1]; omega), tX (by omega), h.1]; exact g.2 _ hj'
theorem zV.drop {I : Hp} {k : IntKind} {vs : List Value} {ls : List (List Int)} (h : zV I k vs ls) (i : Nat) : zV I k (vs.drop i) (ls.drop i) := by
  refine ⟨by simp [h.1], fun j hj => ?_⟩
  rw [J3, J3]
  exact h.2 _ (by simp at hj; omega)
theorem zV.take {I : Hp} {k : IntKind} {vs : List Value} {ls : List (List Int)} (h : zV I k vs ls) (i : Nat) : zV I k (vs.take i) (ls.take i) := by
  refine ⟨by simp [h.1], fun j hj => ?_⟩
  simp at hj
  rw [EI (by omega), EI (by omega)]
  exact h.2 _ (by omega)
theorem BP.one {I : Hp} {k : IntKind} {v : Value} {l : List Int} (h : BP I k v l) : zV I k [v] [l] := ⟨rfl, fun j hj => by
  obtain rfl : j = 0 := by simp at hj; omega
  exact h⟩
theorem BP.U4 {I : Hp} {k : IntKind} {v : Value} {l : List Int} (h : BP I k v l) : v.oneCell' = true := by obtain ⟨a, c, rfl, _⟩ := h; rfl
section
variable {w0 w : World} {F : HP} {e : TypeId} {k : IntKind} {v : Value} {vs us : List Value} {ls ms : List (List Int)} {l : List Int}
theorem Rd.aaK {n : Nat} {xs : List Value} (hr : Rd w 1 v n xs) {i : Nat} (h : i ≤ n) : Rd w 1 (qQ 1 0 i v) i (xs.take i) := by
  have h1 := hr.cut (Nat.zero_le i) h
  simpa using h1
end
end Go.Proofs.YtimndnfpcomhlaaGreatDoor
end
