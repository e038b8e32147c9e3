import Derived.Test.YtpdeedplgmbopaaGreatDoorZ4
import Derived.Test.YtpdeedplgmbopaaGreatDoorZ11
import Derived.Test.YtpdeedplgmbopaaGreatDoorZ9
import Derived.Test.YtpdeedplgmbopaaGreatDoorZ5
import Derived.Lib.OthersKept
import Derived.Lib.Bytealg
import Derived.Conc.AtomicLaws2
set_option linter.unusedSimpArgs false
set_option linter.unusedVariables false
/- Texts of mine, joined, their names in short: VWa VM EdA Atom. -/
section
namespace Go.Proofs.YtpdeedplgmbopaaGreatDoor
open Go.RowKit
open _root_.Go.Proofs.Tryz
theorem qG {b : Bool} {P : Prop} [Decidable P] (hb : b = true) (h : P) : Value.bool b = Value.bool (decide P) := by rw [hb, decide_eq_true h]
theorem Z7 {b : Bool} {A B : Prop} [Decidable (A ∨ B)] (h1 : ¬ A) (hb : b = true ↔ B) : Value.bool b = Value.bool (decide (A ∨ B)) := congrArg Value.bool (by rw [Bool.eq_iff_iff, decide_eq_true_iff]; exact hb.trans ⟨.inr, fun h => h.resolve_left h1⟩)
theorem WY {b : Bool} {A B C : Prop} [Decidable (A ∨ B ∨ C)] (h1 : ¬ A) (h2 : ¬ B) (hb : b = true ↔ C) : Value.bool b = Value.bool (decide (A ∨ B ∨ C)) := congrArg Value.bool (by rw [Bool.eq_iff_iff, decide_eq_true_iff]; exact hb.trans ⟨fun h => .inr (.inr h), fun h => (h.resolve_left h1).resolve_left h2⟩)
section
variable {w0 w : World} {F : HP} {v u : Value} {n : ByteArray} {keys : List Int}
theorem Dn (H : V w0 w F) (hr : jE w0 F .i32 v keys) : ig prog 16 #[.string n, v] w fun u w' => u = .int .i64 (pq n keys) ∧ V w0 w' F := by
 have SC : keys.length ≤ 9223372036854775807 := by have := (hr _ H).open; obtain ⟨a, c, e, h3, h4, _⟩ := this; omega
 refine nC func16 ntmps16 ?_
 refine jy O (aK (gW (dX O func19 (QH H) ?_)))
 rintro u1 w1 H1
 refine bG O (dX O func49 (QI (l := Mc) H1 (fun W HW => (HW).aY)) ?_)
 rintro _ w2 ⟨b2, rfl, hb2, H2⟩
 have PS := H2.right
 refine Z (mD O) (gQ O (fun h1 => ?_) (fun h1 => ?_))
 ·(try simp only [aC] at h1)
  have hkn : ¬ Bd n := fun hc => by have h9 := hb2.2 hc; rw [h1] at h9; exact absurd h9 (by decide)
  refine jB O (ay (dF results16 O ?_))
  exact ⟨by rw [Un hkn], PS⟩
 ·(try simp only [aC] at h1)
  have hkn : Bd n := hb2.1 h1
  refine fG (aK (bM O (Z (fO (hr _ (PS)) aj O) (Z (cZ O O) (gQ O (fun h2 => ?_) (fun h2 => ?_))))))
  ·(try simp only [aC] at h2)
   refine jB O (ay (dF results16 O ?_))
   exact ⟨by rw [WX hkn (by omega)], PS⟩
  ·(try simp only [aC] at h2)
   refine fG (aK ?_)
   have hk0 : ¬ keys.length = 0 := by omega
   refine aA (fV O ?_)
   refine iY [] (fun (m : Bool) => [(5, .bool m)]) (fun (m : Bool) W => (m = true ↔ zn n keys) ∧ V w0 W F) (Sub.nil _) ?_ ?_
   ·rintro m w4 ⟨hm, HM⟩
    dsimp only [List.cons_append, List.nil_append]
    refine aK (bM O (gQ O (fun h3 => ?_) (fun h3 => ?_)))
    ·(try simp only [aC] at h3)
     have hmt := hm.1 h3
     refine jB O (ay (dF results16 O ?_))
     exact ⟨by rw [OC hkn hmt], HM⟩
    ·(try simp only [aC] at h3)
     have hmt : ¬ zn n keys := fun hc => by have h9 := h3; rw [hm.2 hc] at h9; exact absurd h9 (by decide)
     refine fG (jB O (dF results16 O ?_))
     exact ⟨by rw [IG hkn hk0 hmt], HM⟩
   ·skip
    refine bM O (iy (aV (gW (Z (gY O O) (fV O (bI O (fun h4 => ?_) (fun h4 => ?_)))))))
    ·(try simp only [aC] at h4)
     have hmv : n.toList = tN.toList := h4
     refine aA (bG O (Z (fO (hr _ (PS)) aj O) (Z (cZ O O) (iZ O (fun h5 => ?_) (fun h5 => ?_)))))
     ·(try simp only [aC] at h5)
      refine bg (bG O (bg ?_))
      obtain ⟨bv, ov, cv, ev⟩ := dR.nJ (hr _ (PS)) (by omega)
      cases ev
      refine Z (dh aj bF O O (by omega)) (bg ?_)
      refine Z (dH (bT aQ O) O (by first | exact dR.jo (hr _ (PS)) (by omega) | exact dR.qB (hr _ (PS)) (by omega) | exact dR.qx (hr _ (PS)) (by omega))) ?_
      refine bg (dX O func50 (Ed (s := EW) (by decide)) ?_)
      rintro _ _ ⟨rfl, rfl⟩
      refine iM O O (dL O (bD (aG ?_)))
      refine cO (_) ji (Sub.nil _) (by (try dsimp only); exact ⟨by first | exact decide_eq_true_iff.trans ⟨fun h => (gG hmv).2 ⟨by omega, h⟩, fun h => ((gG hmv).1 h).2⟩ | exact iff_of_false (by decide) fun h => absurd ((gG hmv).1 h).1 (by omega) | exact beq_iff_eq.trans ⟨fun h => (kJ hmv hch).2 (by omega), fun h => by have := (kJ hmv hch).1 h; omega⟩ | exact iff_of_true O ((eY hmv hch hop).2 ⟨by assumption, .inl (by show (lI (List.drop (Int.toNat 1) keys)).length = 0; omega)⟩) | exact decide_eq_true_iff.trans ⟨fun h => (eY hmv hch hop).2 ⟨by assumption, .inr ⟨by show (lI (List.drop (Int.toNat 1) keys)).length = 1; omega, h⟩⟩, fun h => ((eY hmv hch hop).1 h).2.elim (fun c => absurd c (by show ¬ (lI (List.drop (Int.toNat 1) keys)).length = 0; omega)) (fun c => c.2)⟩ | exact iff_of_false (by decide) fun h => ((eY hmv hch hop).1 h).2.elim (fun c => absurd c (by show ¬ (lI (List.drop (Int.toNat 1) keys)).length = 0; omega)) (fun c => absurd c.1 (by show ¬ (lI (List.drop (Int.toNat 1) keys)).length = 1; omega)) | exact iff_of_false (by decide) fun h => absurd ((eY hmv hch hop).1 h).1 (by assumption) | exact iff_of_false (by decide) (vK hmv hch hop), PS⟩)
     ·(try simp only [aC] at h5)
      refine bn (bn (bn (bn (gI O O (dL O (bD (aG ?_)))))))
      refine cO (_) ji (Sub.nil _) (by (try dsimp only); exact ⟨by first | exact decide_eq_true_iff.trans ⟨fun h => (gG hmv).2 ⟨by omega, h⟩, fun h => ((gG hmv).1 h).2⟩ | exact iff_of_false (by decide) fun h => absurd ((gG hmv).1 h).1 (by omega) | exact beq_iff_eq.trans ⟨fun h => (kJ hmv hch).2 (by omega), fun h => by have := (kJ hmv hch).1 h; omega⟩ | exact iff_of_true O ((eY hmv hch hop).2 ⟨by assumption, .inl (by show (lI (List.drop (Int.toNat 1) keys)).length = 0; omega)⟩) | exact decide_eq_true_iff.trans ⟨fun h => (eY hmv hch hop).2 ⟨by assumption, .inr ⟨by show (lI (List.drop (Int.toNat 1) keys)).length = 1; omega, h⟩⟩, fun h => ((eY hmv hch hop).1 h).2.elim (fun c => absurd c (by show ¬ (lI (List.drop (Int.toNat 1) keys)).length = 0; omega)) (fun c => c.2)⟩ | exact iff_of_false (by decide) fun h => ((eY hmv hch hop).1 h).2.elim (fun c => absurd c (by show ¬ (lI (List.drop (Int.toNat 1) keys)).length = 0; omega)) (fun c => absurd c.1 (by show ¬ (lI (List.drop (Int.toNat 1) keys)).length = 1; omega)) | exact iff_of_false (by decide) fun h => absurd ((eY hmv hch hop).1 h).1 (by assumption) | exact iff_of_false (by decide) (vK hmv hch hop), PS⟩)
    ·(try simp only [aC] at h4)
     have hmv : ¬ n.toList = tN.toList := h4
     refine iY [(1, _), (5, _), (15, _)] (fun (_ : Unit) => [(27, .bool (decide (n.toList = Dk.toList ∨ n.toList = ET.toList)))]) (fun (_ : Unit) W => V w0 W F) qC ?_ ?_
     ·rintro _ w6 HJ
      dsimp only [List.cons_append, List.nil_append]
      refine bI O (fun h6 => ?_) (fun h6 => ?_)
      ·(try simp only [aC] at h6)
       have hch := h6
       refine aA (bG O (Z (fO (hr _ (HJ)) aj O) (Z (cZ O O) (dL O (bD (aG ?_))))))
       refine cO (_) ji (Sub.nil _) (by (try dsimp only); exact ⟨by first | exact decide_eq_true_iff.trans ⟨fun h => (gG hmv).2 ⟨by omega, h⟩, fun h => ((gG hmv).1 h).2⟩ | exact iff_of_false (by decide) fun h => absurd ((gG hmv).1 h).1 (by omega) | exact beq_iff_eq.trans ⟨fun h => (kJ hmv hch).2 (by omega), fun h => by have := (kJ hmv hch).1 h; omega⟩ | exact iff_of_true O ((eY hmv hch hop).2 ⟨by assumption, .inl (by show (lI (List.drop (Int.toNat 1) keys)).length = 0; omega)⟩) | exact decide_eq_true_iff.trans ⟨fun h => (eY hmv hch hop).2 ⟨by assumption, .inr ⟨by show (lI (List.drop (Int.toNat 1) keys)).length = 1; omega, h⟩⟩, fun h => ((eY hmv hch hop).1 h).2.elim (fun c => absurd c (by show ¬ (lI (List.drop (Int.toNat 1) keys)).length = 0; omega)) (fun c => c.2)⟩ | exact iff_of_false (by decide) fun h => ((eY hmv hch hop).1 h).2.elim (fun c => absurd c (by show ¬ (lI (List.drop (Int.toNat 1) keys)).length = 0; omega)) (fun c => absurd c.1 (by show ¬ (lI (List.drop (Int.toNat 1) keys)).length = 1; omega)) | exact iff_of_false (by decide) fun h => absurd ((eY hmv hch hop).1 h).1 (by assumption) | exact iff_of_false (by decide) (vK hmv hch hop), HJ⟩)
      ·(try simp only [aC] at h6)
       have hch := h6
       refine iY [(1, _), (5, _)] (fun (_ : Unit) => [(33, .bool (decide (n.toList = zQ.toList ∨ n.toList = Dl.toList ∨ n.toList = EU.toList)))]) (fun (_ : Unit) W => V w0 W F) mW ?_ ?_
       ·rintro _ w7 HK
        dsimp only [List.cons_append, List.nil_append]
        refine bI O (fun h7 => ?_) (fun h7 => ?_)
        ·(try simp only [aC] at h7)
         have hop := h7
         refine bM O ?_
         obtain ⟨bv, ov, cv, ev⟩ := dR.nJ (hr _ (HK)) (by omega)
         cases ev
         refine Z (dh aj bF O O (by omega)) ?_
         refine Z (dH (bT aQ O) O (by first | exact dR.jo (hr _ (HK)) (by omega) | exact dR.qB (hr _ (HK)) (by omega) | exact dR.qx (hr _ (HK)) (by omega))) ?_
         refine dX O func50 (Ed (s := aa5) (by decide)) ?_
         rintro _ _ ⟨rfl, rfl⟩
         refine gQ O (fun h8 => ?_) (fun h8 => ?_)
         ·(try simp only [aC] at h8)
          refine bM O (Z (y5 (hr _ (HK)) aj bF O O O (by omega)) ?_)
          refine dX O func51 (L9 HK (fun W HW => dR.from (hr _ (HW)) (by omega))) ?_
          rintro _ w9 ⟨kv9, rfl, Ur, H9⟩
          refine bG O (rW O O (rW O O (dL O (fV O (aA (bG O (Z (fO (Ur _ (H9)) aj O) (Z (cZ O O) (iZ O (fun h9 => ?_) (fun h9 => ?_))))))))))
          ·(try simp only [aC] at h9)
           refine bn (bn (bn (bn (mV (mV (mV (mV (bn (iM O O (dL O (bD (aG ?_))))))))))))
           refine cO (_) ji (Sub.nil _) (by (try dsimp only); exact ⟨by first | exact decide_eq_true_iff.trans ⟨fun h => (gG hmv).2 ⟨by omega, h⟩, fun h => ((gG hmv).1 h).2⟩ | exact iff_of_false (by decide) fun h => absurd ((gG hmv).1 h).1 (by omega) | exact beq_iff_eq.trans ⟨fun h => (kJ hmv hch).2 (by omega), fun h => by have := (kJ hmv hch).1 h; omega⟩ | exact iff_of_true O ((eY hmv hch hop).2 ⟨by assumption, .inl (by show (lI (List.drop (Int.toNat 1) keys)).length = 0; omega)⟩) | exact decide_eq_true_iff.trans ⟨fun h => (eY hmv hch hop).2 ⟨by assumption, .inr ⟨by show (lI (List.drop (Int.toNat 1) keys)).length = 1; omega, h⟩⟩, fun h => ((eY hmv hch hop).1 h).2.elim (fun c => absurd c (by show ¬ (lI (List.drop (Int.toNat 1) keys)).length = 0; omega)) (fun c => c.2)⟩ | exact iff_of_false (by decide) fun h => ((eY hmv hch hop).1 h).2.elim (fun c => absurd c (by show ¬ (lI (List.drop (Int.toNat 1) keys)).length = 0; omega)) (fun c => absurd c.1 (by show ¬ (lI (List.drop (Int.toNat 1) keys)).length = 1; omega)) | exact iff_of_false (by decide) fun h => absurd ((eY hmv hch hop).1 h).1 (by assumption) | exact iff_of_false (by decide) (vK hmv hch hop), H9⟩)
          ·(try simp only [aC] at h9)
           refine bg (bG O (bg (Z (fO (Ur _ (H9)) aj O) (bg (Z (cZ O O) (bg (iZ O (fun h10 => ?_) (fun h10 => ?_))))))))
           ·(try simp only [aC] at h10)
            refine bg (bG O (bg ?_))
            obtain ⟨afC, afD, afE, ad5⟩ := dR.nJ (Ur _ (H9)) (by omega)
            cases ad5
            refine Z (dh aj bF O O (by omega)) (bg ?_)
            refine Z (dH (bT aQ O) O (by first | exact dR.jo (Ur _ (H9)) (by omega) | exact dR.qB (Ur _ (H9)) (by omega) | exact dR.qx (Ur _ (H9)) (by omega))) ?_
            refine bg (dX O func50 (Ed (s := EW) (by decide)) ?_)
            rintro _ _ ⟨rfl, rfl⟩
            refine bg (iM O O (gI O O (dL O (bD (aG ?_)))))
            refine cO (_) ji (Sub.nil _) (by (try dsimp only); exact ⟨by first | exact decide_eq_true_iff.trans ⟨fun h => (gG hmv).2 ⟨by omega, h⟩, fun h => ((gG hmv).1 h).2⟩ | exact iff_of_false (by decide) fun h => absurd ((gG hmv).1 h).1 (by omega) | exact beq_iff_eq.trans ⟨fun h => (kJ hmv hch).2 (by omega), fun h => by have := (kJ hmv hch).1 h; omega⟩ | exact iff_of_true O ((eY hmv hch hop).2 ⟨by assumption, .inl (by show (lI (List.drop (Int.toNat 1) keys)).length = 0; omega)⟩) | exact decide_eq_true_iff.trans ⟨fun h => (eY hmv hch hop).2 ⟨by assumption, .inr ⟨by show (lI (List.drop (Int.toNat 1) keys)).length = 1; omega, h⟩⟩, fun h => ((eY hmv hch hop).1 h).2.elim (fun c => absurd c (by show ¬ (lI (List.drop (Int.toNat 1) keys)).length = 0; omega)) (fun c => c.2)⟩ | exact iff_of_false (by decide) fun h => ((eY hmv hch hop).1 h).2.elim (fun c => absurd c (by show ¬ (lI (List.drop (Int.toNat 1) keys)).length = 0; omega)) (fun c => absurd c.1 (by show ¬ (lI (List.drop (Int.toNat 1) keys)).length = 1; omega)) | exact iff_of_false (by decide) fun h => absurd ((eY hmv hch hop).1 h).1 (by assumption) | exact iff_of_false (by decide) (vK hmv hch hop), H9⟩)
           ·(try simp only [aC] at h10)
            refine bn (bn (bn (bn (bg (gI O O (gI O O (dL O (bD (aG ?_)))))))))
            refine cO (_) ji (Sub.nil _) (by (try dsimp only); exact ⟨by first | exact decide_eq_true_iff.trans ⟨fun h => (gG hmv).2 ⟨by omega, h⟩, fun h => ((gG hmv).1 h).2⟩ | exact iff_of_false (by decide) fun h => absurd ((gG hmv).1 h).1 (by omega) | exact beq_iff_eq.trans ⟨fun h => (kJ hmv hch).2 (by omega), fun h => by have := (kJ hmv hch).1 h; omega⟩ | exact iff_of_true O ((eY hmv hch hop).2 ⟨by assumption, .inl (by show (lI (List.drop (Int.toNat 1) keys)).length = 0; omega)⟩) | exact decide_eq_true_iff.trans ⟨fun h => (eY hmv hch hop).2 ⟨by assumption, .inr ⟨by show (lI (List.drop (Int.toNat 1) keys)).length = 1; omega, h⟩⟩, fun h => ((eY hmv hch hop).1 h).2.elim (fun c => absurd c (by show ¬ (lI (List.drop (Int.toNat 1) keys)).length = 0; omega)) (fun c => c.2)⟩ | exact iff_of_false (by decide) fun h => ((eY hmv hch hop).1 h).2.elim (fun c => absurd c (by show ¬ (lI (List.drop (Int.toNat 1) keys)).length = 0; omega)) (fun c => absurd c.1 (by show ¬ (lI (List.drop (Int.toNat 1) keys)).length = 1; omega)) | exact iff_of_false (by decide) fun h => absurd ((eY hmv hch hop).1 h).1 (by assumption) | exact iff_of_false (by decide) (vK hmv hch hop), H9⟩)
         ·(try simp only [aC] at h8)
          refine bY (aG ?_)
          refine cO (_) ji (Sub.nil _) (by (try dsimp only); exact ⟨by first | exact decide_eq_true_iff.trans ⟨fun h => (gG hmv).2 ⟨by omega, h⟩, fun h => ((gG hmv).1 h).2⟩ | exact iff_of_false (by decide) fun h => absurd ((gG hmv).1 h).1 (by omega) | exact beq_iff_eq.trans ⟨fun h => (kJ hmv hch).2 (by omega), fun h => by have := (kJ hmv hch).1 h; omega⟩ | exact iff_of_true O ((eY hmv hch hop).2 ⟨by assumption, .inl (by show (lI (List.drop (Int.toNat 1) keys)).length = 0; omega)⟩) | exact decide_eq_true_iff.trans ⟨fun h => (eY hmv hch hop).2 ⟨by assumption, .inr ⟨by show (lI (List.drop (Int.toNat 1) keys)).length = 1; omega, h⟩⟩, fun h => ((eY hmv hch hop).1 h).2.elim (fun c => absurd c (by show ¬ (lI (List.drop (Int.toNat 1) keys)).length = 0; omega)) (fun c => c.2)⟩ | exact iff_of_false (by decide) fun h => ((eY hmv hch hop).1 h).2.elim (fun c => absurd c (by show ¬ (lI (List.drop (Int.toNat 1) keys)).length = 0; omega)) (fun c => absurd c.1 (by show ¬ (lI (List.drop (Int.toNat 1) keys)).length = 1; omega)) | exact iff_of_false (by decide) fun h => absurd ((eY hmv hch hop).1 h).1 (by assumption) | exact iff_of_false (by decide) (vK hmv hch hop), HK⟩)
        ·(try simp only [aC] at h7)
         have hop := h7
         refine bY (aG ?_)
         refine cO (_) ji (Sub.nil _) (by (try dsimp only); exact ⟨by first | exact decide_eq_true_iff.trans ⟨fun h => (gG hmv).2 ⟨by omega, h⟩, fun h => ((gG hmv).1 h).2⟩ | exact iff_of_false (by decide) fun h => absurd ((gG hmv).1 h).1 (by omega) | exact beq_iff_eq.trans ⟨fun h => (kJ hmv hch).2 (by omega), fun h => by have := (kJ hmv hch).1 h; omega⟩ | exact iff_of_true O ((eY hmv hch hop).2 ⟨by assumption, .inl (by show (lI (List.drop (Int.toNat 1) keys)).length = 0; omega)⟩) | exact decide_eq_true_iff.trans ⟨fun h => (eY hmv hch hop).2 ⟨by assumption, .inr ⟨by show (lI (List.drop (Int.toNat 1) keys)).length = 1; omega, h⟩⟩, fun h => ((eY hmv hch hop).1 h).2.elim (fun c => absurd c (by show ¬ (lI (List.drop (Int.toNat 1) keys)).length = 0; omega)) (fun c => c.2)⟩ | exact iff_of_false (by decide) fun h => ((eY hmv hch hop).1 h).2.elim (fun c => absurd c (by show ¬ (lI (List.drop (Int.toNat 1) keys)).length = 0; omega)) (fun c => absurd c.1 (by show ¬ (lI (List.drop (Int.toNat 1) keys)).length = 1; omega)) | exact iff_of_false (by decide) fun h => absurd ((eY hmv hch hop).1 h).1 (by assumption) | exact iff_of_false (by decide) (vK hmv hch hop), HK⟩)
       ·skip
        refine gW (Z (gY O O) (fV O (bI O (fun h11 => ?_) (fun h11 => ?_))))
        ·(try simp only [aC] at h11)
         have hop := h11
         refine bY ?_
         refine cO (()) ?_ ?_ ?_
         ·exact (Sub.eP O (by first | exact qG (beq_iff_eq.2 (by assumption)) (.inl (by assumption)) | exact qG (beq_iff_eq.2 (by assumption)) (.inr (.inl (by assumption))) | exact WY (by assumption) (by assumption) beq_iff_eq) (Sub.nil _))
         ·exact mW
         ·(try dsimp only)
          first | done | exact HJ
        ·(try simp only [aC] at h11)
         have hop := h11
         refine gW (Z (gY O O) (fV O (bI O (fun h12 => ?_) (fun h12 => ?_))))
         ·(try simp only [aC] at h12)
          have hop := h12
          refine bY ?_
          refine cO (()) ?_ ?_ ?_
          ·exact (Sub.eP O (by first | exact qG (beq_iff_eq.2 (by assumption)) (.inl (by assumption)) | exact qG (beq_iff_eq.2 (by assumption)) (.inr (.inl (by assumption))) | exact WY (by assumption) (by assumption) beq_iff_eq) (Sub.nil _))
          ·exact mW
          ·(try dsimp only)
           first | done | exact HJ
         ·(try simp only [aC] at h12)
          have hop := h12
          refine aA (Z (gY O O) (dL O (bD ?_)))
          refine cO (()) ?_ ?_ ?_
          ·exact (Sub.eP O (by first | exact qG (beq_iff_eq.2 (by assumption)) (.inl (by assumption)) | exact qG (beq_iff_eq.2 (by assumption)) (.inr (.inl (by assumption))) | exact WY (by assumption) (by assumption) beq_iff_eq) (Sub.nil _))
          ·exact mW
          ·(try dsimp only)
           first | done | exact HJ
     ·skip
      refine gW (Z (gY O O) (fV O (bI O (fun h13 => ?_) (fun h13 => ?_))))
      ·(try simp only [aC] at h13)
       have hch := h13
       refine bY ?_
       refine cO (()) ?_ ?_ ?_
       ·exact (Sub.eP O (by first | exact qG (beq_iff_eq.2 (by assumption)) (.inl (by assumption)) | exact Z7 (by assumption) beq_iff_eq) (Sub.nil _))
       ·exact qC
       ·(try dsimp only)
        first | done | exact PS
      ·(try simp only [aC] at h13)
       have hch := h13
       refine aA (Z (gY O O) (dL O (bD ?_)))
       refine cO (()) ?_ ?_ ?_
       ·exact (Sub.eP O (by first | exact qG (beq_iff_eq.2 (by assumption)) (.inl (by assumption)) | exact Z7 (by assumption) beq_iff_eq) (Sub.nil _))
       ·exact qC
       ·(try dsimp only)
        first | done | exact PS
end
structure VM where
  marks : Int → Option Int
  fk : Int
  fc : Int
  name : ByteArray
  keys : List Int
  n : Int
  typed : List Int
  frm : Int
def xG (n : ByteArray) : Prop := n.toList = Dl.toList ∨ n.toList = WR.toList ∨ n.toList = WS.toList ∨ n.toList = WU.toList
def qH (n : ByteArray) : Prop := n.toList = WM.toList ∨ n.toList = Dk.toList ∨ n.toList = WO.toList ∨ n.toList = zQ.toList ∨ n.toList = WT.toList
instance (n : ByteArray) : Decidable (xG n) := by unfold xG; infer_instance
instance (n : ByteArray) : Decidable (qH n) := by unfold qH; infer_instance
def WZ (M : VM) : Prop := M.keys.length * 4 ≤ 140737488355328 ∧ M.typed.length ≤ 1024 ∧ (M.name.toList = [] ∨ ((xG M.name ∨ qH M.name) ∧ pq M.name M.keys = 0 ∧ 1 ≤ M.n ∧ M.n ≤ 1000000))
def Bf (m : Int → Option Int) : Int → Option Value := fun k => (m k).map (.int .i64)
def qI (m : Nat) (M : VM) : HP := uf fun (x : Nat × Value × Value) => fact (WZ M) • dS m (.cells #[.map (some x.1), .int .i32 M.fk, .int .i32 M.fc, .string M.name, x.2.1, .int .i64 M.n, x.2.2, .int .i64 M.frm] 119 (0, 0)) • gy Ud x.1 (Bf M.marks) • nD .i32 x.2.1 M.keys • nD .i32 x.2.2 M.typed
def VM.new : VM := ⟨fun _ => none, 0, 0, .empty, [], 0, [], -1⟩
theorem VM.Md : WZ VM.new := ⟨by decide, by decide, .inl (by rw [ByteArray.toList_eq]; rfl)⟩
section
variable {w0 w : World} {F : HP} {m : Nat} {M : VM}
theorem V.vm (H : V w0 w (qI m M • F)) : ∃ mb kv tv, WZ M ∧ V w0 w (dS m (.cells #[.map (some mb), .int .i32 M.fk, .int .i32 M.fc, .string M.name, kv, .int .i64 M.n, tv, .int .i64 M.frm] 119 (0, 0)) • gy Ud mb (Bf M.marks) • nD .i32 kv M.keys • nD .i32 tv M.typed • F) := by
  obtain ⟨⟨mb, kv, tv⟩, H⟩ := H.lZ
  obtain ⟨h, H⟩ := H.flat.fact
  exact ⟨mb, kv, tv, h, H.of_eq (by simp only [dB])⟩
theorem V.CQ {mb : Nat} {kv tv : Value} (h : WZ M) (H : V w0 w (dS m (.cells #[.map (some mb), .int .i32 M.fk, .int .i32 M.fc, .string M.name, kv, .int .i64 M.n, tv, .int .i64 M.frm] 119 (0, 0)) • gy Ud mb (Bf M.marks) • nD .i32 kv M.keys • nD .i32 tv M.typed • F)) : V w0 w (qI m M • F) :=
  V.iV (mb, kv, tv) (V.deep (V.kR h (H.of_eq (by simp only [dB]))))
theorem II (H : V w0 w F) : V w0 w (nD .i32 (.slice none 0 0) [] • F) := V.pY (e := 21) (k := .i32) (l := []) (H.jk none)
theorem V.aa6 {mb : Nat} {kv : Value} (h : WZ M) (ht : M.typed = []) (H : V w0 w (dS m (.cells #[.map (some mb), .int .i32 M.fk, .int .i32 M.fc, .string M.name, kv, .int .i64 M.n, .slice none 0 0, .int .i64 M.frm] 119 (0, 0)) • gy Ud mb (Bf M.marks) • nD .i32 kv M.keys • F)) : V w0 w (qI m M • F) :=
  V.CQ h (by rw [ht]; exact (II H).of_eq (by ac_rfl))
theorem Bg (H : V w0 w (qI m M • F)) : ig prog 69 #[.pointer (some ⟨m, 0, none⟩)] w fun v w' => v = .bool false ∧ w = w' := by
 refine iK func69 ntmps69 ?_
 refine jy O (aK ?_)
 obtain ⟨OD, OE, OG, xH, xW⟩ := (H).vm
 refine aA (bG O (Z (jm underlying41 O O) (ZI O (fun h1 => ?_))))
 (try simp only [aC] at h1)
 refine bg (bG O (bg (dQ O (bg (bK 0 gq O sizeOf113 O (bg (gJ lu O (xW).get.2 O (bg (Z (Uh lu O O) (gI O O (dU O (dF results69 O ?_))))))))))))
 exact ⟨O, O⟩
theorem QJ (H : V w0 w F) : ig prog 22 #[] w fun v w' => ∃ m, v = .pointer (some ⟨m, 0, none⟩) ∧ V w0 w' (qI m VM.new • F) := by
  refine TK func22 ntmps22 ?_
  refine jy O (gW (jL (jX (xB .i32) H) ?_))
  rintro _ w1 ⟨b1, rfl, H1⟩
  refine Z (eX (zl := [.map none, .int .i32 0, .int .i32 0, .string .empty, .slice none 0 0, .int .i64 0, .slice none 0 0, .int .i64 0]) (pl := [(0, 1), (1, 2), (3, 4), (7, 1)]) [_, _, _, _, _, _, _, _] gq zeroValue119 O (fun w => by kernel_rfl) O (.on (.zero (zs := [.int .i32 0, .int .i32 0]) O (.zero (zs := [.string .empty, .slice none 0 0, .int .i64 0, .slice none 0 0]) O (.on .nil)))) O) ?_
  refine jL (jf (l := [_, _, _, _, _, _, _, _]) H1 O O) ?_
  rintro _ w2 ⟨b2, rfl, H2⟩
  refine dU O (dF results22 O ?_)
  exact ⟨_, O, V.CQ VM.Md ((II (II H2)).of_eq (by ac_rfl))⟩
def VM.at (M : VM) (r : Int) : Int := (M.marks r).getD (-1)
theorem OH {r : Int} (H : V w0 w (qI m M • F)) : ig prog 183 #[.pointer (some ⟨m, 0, none⟩), .int .i32 r] w fun v w' => v = .int .i64 (M.at r) ∧ V w0 w' (qI m M • F) := by
  refine nC func183 ntmps183 ?_
  refine jy O (aK (bM O (dX O func69 (Bg H) ?_)))
  rintro _ _ ⟨rfl, rfl⟩
  refine iy (oD (fG (aK (aK ?_))))
  obtain ⟨OD, OE, OG, xH, xW⟩ := (H).vm
  refine aA (nZ O O (bK 0 gq O sizeOf113 O (gJ lu O (xW).get.2 O (bG O (Z (AY (xW.f2) lu aQ zeroValue3 O O) (bG O (rW O O (rW O O (dL O (fV O (bM O (gQ O (fun h1 => ?_) (fun h1 => ?_)))))))))))))
  · (try simp only [aC] at h1)
    try (exfalso; first | contradiction | omega)
    all_goals
      obtain ⟨z, hz⟩ := Option.isSome_iff_exists.1 h1
      obtain ⟨a, ha⟩ : ∃ a, M.marks r = some a := by cases hq : M.marks r with | none => (unfold Bf at hz; rw [hq] at hz; cases hz) | some a => exact ⟨a, rfl⟩
      refine bM O (dU O (ay (dF results183 O ?_)))
      have Qk := xW.f4.f4.f4.f4
      have PN := V.CQ (M := M) xH Qk
      exact ⟨by unfold VM.at; rw [ha]; first | rfl | (unfold Bf; rw [ha]; rfl), PN⟩
  · (try simp only [aC] at h1)
    try (exfalso; first | contradiction | omega)
    all_goals
      have ha : M.marks r = none := by cases hq : M.marks r with | none => rfl | some a => (have h9 := h1; unfold Bf at h9; rw [hq] at h9; cases h9)
      refine fG (jB O (dF results183 O ?_))
      have VX := xW.f4.f4.f4.f4
      have VY := V.CQ (M := M) xH VX
      exact ⟨by unfold VM.at; rw [ha]; first | rfl | (unfold Bf; rw [ha]; rfl), VY⟩
theorem Me (H : V w0 w (qI m M • F)) : ig prog 38 #[.pointer (some ⟨m, 0, none⟩)] w fun v w' => ∃ c, v = .pointer (some ⟨c, 0, none⟩) ∧ V w0 w' (qI c M • qI m M • F) := by
 refine iK func38 ntmps38 ?_
 refine jy O (aK (bM O (dX O func69 (Bg H) ?_)))
 rintro _ _ ⟨rfl, rfl⟩
 refine iy (oD (fG (aK ?_)))
 obtain ⟨OD, OE, OG, xH, xW⟩ := (H).vm
 have hvk := xH.1
 have hvt := xH.2.1
 refine aA (nZ O O (Z (fP gq O sizeOf119 O O (xW).get.2) (jL (gK (l := [_, _, _, _, _, _, _, _]) xW zeroValue119 O) ?_)))
 rintro _ w3 ⟨b3, rfl, H3⟩
 refine aO (dw 0 (l' := [_, _, _, _, _, _, _, _]) (us := [_, _, _, _, _, _, _, _]) H3 sizeOf119 O O O (aH (aH (aH (aH (bf (by first | rfl | exact Rd.one ((H3.f4).jV)) (aH (bf (by first | rfl | exact Rd.one ((H3.f5).jV)) (aH bP)))))))) O O) ?_
 rintro _ w4 H4
 refine Yh (jL (jX (xB .i32) H4) ?_)
 rintro _ w5 ⟨b5, rfl, H5⟩
 refine bK 0 gq O sizeOf113 O (aO (fQ 0 (l' := [_, _, _, _, _, _, _, _]) H5.f2 sizeOf113 O O (by first | rfl | assumption) O O) ?_)
 rintro _ w6 H6
 refine qW (bM O (dQ O (bK 0 gq O sizeOf113 O (gJ lu O (H6.f3).get.2 O (jL (AZ H6.f4 lu O) ?_)))))
 rintro _ w7 ⟨it7, mi, rfl, H7⟩
 refine iy (aV ?_)
 obtain ⟨R8, hR8, HR8⟩ := V.Gz (H7.f2.f3.f3)
 have HX0 := HR8
 rw [← Ot (Bf M.marks)] at HX0
 refine dJ [(0, _), (3, _), (17, _)] (fun (⟨S, n⟩ : List Int × Nat) => []) (fun (⟨S, n⟩ : List Int × Nat) W => V w0 W (CO Ud OD it7 (Bf M.marks) S n • gy Ud b5 (L8 (Bf M.marks) S) • dS b3 (.cells #[.map (some b5), .int .i32 M.fk, .int .i32 M.fc, .string M.name, OE, .int .i64 M.n, OG, .int .i64 M.frm] 119 (0, 0)) • R8)) (fun (⟨S, n⟩ : List Int × Nat) => n) (([], _)) qC (Sub.nil _) HX0 ?_
 rintro ⟨S, n⟩ w9 HL
 dsimp only [List.cons_append, List.nil_append]
 refine gW (jL (Dh HL O) ?_)
 rintro _ w10 ⟨ox, Sx, mx, rfl, ZX, rD⟩
 refine Z (Wn O) (qW (bI O (fun h1 => ?_) (fun h1 => ?_)))
 ·(try simp only [aC] at h1)
  try (exfalso; first | contradiction | omega)
  all_goals
   obtain ⟨⟨a, u⟩, rfl⟩ := Option.isSome_iff_exists.1 h1
   obtain ⟨ha, hns, hlt, rfl⟩ := ZX
   refine fG (aV (gW ?_))
   refine Z (L6 (rD) (by assumption) O) ?_
   refine rW O O (rW O O (dL O (fV O (aA (bK 0 gq O sizeOf113 O (gJ lu O (rD.f3).get.2 O (jr O O (aO (vI rD.f2 lu aQ O O O) ?_))))))))
   rintro _ ED rM
   refine bD (aG ?_)
   have hres := KD (S := S) ha
   refine bZ ((S ++ [a], mx)) ?_ ?_ ?_ ?_
   ·exact (Sub.nil _)
   ·exact qC
   ·(try dsimp only)
    first | done | exact (by rw [hres]; exact rM.f3.f2.f3)
   ·(try dsimp only); omega
 ·(try simp only [aC] at h1)
  try (exfalso; first | contradiction | omega)
  all_goals
   obtain rfl := ER (o := ox) (by simp [h1])
   obtain ⟨rfl, rfl, hall⟩ := ZX
   refine bQ (aB ?_)
   have HX := rD.f3.f2.f3
   rw [Ou hall] at HX
   have QK := HX.f2
   have QL := QK.EN
   subst hR8
   refine aB (aU (aW (aK ?_)))
   have Z8 := QL.drew
   have xI := V.kp (Z8.f6.f6.f6.f6.f6.f6)
   refine yY [4, 10] xI O (jW 0 O xI O (kV 1 O xI O (iJ 2 O xI 3 gq O sizeOf117 O (iJ 3 O xI 1 underlying117 O dV O (kK 4 O xI (fun W hW => kQ aj O ((Kp.h hW).f4).get.2 O) (jW 6 O xI O (kV 7 O xI O (iJ 8 O xI 3 gq O sizeOf117 O (iJ 9 O xI 3 underlying117 O dV O (kK 10 O xI (fun W hW => kQ aj O ((Kp.h hW).f4).get.2 O) (oV 5 O (zx O func71 (qP Z8 (fun W HW => (HW.f5).jV) (by omega))) ?_)))))))))))
   rintro u14 TN BJ
   have D5 := V.kp (BJ.f7.f7.f7.f7.f7.f7.f7)
   refine eU D5 (fun W hW => (Kp.h hW).right.f6.f6.f6.f6.f6.f6) ?_
   refine oV 11 O (zx O func71 (qP BJ (fun W HW => (HW.f7).jV) (by omega))) ?_
   rintro u15 TV zH
   have wF := V.kp (zH.f8.f8.f8.f8.f8.f8.f8.f8)
   refine iD wF (by kernel_rfl) ?_
   refine iJ 12 O wF 3 gq O sizeOf117 O (iJ 13 O wF 1 underlying117 O dV O ?_)
   refine gX 14 O (by kernel_rfl) (fQ 4 (l' := [_, _, _, _, _, _, _, _]) zH.f5 dV O O (by first | rfl | exact Rd.one ((zH.f2).aY)) O O) ?_
   rintro _ w16 zB
   have D7 := V.kp (zB.f8.f8.f8.f8.f8.f8.f8.f8)
   refine iD D7 (by kernel_rfl) ?_
   refine iJ 15 O D7 3 gq O sizeOf117 O (iJ 16 O D7 3 underlying117 O dV O ?_)
   refine gX 17 O (by kernel_rfl) (fQ 6 (l' := [_, _, _, _, _, _, _, _]) zB dV O O (by first | rfl | exact Rd.one ((zB.f2).aY)) O O) ?_
   rintro _ ZY Jo
   have FH := V.kp (Jo.f8.f8.f8.f8.f8.f8.f8.f8)
   refine iD FH (by kernel_rfl) ?_
   refine sK (aW (jB O (dF results38 O ?_)))
   have aa7 := Jo.f3
   have aa8 := aa7.pY
   have W9 := aa8.f3
   have QM := W9.pY
   have Xa := QM.f8.f8.f6.f8
   have Xb := V.CQ (M := M) xH Xa
   exact ⟨_, O, V.CQ xH Xb.f2.f3.f5.f5⟩
end
def IJ (D : List Int) (P : Int → Nat) (k : Int) : Option Addr := if k ∈ D then some ⟨P k, 0, none⟩ else none
theorem SK (D : List Int) (P : Int → Nat) (k : Int) : (Om D P k).getD (.pointer none) = .pointer (IJ D P k) := by unfold Om IJ; split <;> rfl
theorem OI {D : List Int} {P : Int → Nat} {k : Int} (h : k ∈ D) : IJ D P k = some ⟨P k, 0, none⟩ := if_pos h
theorem Us {D : List Int} {P : Int → Nat} {k : Int} (h : (IJ D P k).isNone = false) : k ∈ D := by
  unfold IJ at h
  split at h
  · assumption
  · cases h
theorem Ut {D : List Int} {P : Int → Nat} {k : Int} (h : (IJ D P k).isNone = true) : k ∉ D := by
  unfold IJ at h
  split at h
  · cases h
  · assumption
theorem SL {s : dN} (h : ¬ s.y9 = 0) : s.inn = false ∧ s.y9 = 1 := by
  unfold dN.y9 at *
  cases hi : s.inn <;> simp_all
theorem OJ {s : dN} (h : s.y9 = 0) : s.inn = true := by
  unfold dN.y9 at h
  cases hi : s.inn <;> simp_all
theorem V.ad6 {w0 w : World} {A B C F : HP} (H : V w0 w (A • B • C • F)) : V w0 w (A • (B • C) • F) := H.of_eq (by rw [dB])
section
variable {w0 w : World} {F : HP} {e p : Nat} {s : dN}
theorem qJ (H : V w0 w (iC e s • F)) : ig prog 65 #[.pointer (some ⟨e, 0, none⟩)] w fun v w' => v = .bool false ∧ w = w' := by
 refine iK func65 ntmps65 ?_
 refine jy O (aK ?_)
 obtain ⟨yI, yJ, yK, yL, yM, yN, yO, yP, wu, uF, uG, uH, uI, uJ, uK, uM, uN, uO, uP, uQ, iR, dM, lJ, jg⟩ := (H).Ik
 refine aA (bG O (Z (jm kU O O) (iZ O (fun h1 => ?_) (fun h1 => ?_))))
 ·(try simp only [aC] at h1)
  exfalso; first | contradiction | omega
 ·(try simp only [aC] at h1)
  refine bg (bG O (bg (dQ O (bg (bK 11 ah O sizeOf78 O (bg (gJ kC O (jg).get.2 O (bg (Z (jm kC O O) (gI O O (dU O (dF results65 O ?_))))))))))))
  exact ⟨O, O⟩
theorem vM (H : V w0 w (iC e s • F)) : ig prog 81 #[.pointer (some ⟨e, 0, none⟩)] w fun v w' => v = .int .i64 s.y9 ∧ w = w' := by
 unfold dN.y9
 refine iK func81 ntmps81 ?_
 refine jy O (aK (aV (bM O (dX O func65 (qJ H) ?_))))
 rintro _ _ ⟨rfl, rfl⟩
 refine fV O (oD (aK ?_))
 obtain ⟨yI, yJ, yK, yL, yM, yN, yO, yP, wu, uF, uG, uH, uI, uJ, uK, uM, uN, uO, uP, uQ, iR, dM, lJ, jg⟩ := (H).Ik
 refine aA (nZ O O (bK 16 ah O aT O (gJ bW O (jg).get.2 O (Z (mD O) (fV O (bI O (fun h1 => ?_) (fun h1 => ?_)))))))
 ·(try simp only [aC] at h1)
  refine jB O (aN (ay (dF results81 O ?_)))
  exact ⟨by simp [*], O⟩
 ·(try simp only [aC] at h1)
  refine bY (aG (aW (jB O (dF results81 O ?_))))
  exact ⟨by simp [*], O⟩
theorem OL {x0 x1 x4 x5 x6 x7 x8 x9 x10 x11 x12 wC x14 x15 x16 x17 x18 x19 x20 x21 wQ x23 x24 x25 xq x27 x28 x29 x30 x31 x32 yc : Value} {pw pt pm : Nat} {k : Int} {U : Int → List (List jq)} (H : V w0 w (dS e (.cells (x0 :: x1 :: .pointer (some ⟨pw, 0, none⟩) :: .map (some pm) :: x4 :: x5 :: x6 :: x7 :: x8 :: x9 :: x10 :: x11 :: x12 :: wC :: x14 :: x15 :: x16 :: x17 :: x18 :: x19 :: x20 :: x21 :: wQ :: x23 :: x24 :: x25 :: xq :: x27 :: x28 :: x29 :: x30 :: x31 :: x32 :: yc :: []).toArray 82 (0, 0)) • dS pw (.cells #[.int .i64 k, .map (some pt)] 122 (0, 0)) • xR pm U • F)) : ig prog 134 #[.pointer (some ⟨e, 0, none⟩)] w fun v w' => ∃ p, v = .pointer (some ⟨p, 0, none⟩) ∧
  V w0 w' (jl p (U k) [] 0 • Oo pm U k p • dS e (.cells (x0 :: x1 :: .pointer (some ⟨pw, 0, none⟩) :: .map (some pm) :: x4 :: x5 :: x6 :: x7 :: x8 :: x9 :: x10 :: x11 :: x12 :: wC :: x14 :: x15 :: x16 :: x17 :: x18 :: x19 :: x20 :: x21 :: wQ :: x23 :: x24 :: x25 :: xq :: x27 :: x28 :: x29 :: x30 :: x31 :: x32 :: yc :: []).toArray 82 (0, 0)) • dS pw (.cells #[.int .i64 k, .map (some pt)] 122 (0, 0)) • F) := by
 refine iK func134 ntmps134 ?_
 refine jy O (aK ?_)
 obtain ⟨D, P, hD1, hD2, HU⟩ := (H.f3).YV
 have QN := HU.drew
 have mY := V.kp (QN.f4.f4.f4.f4)
 refine yY [4, 9, 12, 13] mY O (jW 0 O mY O (kV 1 O mY O (iJ 2 O mY 0 ah O aX O (iJ 3 O mY 3 aJ O sizeOf75 O (kK 4 O mY (fun W hW => kQ kT O ((Kp.h hW).f3).get.2 O) (jW 5 O mY O (kV 6 O mY O (iJ 7 O mY 0 ah O aX O (iJ 8 O mY 2 aJ O sizeOf74 O (kK 9 O mY (fun W hW => kQ kS O ((Kp.h hW).f3).get.2 O) (kV 10 O mY O (iJ 11 O mY 0 fK O aF O (kK 12 O mY (fun W hW => kQ aP O ((Kp.h hW).f4).get.2 O) (kK 13 O mY (fun W hW => Jq (Og ((Kp.h hW)) kT aP zeroValue184 O O) (SK D P k)) (jQ 14 O mY (fun _ => dY O) (sK (aW (aK (bM O (Z (jm underlying184 O O) (gQ O (fun h1 => ?_) (fun h1 => ?_))))))))))))))))))))))
 ·(try simp only [aC] at h1)
  have hnm := Ut h1
  refine gW (dX O func174 (LJ QN) ?_)
  rintro _ w1 ⟨p1, rfl, H1⟩
  refine fV O ?_
  have acG := H1.drew
  have xJ := V.kp (acG.f5.f5.f5.f5.f5)
  refine yY [4, 9, 12] xJ O (jW 0 O xJ O (kV 1 O xJ O (iJ 2 O xJ 0 ah O aX O (iJ 3 O xJ 3 aJ O sizeOf75 O (kK 4 O xJ (fun W hW => kQ kT O ((Kp.h hW).f4).get.2 O) (jW 5 O xJ O (kV 6 O xJ O (iJ 7 O xJ 0 ah O aX O (iJ 8 O xJ 2 aJ O sizeOf74 O (kK 9 O xJ (fun W hW => kQ kS O ((Kp.h hW).f4).get.2 O) (kV 10 O xJ O (iJ 11 O xJ 0 fK O aF O (kK 12 O xJ (fun W hW => kQ aP O ((Kp.h hW).f5).get.2 O) (jW 13 O xJ O ?_))))))))))))))
  refine gX 14 O (by kernel_rfl) (vI acG.f2 kT aP O O O) ?_
  rintro _ w2 H2
  have yD := V.kp (H2.f5.f5.f5.f5.f5)
  refine iD yD (by kernel_rfl) ?_
  refine sK (aW (bM O (dU O (dF results134 O ?_))))
  have hu1 : FK (xQ P k p1) U (D ++ [k]) = (FK P U D • jl p1 [] [] 0) := by
   rw [Il, oK, hD2 _ hnm, BL (P' := P) (U' := U) fun x hx => ⟨vH _ _ (by rintro rfl; exact hnm hx), rfl⟩]
  have HM := V.ad6 H2.f5.f5.f4.f5.f5
  rw [← hu1, ← Ov hnm] at HM
  have HZ := V.ZW (k := k) (Io hD1 hnm) (fun k hk => hD2 k fun hm => hk (by simp [hm])) (by simp) HM
  rw [oK] at HZ
  exact ⟨_, O, HZ⟩
 ·(try simp only [aC] at h1)
  have hmem := Us h1
  rw [OI hmem]
  refine fG (bM O (dU O (dF results134 O ?_)))
  exact ⟨_, O, V.ZW hD1 hD2 hmem QN.f4.f4.f4.f4⟩
end
end Go.Proofs.YtpdeedplgmbopaaGreatDoor
end
section
namespace Go.Proofs.YtpdeedplgmbopaaGreatDoor
open Go.RowKit Go.Lib
section
variable {P : Program} {L : List (Nat × Value)} {w0 w : World} {F : HP} {ty : TypeId} {b : Nat} {v d : Int} {t : TypeId}
theorem Xc {T : Value → World → Prop} {f : FuncId} {args : List Operand} {ts : Array TypeId} {vs : List Value} {fn : Func} {e : Array Value → Sem Value} {v : Value} {w' : World} (ha : EC L args = some vs)
    (hf : P.funcs[f]? = some fn) (hname : (fn.name == "runtime.NumGoroutine") = false) (hb : fn.body.isNone = true) (hn : Extern.findNext fn = none) (he : Extern.find fn = some e) (hr : (e vs.toArray).run P w = .ok v w') (ht : T v w') :
    uZ P L (.call ⟨.value (.func f), args.toArray, ts⟩) ty w T := wX (v := v) (w' := w') (fun ρ hρ _ _ _ _ => by
  have hg : ρ (.func f) = .func (.func f) #[] #[] := hρ _ _ rfl
  have hc := run_callFunc_extern hf hname hb hn he vs.toArray w
  rw [hr] at hc
  simp [execOp, resolve, invoke, evs hρ _ _ ha, hg, Deferred.ofValue]
  exact hc) ht
theorem QO (hc : w.cell? ⟨b, 0, none⟩ = some (.int .i64 v)) : (Extern.Atomic.loadT (.int .i64) #[.pointer (some ⟨b, 0, none⟩)]).run P w = .ok (.int .i64 v) w := by
  change Sem.run P (do Extern.Atomic.read (.int .i64) (← asAddr (.pointer (some ⟨b, 0, none⟩)))) w = _
  simp [Extern.Atomic.read, asAddr, hc, Result.andThen]
theorem Y3 {f : FuncId} {args : List Operand} {ts : Array TypeId} {fn : Func} (H : V w0 w (dS b (.cells #[.int .i64 v] t (0, 0)) • F)) (ha : EC L args = some [.pointer (some ⟨b, 0, none⟩), .int .i64 d])
    (hf : P.funcs[f]? = some fn) (hname : (fn.name == "runtime.NumGoroutine") = false) (hb : fn.body.isNone = true) (hn : Extern.findNext fn = none) (he : Extern.find fn = some (Extern.Atomic.update (Op.intArith .add) .i64 true)) :
    uZ P L (.call ⟨.value (.func f), args.toArray, ts⟩) ty w fun u w' => u = .int .i64 (IntKind.i64.wrap (v + d)) ∧ V w0 w' (dS b (.cells #[.int .i64 (IntKind.i64.wrap (v + d))] t (0, 0)) • F) :=
  Xc ha hf hname hb hn he (Conc.run_add_entry (iT H.get.2 rfl) (Ap H.get.2)) ⟨rfl, H.setCell (i := 0) _⟩
theorem Xd {f : FuncId} {args : List Operand} {ts : Array TypeId} {fn : Func} (H : V w0 w (dS b (.cells #[.int .i64 v] t (0, 0)) • F)) (ha : EC L args = some [.pointer (some ⟨b, 0, none⟩)])
    (hf : P.funcs[f]? = some fn) (hname : (fn.name == "runtime.NumGoroutine") = false) (hb : fn.body.isNone = true) (hn : Extern.findNext fn = none) (he : Extern.find fn = some (Extern.Atomic.loadT (.int .i64))) :
    uZ P L (.call ⟨.value (.func f), args.toArray, ts⟩) ty w fun u w' => u = .int .i64 v ∧ w = w' :=
  Xc ha hf hname hb hn he (QO (iT H.get.2 rfl)) ⟨rfl, rfl⟩
theorem Ef (H : V w0 w (dS b (.cells #[.int .i64 v] t (0, 0)) • F)) : ig Tryz.prog 83 #[.pointer (some ⟨b, 0, none⟩), .int .i64 d] w fun u w' => u = .int .i64 (IntKind.i64.wrap (v + d)) ∧ V w0 w' (dS b (.cells #[.int .i64 (IntKind.i64.wrap (v + d))] t (0, 0)) • F) := by
  refine nC Tryz.func83 Tryz.ntmps83 ?_
  refine jy O (bM O (dQ O (bK 0 Tryz.underlying161 O Tryz.sizeOf2 O (bG O (jL (Y3 H O Tryz.func133 O O (by kernel_rfl) (by kernel_rfl)) ?_)))))
  rintro _ w1 ⟨rfl, H1⟩
  refine dU O (dF Tryz.results83 O ?_)
  exact ⟨O, H1⟩
theorem nR (H : V w0 w (dS b (.cells #[.int .i64 v] t (0, 0)) • F)) : ig Tryz.prog 68 #[.pointer (some ⟨b, 0, none⟩)] w fun u w' => u = .int .i64 v ∧ w = w' := by
  refine iK Tryz.func68 Tryz.ntmps68 ?_
  refine jy O (bM O (dQ O (bK 0 Tryz.underlying161 O Tryz.sizeOf2 O (jL (Xd H O Tryz.func121 O O (by kernel_rfl) (by kernel_rfl)) ?_))))
  rintro _ _ ⟨rfl, rfl⟩
  refine dU O (dF Tryz.results68 O ?_)
  exact ⟨O, O⟩
end
end Go.Proofs.YtpdeedplgmbopaaGreatDoor
end
