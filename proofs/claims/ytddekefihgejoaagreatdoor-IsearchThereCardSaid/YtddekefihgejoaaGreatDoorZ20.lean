import Derived.Test.YtddekefihgejoaaGreatDoorZ2
import Derived.Test.YtddekefihgejoaaGreatDoorZ5
import Derived.Test.YtddekefihgejoaaGreatDoorZ19
import Derived.Test.YtddekefihgejoaaGreatDoorCards
import Derived.SevenTiedAt
set_option linter.unusedSimpArgs false
set_option linter.unusedVariables false
/- What Find tells stands there, and between it and where it began the pattern stands nowhere: IsearchThere in its first form, as the card states it, for whatever the program's variables hold as its text lays them. No condition beside the form's own.
Texts of mine, joined, their names in short: LawIsThere HasIsThere. -/
section
namespace Go.Proofs.YtddekefihgejoaaGreatDoor
open Go.RowKit
open _root_.Go.Proofs.Tryz
section
variable {w0 w : World} {F : HP} {v v2 : Value} {l p : List Int} {at_ : Int}
theorem xB (h0 : 0 ≤ at_) (h1 : at_ ≤ l.length) (h2 : (p.length : Int) ≤ (l.length : Int) - at_) : ((l.drop at_.toNat).take ((at_ + p.length).toNat - at_.toNat) == p) = xP l at_ p := by
  unfold xP wu
  rw [decide_eq_true h0, Bool.true_and, show (at_ + p.length).toNat - at_.toNat = p.length from by omega]
  by_cases e : (l.drop at_.toNat).take p.length = p
  · rw [beq_iff_eq.2 e, decide_eq_true ⟨by omega, e⟩]
  · rw [beq_eq_false_iff_ne.2 e, decide_eq_false (fun c => e c.2)]
theorem zL (h : ¬ (0 ≤ at_ ∧ at_ ≤ l.length ∧ (p.length : Int) ≤ (l.length : Int) - at_)) : xP l at_ p = false := by
  unfold xP
  by_cases h0 : 0 ≤ at_
  · rw [decide_eq_true h0, Bool.true_and]
    cases hb : wu l p at_.toNat with
    | false => rfl
    | true => have := (vk.1 hb).1; exact absurd ⟨h0, by omega, by omega⟩ h
  · rw [decide_eq_false h0]; rfl
theorem nX (H : aB w0 w F) (hv1 : iG w0 F .i32 v l) (hv2 : iG w0 F .i32 v2 p) : gG prog 15 #[v, .int .i64 at_, v2] w fun v' w' => v' = .bool (xP l at_ p) ∧ aB w0 w' F := by
 have hl9 : l.length ≤ 9223372036854775807 := by have := (hv1 _ H).open; obtain ⟨a, c, e, h3, h4, _⟩ := this; omega
 refine iF func15 ntmps15 ?_
 dsimp only [bg, Nat.reduceAdd]
 refine ay (ah (aW rfl (aA (aj (ay (ah (aI rfl (aU (o8 rfl rfl) (iM rfl (fun h1 => ?_) (fun h1 => ?_))))))))))
 ·(try simp only [aG] at h1)
  refine aY (aI rfl (aY (aI rfl (aY (aU (eG (hv1 _ (H)) underlying23 rfl) (aY (aU (qU rfl rfl) (fK rfl rfl (iM rfl (fun h2 => ?_) (fun h2 => ?_))))))))))
  ·(try simp only [aG] at h2)
   refine aY (aI rfl (aY (aU (eG (hv2 _ (H)) underlying23 rfl) (aY (aI rfl (aY (aU (eG (hv1 _ (H)) underlying23 rfl) (aY (aI rfl (aY (aU (je rfl rfl (by omega)) (aY (aU (qU rfl rfl) (fK rfl rfl (iM rfl (fun h3 => ?_) (fun h3 => ?_))))))))))))))))
   ·(try simp only [aG] at h3)
    refine aY (aI rfl (aY (aI rfl (aY (aI rfl (aY (aI rfl (aY (aU (eG (hv2 _ (H)) underlying23 rfl) (aY (aU (dG rfl rfl (by omega)) (aY (aU (uj (hv1 _ (H)) underlying23 sizeOf21 rfl rfl rfl (by omega)) (aY (aI rfl (aY (dH rfl func22 (DI _ _ _ _ _ (jc.cut (hv1 _ (H)) (by omega) (by omega)) (hv2 _ (H))) ?_)))))))))))))))))
    rintro _ w1 ⟨rfl, hD1⟩
    have HD1 := H.yO hD1
    refine fK rfl rfl (aW rfl (aA (aj (aK (aQ (.inl rfl) results15 rfl ?_)))))
    exact ⟨by first | (rw [xB (by omega) (by omega) (by omega)]) | (rw [zL (by omega)]), HD1⟩
   ·(try simp only [aG] at h3)
    refine aZ (aZ (aZ (aZ (aZ (aZ (aZ (aZ (aZ (fC rfl rfl (aW rfl (aA (aj (aK (aQ (.inl rfl) results15 rfl ?_))))))))))))))
    exact ⟨by first | (rw [xB (by omega) (by omega) (by omega)]) | (rw [zL (by omega)]), H⟩
  ·(try simp only [aG] at h2)
   refine aZ (aZ (aZ (aZ (aZ (aZ (aZ (fC rfl rfl (aI rfl (aZ (aZ (aZ (aZ (aZ (aZ (aZ (aZ (aZ (fC rfl rfl (aW rfl (aA (aj (aK (aQ (.inl rfl) results15 rfl ?_)))))))))))))))))))))))
   exact ⟨by first | (rw [xB (by omega) (by omega) (by omega)]) | (rw [zL (by omega)]), H⟩
 ·(try simp only [aG] at h1)
  refine aZ (aZ (aZ (aZ (fC rfl rfl (aI rfl (aZ (aZ (aZ (aZ (aZ (aZ (aZ (fC rfl rfl (aI rfl (aZ (aZ (aZ (aZ (aZ (aZ (aZ (aZ (aZ (fC rfl rfl (aW rfl (aA (aj (aK (aQ (.inl rfl) results15 rfl ?_)))))))))))))))))))))))))))))
  exact ⟨by first | (rw [xB (by omega) (by omega) (by omega)]) | (rw [zL (by omega)]), H⟩
end
theorem J5 {m : Nat} {l p : List Int} (h : xP l (m : Int) p = true) : wu l p m = true := by
  unfold xP at h
  simpa using h
theorem Ci {w : World} {v rv : Value} {us : List Value} {ls : List (List Int)} {p : List Int} {place at_ : Int} (hT : rZ w) (g1 : Rd w 1 v ls.length us) (g2 : ∀ k, k < ls.length → jc w .i32 (us.getD k undef) (ls.getD k [])) (g3 : jc w .i32 rv p)
  (hb8 : ls.length ≤ 4611686018427387904) (RH : ∀ k, k < ls.length → (ls.getD k []).length ≤ 4611686018427387904) :
  gG prog 4 #[v, .int .i64 place, .int .i64 at_, rv, .bool true] w fun v w' => v = .bool true ∧ Below w.heap.size w w' := by
 obtain ⟨F, H⟩ : ∃ F, aB w w F := ⟨_, aB.start w⟩
 have hv : EL w F 1 v ls.length us := EL.qY g1 F
 have he : ∀ k, k < ls.length → iG w F .i32 (us.getD k undef) (ls.getD k []) := fun k hk => iG.qY (g2 k hk) F
 have hp : iG w F .i32 rv p := iG.qY g3 F
 obtain ⟨r, hr⟩ : ∃ r, fH ls place at_ p true = r := ⟨_, rfl⟩
 have hf := fun h => IQ (ls := ls) (place := place) (at_ := at_) (p := p) (back := true) h
 rw [hr] at hf
 refine iF func4 ntmps4 ?_
 dsimp only [bg, Nat.reduceAdd]
 refine ay (ah (aW rfl (aA (aj (ay (ay (ah (dH rfl func9 (F8 H hT) ?_))))))))
 rintro _ w1 ⟨rfl, H1⟩
 refine aU (gQ rfl) (aA (aj (nY (aO (aj (ay (ah (aI rfl (aI rfl (aI rfl (aI rfl (aI rfl (dH rfl func7 (wQ H1 hv he hp hb8 RH) ?_)))))))))))))
 rintro _ w2 ⟨rfl, H2⟩
 rw [hr]
 refine aI rfl (wU rfl rfl (wU rfl rfl (wU rfl rfl (aW rfl (aW rfl (aW rfl (aA (aj ?_))))))))
 refine lT [(0, _), (1, _), (2, _), (3, _), (4, _), (11, _), (12, _), (13, _)] (fun (_ : Unit) => []) (fun (_ : Unit) W => aB w W F) (Sub.cons rfl (Sub.cons rfl (Sub.cons rfl (Sub.cons rfl (Sub.cons rfl (Sub.cons rfl (Sub.cons rfl (Sub.cons rfl (Sub.nil _))))))))) ?_ ?_
 ·rintro _ w3 HQ
  dsimp only [List.cons_append, List.nil_append]
  refine ay (ay (ah (aI rfl (aU (dB rfl rfl) (iM rfl (fun h1 => ?_) (fun h1 => ?_))))))
  ·(try simp only [aG] at h1)
   refine aZ (aZ (aZ (aZ (fK rfl rfl (aI rfl (aZ (aZ (aZ (fK rfl rfl (aA (aj (zM (ay (ah (aI rfl (aU (gQ rfl) (aW rfl (aA (aj (aK (aN (aQ (.inl rfl) results4 rfl ?_))))))))))))))))))))))
   have h9 : r.2.2 = false := by rw [← hr]; exact rF (by omega)
   exact ⟨by rw [h9]; rfl, HQ.base⟩
  ·(try simp only [aG] at h1)
   refine aY (aI rfl (aY (aI rfl (aY (aU (eX (hv _ (HQ)) underlying22 rfl) (aY (aU (o8 rfl rfl) (fC rfl rfl (iM rfl (fun h2 => ?_) (fun h2 => ?_))))))))))
   ·(try simp only [aG] at h2)
    refine aZ (aZ (aZ (fK rfl rfl (aA (aj (zM (ay (ah (aI rfl (aU (gQ rfl) (aW rfl (aA (aj (aK (aN (aQ (.inl rfl) results4 rfl ?_))))))))))))))))
    have h9 : r.2.2 = false := by rw [← hr]; exact rF (by omega)
    exact ⟨by rw [h9]; rfl, HQ.base⟩
   ·(try simp only [aG] at h2)
    refine aY (aI rfl (aY (aU (eG (hp _ (HQ)) underlying23 rfl) (aY (aU (gU rfl rfl) (fC rfl rfl (aA (aj (aP rfl (fun h3 => ?_) (fun h3 => ?_))))))))))
    ·(try simp only [aG] at h3)
     refine ay (ah (aI rfl (aU (gQ rfl) (aW rfl (aA (aj (aK (aN (aQ (.inl rfl) results4 rfl ?_)))))))))
     have h9 : r.2.2 = false := by rw [← hr]; exact rF (by omega)
     exact ⟨by rw [h9]; rfl, HQ.base⟩
    ·(try simp only [aG] at h3)
     have h99 := h3
     have z0 : ¬ place < 0 := by omega
     have z1 : ¬ (ls.length : Int) ≤ place := by omega
     have z2 : ¬ p.length = 0 := by omega
     refine aO (aj (ay (ay (ah (aI rfl (aU (eX (hv _ (HQ)) underlying22 rfl) (aI rfl (aA (aj (bf ?_))))))))))
     refine eP [(0, _), (1, _), (2, _), (3, _), (4, _), (11, _), (12, _), (13, _), (104, _)] (fun (n : Nat) => [(105, .int .i64 (n : Int))]) (fun (n : Nat) W => n ≤ ls.length ∧ aB w W F) (fun (n : Nat) => ls.length - n) (0) (Sub.cons rfl (Sub.cons rfl (Sub.cons rfl (Sub.cons rfl (Sub.cons rfl (Sub.cons rfl (Sub.cons rfl (Sub.cons rfl (Sub.cons rfl (Sub.nil _)))))))))) (Sub.cons rfl (Sub.nil _)) ⟨by omega, HQ⟩ ?_
     rintro n w4 ⟨hn9, HL⟩
     dsimp only [List.cons_append, List.nil_append]
     refine ay (ah (aU (dB rfl rfl) (aA (aj (ay (aP rfl (fun h4 => ?_) (fun h4 => ?_)))))))
     ·(try simp only [aG] at h4)
      refine aO (aj (ay (bf (ay (ah (aI rfl (aW rfl (aA (aj (ay ?_))))))))))
      have hnl : n < ls.length := by omega
      have hbn := RH n hnl
      refine ah (aI rfl (aI rfl ?_))
      obtain ⟨bv, ov, cv, ev⟩ := Rd.kV (hv _ (HL)) (by omega)
      cases ev
      refine aU (bY underlying22 sizeOf23 rfl rfl (by omega)) ?_
      refine aU (dZ (bU underlying23 rfl) rfl (by first | exact Rd.nZ (hv _ (HL)) (by omega) | exact Rd.AV (hv _ (HL)) (by omega) | exact Rd.zX (hv _ (HL)) (by omega))) ?_
      refine jQ (fun Wn Ic => ?_)
      refine aU (eG ((by rw [Ic]; exact he _ (by omega) _ (HL))) underlying23 rfl) ?_
      refine aU (dG rfl rfl (by omega)) (aI rfl (aA (aj (bf ?_))))
      refine eP [(0, _), (1, _), (2, _), (3, _), (4, _), (11, _), (12, _), (13, _), (14, _), (104, _), (105, _), (113, _)] (fun (m : Nat) => [(114, .int .i64 (m : Int))]) (fun (m : Nat) W => m ≤ (ls.getD n []).length + 1 ∧ aB w W F) (fun (m : Nat) => (ls.getD n []).length + 1 - m) (0) (Sub.cons rfl (Sub.cons rfl (Sub.cons rfl (Sub.cons rfl (Sub.cons rfl (Sub.cons rfl (Sub.cons rfl (Sub.cons rfl (Sub.cons rfl (Sub.cons rfl (Sub.cons rfl (Sub.cons rfl (Sub.nil _))))))))))))) (Sub.cons rfl (Sub.nil _)) ⟨by omega, HL⟩ ?_
      rintro m w6 ⟨hm9, HM⟩
      dsimp only [List.cons_append, List.nil_append]
      refine ay (ah (aU (dB rfl rfl) (aA (aj (ay (aP rfl (fun h5 => ?_) (fun h5 => ?_)))))))
      ·(try simp only [aG] at h5)
       refine aO (aj (ay (bf (ay (ah (aI rfl (aW rfl (aA (aj ?_)))))))))
       refine lT [(0, _), (1, _), (2, _), (3, _), (4, _), (11, _), (12, _), (13, _), (14, _), (15, _), (104, _), (105, _), (113, _), (114, _)] (fun (_ : Unit) => [(16, .bool (MG true n m place at_ r.2.2 r.1 r.2.1))]) (fun (_ : Unit) W => W = w6) (Sub.cons rfl (Sub.cons rfl (Sub.cons rfl (Sub.cons rfl (Sub.cons rfl (Sub.cons rfl (Sub.cons rfl (Sub.cons rfl (Sub.cons rfl (Sub.cons rfl (Sub.cons rfl (Sub.cons rfl (Sub.cons rfl (Sub.cons rfl (Sub.nil _))))))))))))))) ?_ ?_
       ·rintro _ w7 rfl
        dsimp only [List.cons_append, List.nil_append]
        refine ay (ah (aI rfl (aU (gQ rfl) (aI rfl (aZ (aZ (aZ (aZ (bT (bT (bT (bT (bT (bT (bT (bT (aZ (fC rfl rfl (aI rfl (aZ (aZ (aZ (bT (bT (bT (aZ (aZ (bT (bT (bT (bT (bT (bT (bT (bT (aZ (fC rfl rfl (aW rfl (aA ?_)))))))))))))))))))))))))))))))))))))))
        refine aj (ay (ah (aI rfl (iM rfl (fun h6 => ?_) (fun h6 => ?_)))))
        ·(try simp only [aG] at h6)
         have hah := h6
         refine aZ (fK rfl rfl (aI rfl (aY (aI rfl (aY (aI rfl (aY (aU (bY underlying22 sizeOf23 rfl rfl (by omega)) (aY ?_)))))))))
         refine aU (dZ (bU underlying23 rfl) rfl (by first | exact Rd.nZ (hv _ (HM)) (by omega) | exact Rd.AV (hv _ (HM)) (by omega) | exact Rd.zX (hv _ (HM)) (by omega))) ?_
         refine jQ (fun Wp Ie => ?_)
         refine aY (aI rfl (aY (aI rfl (aY (dH rfl func15 (nX HM (fun W HW => (by rw [Ie]; exact he _ (by omega) _ (HW))) (fun W HW => hp _ (HW))) ?_)))))
         rintro _ w9 ⟨rfl, H9⟩
         refine fK rfl rfl (aA (aj (aP rfl (fun h => by exfalso; (try simp only [aG] at h); have h9 := (Fp (at_ := at_) (back := true) z0 z1 z2 hnl (J5 h)).1; rw [hr] at h9; rw [h9] at hah; cases hah) (fun h7 => ?_))))
         (try simp only [aG] at h7)
         refine aO (aH (aj (ah (aU (dG rfl rfl (by omega)) (aI rfl (aA ?_))))))
         refine cO (m + 1) ?_ ?_ ?_ ?_
         ·exact (Sub.cons rfl (Sub.nil _))
         ·exact (Sub.cons rfl (Sub.cons rfl (Sub.cons rfl (Sub.cons rfl (Sub.cons rfl (Sub.cons rfl (Sub.cons rfl (Sub.cons rfl (Sub.cons rfl (Sub.cons rfl (Sub.cons rfl (Sub.cons rfl (Sub.nil _)))))))))))))
         ·(try dsimp only)
          first | done | exact ⟨by omega, H9⟩
         ·(try dsimp only); omega
        ·(try simp only [aG] at h6)
         refine aY (aI rfl (fC rfl rfl (aI rfl (aZ (aZ (aZ (aZ (aZ (aZ (aZ (fC rfl rfl (aA (aj (nY (aO (aH (aj (ah (aU (dG rfl rfl (by omega)) (aI rfl (aA ?_)))))))))))))))))))))
         refine cO (m + 1) ?_ ?_ ?_ ?_
         ·exact (Sub.cons rfl (Sub.nil _))
         ·exact (Sub.cons rfl (Sub.cons rfl (Sub.cons rfl (Sub.cons rfl (Sub.cons rfl (Sub.cons rfl (Sub.cons rfl (Sub.cons rfl (Sub.cons rfl (Sub.cons rfl (Sub.cons rfl (Sub.cons rfl (Sub.nil _)))))))))))))
         ·(try dsimp only)
          first | done | exact ⟨by omega, HM⟩
         ·(try dsimp only); omega
       ·skip
        refine ah (aI rfl (aI rfl (aY (aI rfl (aY (aI rfl (aY (aU (dB rfl rfl) (aY (iM rfl (fun h8 => ?_) (fun h8 => ?_)))))))))))
        ·(try simp only [aG] at h8)
         refine aZ (aZ (aZ (aZ (bT (bT (bT (aZ (aY (fK rfl rfl (fK rfl rfl (aI rfl (aY (aI rfl (aY (aU (gQ rfl) (aY (iM rfl (fun h9 => ?_) (fun h9 => ?_))))))))))))))))))
         ·(try simp only [aG] at h9)
          refine aZ (aZ (aZ (aY (fK rfl rfl (aY (aI rfl (aZ (aZ (aZ (aZ (bT (bT (bT (aZ (aY (fK rfl rfl (fK rfl rfl (aW rfl (aA ?_)))))))))))))))))))
          refine bF (()) ?_ ?_ ?_
          ·exact (Sub.dQ rfl (by unfold MG; first | (simp [*]; done) | (simp [*]; omega) | (simp_all; done) | (simp_all; omega)) (Sub.nil _))
          ·exact (Sub.cons rfl (Sub.cons rfl (Sub.cons rfl (Sub.cons rfl (Sub.cons rfl (Sub.cons rfl (Sub.cons rfl (Sub.cons rfl (Sub.cons rfl (Sub.cons rfl (Sub.cons rfl (Sub.cons rfl (Sub.cons rfl (Sub.cons rfl (Sub.nil _)))))))))))))))
          ·(try dsimp only)
           first | done | exact rfl
         ·(try simp only [aG] at h9)
          refine aY (aI rfl (aY (aI rfl (aY (aU (fB rfl rfl) (aY (fC rfl rfl (aY (iM rfl (fun h10 => ?_) (fun h10 => ?_))))))))))
          ·(try simp only [aG] at h10)
           refine aZ (aZ (aZ (aZ (bT (bT (bT (aZ (aY (fK rfl rfl (fK rfl rfl (aW rfl (aA ?_))))))))))))
           refine bF (()) ?_ ?_ ?_
           ·exact (Sub.dQ rfl (by unfold MG; first | (simp [*]; done) | (simp [*]; omega) | (simp_all; done) | (simp_all; omega)) (Sub.nil _))
           ·exact (Sub.cons rfl (Sub.cons rfl (Sub.cons rfl (Sub.cons rfl (Sub.cons rfl (Sub.cons rfl (Sub.cons rfl (Sub.cons rfl (Sub.cons rfl (Sub.cons rfl (Sub.cons rfl (Sub.cons rfl (Sub.cons rfl (Sub.cons rfl (Sub.nil _)))))))))))))))
           ·(try dsimp only)
            first | done | exact rfl
          ·(try simp only [aG] at h10)
           refine aY (aI rfl (aY (aI rfl (aY (aU (gU rfl rfl) (aY (iM rfl (fun h11 => ?_) (fun h11 => ?_))))))))
           ·(try simp only [aG] at h11)
            refine aY (aI rfl (aY (aI rfl (aY (aU (fB rfl rfl) (aY (fK rfl rfl (aY (fC rfl rfl (fK rfl rfl (aW rfl (aA ?_))))))))))))
            refine bF (()) ?_ ?_ ?_
            ·exact (Sub.dQ rfl (by unfold MG; first | (simp [*]; done) | (simp [*]; omega) | (simp_all; done) | (simp_all; omega)) (Sub.nil _))
            ·exact (Sub.cons rfl (Sub.cons rfl (Sub.cons rfl (Sub.cons rfl (Sub.cons rfl (Sub.cons rfl (Sub.cons rfl (Sub.cons rfl (Sub.cons rfl (Sub.cons rfl (Sub.cons rfl (Sub.cons rfl (Sub.cons rfl (Sub.cons rfl (Sub.nil _)))))))))))))))
            ·(try dsimp only)
             first | done | exact rfl
           ·(try simp only [aG] at h11)
            refine aZ (aZ (aZ (aY (fC rfl rfl (aY (fC rfl rfl (fK rfl rfl (aW rfl (aA ?_)))))))))
            refine bF (()) ?_ ?_ ?_
            ·exact (Sub.dQ rfl (by unfold MG; first | (simp [*]; done) | (simp [*]; omega) | (simp_all; done) | (simp_all; omega)) (Sub.nil _))
            ·exact (Sub.cons rfl (Sub.cons rfl (Sub.cons rfl (Sub.cons rfl (Sub.cons rfl (Sub.cons rfl (Sub.cons rfl (Sub.cons rfl (Sub.cons rfl (Sub.cons rfl (Sub.cons rfl (Sub.cons rfl (Sub.cons rfl (Sub.cons rfl (Sub.nil _)))))))))))))))
            ·(try dsimp only)
             first | done | exact rfl
        ·(try simp only [aG] at h8)
         refine aY (aI rfl (aY (aI rfl (aY (aU (gU rfl rfl) (aY (iM rfl (fun h12 => ?_) (fun h12 => ?_))))))))
         ·(try simp only [aG] at h12)
          refine aY (aI rfl (aY (aI rfl (aY (aU (qU rfl rfl) (aY (fK rfl rfl (aY (fC rfl rfl (fK rfl rfl (iM rfl (fun h13 => ?_) (fun h13 => ?_))))))))))))
          ·(try simp only [aG] at h13)
           refine aY (aI rfl (aY (aU (gQ rfl) (aY (iM rfl (fun h14 => ?_) (fun h14 => ?_))))))
           ·(try simp only [aG] at h14)
            refine aZ (aZ (aZ (aY (fK rfl rfl (aY (aI rfl (aZ (aZ (aZ (aZ (bT (bT (bT (aZ (aY (fK rfl rfl (fK rfl rfl (aW rfl (aA ?_)))))))))))))))))))
            refine bF (()) ?_ ?_ ?_
            ·exact (Sub.dQ rfl (by unfold MG; first | (simp [*]; done) | (simp [*]; omega) | (simp_all; done) | (simp_all; omega)) (Sub.nil _))
            ·exact (Sub.cons rfl (Sub.cons rfl (Sub.cons rfl (Sub.cons rfl (Sub.cons rfl (Sub.cons rfl (Sub.cons rfl (Sub.cons rfl (Sub.cons rfl (Sub.cons rfl (Sub.cons rfl (Sub.cons rfl (Sub.cons rfl (Sub.cons rfl (Sub.nil _)))))))))))))))
            ·(try dsimp only)
             first | done | exact rfl
           ·(try simp only [aG] at h14)
            refine aY (aI rfl (aY (aI rfl (aY (aU (fB rfl rfl) (aY (fC rfl rfl (aY (iM rfl (fun h15 => ?_) (fun h15 => ?_))))))))))
            ·(try simp only [aG] at h15)
             refine aZ (aZ (aZ (aZ (bT (bT (bT (aZ (aY (fK rfl rfl (fK rfl rfl (aW rfl (aA ?_))))))))))))
             refine bF (()) ?_ ?_ ?_
             ·exact (Sub.dQ rfl (by unfold MG; first | (simp [*]; done) | (simp [*]; omega) | (simp_all; done) | (simp_all; omega)) (Sub.nil _))
             ·exact (Sub.cons rfl (Sub.cons rfl (Sub.cons rfl (Sub.cons rfl (Sub.cons rfl (Sub.cons rfl (Sub.cons rfl (Sub.cons rfl (Sub.cons rfl (Sub.cons rfl (Sub.cons rfl (Sub.cons rfl (Sub.cons rfl (Sub.cons rfl (Sub.nil _)))))))))))))))
             ·(try dsimp only)
              first | done | exact rfl
            ·(try simp only [aG] at h15)
             refine aY (aI rfl (aY (aI rfl (aY (aU (gU rfl rfl) (aY (iM rfl (fun h16 => ?_) (fun h16 => ?_))))))))
             ·(try simp only [aG] at h16)
              refine aY (aI rfl (aY (aI rfl (aY (aU (fB rfl rfl) (aY (fK rfl rfl (aY (fC rfl rfl (fK rfl rfl (aW rfl (aA ?_))))))))))))
              refine bF (()) ?_ ?_ ?_
              ·exact (Sub.dQ rfl (by unfold MG; first | (simp [*]; done) | (simp [*]; omega) | (simp_all; done) | (simp_all; omega)) (Sub.nil _))
              ·exact (Sub.cons rfl (Sub.cons rfl (Sub.cons rfl (Sub.cons rfl (Sub.cons rfl (Sub.cons rfl (Sub.cons rfl (Sub.cons rfl (Sub.cons rfl (Sub.cons rfl (Sub.cons rfl (Sub.cons rfl (Sub.cons rfl (Sub.cons rfl (Sub.nil _)))))))))))))))
              ·(try dsimp only)
               first | done | exact rfl
             ·(try simp only [aG] at h16)
              refine aZ (aZ (aZ (aY (fC rfl rfl (aY (fC rfl rfl (fK rfl rfl (aW rfl (aA ?_)))))))))
              refine bF (()) ?_ ?_ ?_
              ·exact (Sub.dQ rfl (by unfold MG; first | (simp [*]; done) | (simp [*]; omega) | (simp_all; done) | (simp_all; omega)) (Sub.nil _))
              ·exact (Sub.cons rfl (Sub.cons rfl (Sub.cons rfl (Sub.cons rfl (Sub.cons rfl (Sub.cons rfl (Sub.cons rfl (Sub.cons rfl (Sub.cons rfl (Sub.cons rfl (Sub.cons rfl (Sub.cons rfl (Sub.cons rfl (Sub.cons rfl (Sub.nil _)))))))))))))))
              ·(try dsimp only)
               first | done | exact rfl
          ·(try simp only [aG] at h13)
           refine aZ (aZ (aZ (bT (bT (bT (aZ (aZ (bT (bT (bT (bT (bT (bT (bT (bT (aZ (fC rfl rfl (aW rfl (aA ?_)))))))))))))))))))
           refine bF (()) ?_ ?_ ?_
           ·exact (Sub.dQ rfl (by unfold MG; first | (simp [*]; done) | (simp [*]; omega) | (simp_all; done) | (simp_all; omega)) (Sub.nil _))
           ·exact (Sub.cons rfl (Sub.cons rfl (Sub.cons rfl (Sub.cons rfl (Sub.cons rfl (Sub.cons rfl (Sub.cons rfl (Sub.cons rfl (Sub.cons rfl (Sub.cons rfl (Sub.cons rfl (Sub.cons rfl (Sub.cons rfl (Sub.cons rfl (Sub.nil _)))))))))))))))
           ·(try dsimp only)
            first | done | exact rfl
         ·(try simp only [aG] at h12)
          refine aZ (aZ (aZ (aY (fC rfl rfl (aY (fC rfl rfl (fK rfl rfl (aI rfl (aZ (aZ (aZ (bT (bT (bT (aZ (aZ (bT (bT (bT (bT (bT (bT (bT (bT (aZ (fC rfl rfl (aW rfl (aA ?_))))))))))))))))))))))))))))
          refine bF (()) ?_ ?_ ?_
          ·exact (Sub.dQ rfl (by unfold MG; first | (simp [*]; done) | (simp [*]; omega) | (simp_all; done) | (simp_all; omega)) (Sub.nil _))
          ·exact (Sub.cons rfl (Sub.cons rfl (Sub.cons rfl (Sub.cons rfl (Sub.cons rfl (Sub.cons rfl (Sub.cons rfl (Sub.cons rfl (Sub.cons rfl (Sub.cons rfl (Sub.cons rfl (Sub.cons rfl (Sub.cons rfl (Sub.cons rfl (Sub.nil _)))))))))))))))
          ·(try dsimp only)
           first | done | exact rfl
      ·(try simp only [aG] at h5)
       refine dK (aV (aV (bD (aH (aj (ah (aU (dG rfl rfl (by omega)) (aI rfl (aA ?_)))))))))
       refine cO (n + 1) ?_ ?_ ?_ ?_
       ·exact (Sub.cons rfl (Sub.nil _))
       ·exact (Sub.cons rfl (Sub.cons rfl (Sub.cons rfl (Sub.cons rfl (Sub.cons rfl (Sub.cons rfl (Sub.cons rfl (Sub.cons rfl (Sub.cons rfl (Sub.nil _))))))))))
       ·(try dsimp only)
        first | done | exact ⟨by omega, HM⟩
       ·(try dsimp only); omega
     ·(try simp only [aG] at h4)
      refine dK (aV (aV (bD (aj (ay (ah (aW rfl (aA (aj (aK (aQ (.inl rfl) results4 rfl ?_)))))))))))
      exact ⟨rfl, HL.base⟩
 ·skip
  refine ay (ah (aI rfl (iM rfl (fun h17 => ?_) (fun h17 => ?_))))
  ·(try simp only [aG] at h17)
   refine aY (aI rfl (aY (aU (dB rfl rfl) (aY (iM rfl (fun h => by exfalso; (try simp only [aG] at h); have h9 := (hf (by assumption)).1; omega) (fun h18 => ?_))))))
   (try simp only [aG] at h18)
   refine aY (aI rfl (aY (aI rfl (aY (aU (eX (hv _ (H2)) underlying22 rfl) (aY (aU (o8 rfl rfl) (aY (fC rfl rfl (aY (iM rfl (fun h => by exfalso; (try simp only [aG] at h); have h9 := (hf (by assumption)).1; omega) (fun h19 => ?_))))))))))))
   (try simp only [aG] at h19)
   refine aY (aI rfl (aY (aI rfl (aY ?_))))
   obtain ⟨bv, ov, cv, ev⟩ := Rd.kV (hv _ (H2)) (by omega)
   cases ev
   refine aU (bY underlying22 sizeOf23 rfl rfl (by omega)) (aY ?_)
   refine aU (dZ (bU underlying23 rfl) rfl (by first | exact Rd.nZ (hv _ (H2)) (by omega) | exact Rd.AV (hv _ (H2)) (by omega) | exact Rd.zX (hv _ (H2)) (by omega))) ?_
   refine jQ (fun Wq Ig => ?_)
   refine aY (aI rfl (aY (aI rfl (aY (dH rfl func15 (nX H2 (fun W HW => (by rw [Ig]; exact he _ (by omega) _ (HW))) (fun W HW => hp _ (HW))) ?_)))))
   rintro _ Gq ⟨rfl, sD⟩
   refine aY (aU (gQ rfl) (aY (fC rfl rfl (aY (iM rfl (fun h => by exfalso; (try simp only [aG] at h); have h9 := (hf (by assumption)).2.1; simp_all) (fun h20 => ?_))))))
   (try simp only [aG] at h20)
   refine aY (aI rfl (aY (aI rfl (aY (aI rfl (aY (aI rfl (aY (aU (fB rfl rfl) (aY (iM rfl (fun h => by exfalso; (try simp only [aG] at h); have h9 := (hf (by assumption)).2.2.1 rfl; omega) (fun h21 => ?_))))))))))))
   (try simp only [aG] at h21)
   refine aY (aI rfl (aY (aI rfl (aY (aU (gU rfl rfl) (aY (iM rfl (fun h22 => ?_) (fun h22 => ?_))))))))
   ·(try simp only [aG] at h22)
    refine aY (aI rfl (aY (aI rfl (aY (aU (fB rfl rfl) (aY (fK rfl rfl (aY (fC rfl rfl (aY (fK rfl rfl (aY (fC rfl rfl (aY (iM rfl (fun h => by exfalso; (try simp only [aG] at h); have h9 := (hf (by assumption)).2.2.1 rfl; omega) (fun h23 => ?_))))))))))))))))
    (try simp only [aG] at h23)
    refine aY (aI rfl (aY (aU (gQ rfl) (aY (aI rfl (aZ (aZ (aZ (aZ (bT (bT (bT (bT (bT (bT (bT (bT (aZ (aY (fC rfl rfl (aY (fC rfl rfl (fK rfl rfl (aA (aj (nY (aO ?_)))))))))))))))))))))))))))
    refine bF (()) ?_ ?_ ?_
    ·exact (Sub.nil _)
    ·exact (Sub.cons rfl (Sub.cons rfl (Sub.cons rfl (Sub.cons rfl (Sub.cons rfl (Sub.cons rfl (Sub.cons rfl (Sub.cons rfl (Sub.nil _)))))))))
    ·(try dsimp only)
     first | done | exact sD
   ·(try simp only [aG] at h22)
    refine aZ (aZ (aZ (aY (fC rfl rfl (aY (fC rfl rfl (aY (fK rfl rfl (aY (fC rfl rfl (aY (aI rfl (aY (aI rfl (aY (aU (gQ rfl) (aY (aI rfl (aZ (aZ (aZ (aZ (bT (bT (bT (bT (bT (bT (bT (bT (aZ (aY (fC rfl rfl (aY (fC rfl rfl (fK rfl rfl (aA (aj (nY ?_)))))))))))))))))))))))))))))))))))))))
    refine aO ?_
    refine bF (()) ?_ ?_ ?_
    ·exact (Sub.nil _)
    ·exact (Sub.cons rfl (Sub.cons rfl (Sub.cons rfl (Sub.cons rfl (Sub.cons rfl (Sub.cons rfl (Sub.cons rfl (Sub.cons rfl (Sub.nil _)))))))))
    ·(try dsimp only)
     first | done | exact sD
  ·(try simp only [aG] at h17)
   refine aZ (aZ (aZ (bT (bT (bT (bT (aZ (aZ (bT (bT (bT (bT (bT (bT (bT (bT (aZ (aZ (bT (bT (bT (bT (bT (bT (bT (bT (bT (bT (bT (bT (bT (bT (bT (bT (aZ (aZ (bT (bT (bT ?_)))))))))))))))))))))))))))))))))))))))
   refine bT (bT (bT (bT (bT (bT (bT (bT (bT (bT (bT (bT (bT (bT (aZ (fC rfl rfl (aA (aj (nY (aO ?_)))))))))))))))))))
   refine bF (()) ?_ ?_ ?_
   ·exact (Sub.nil _)
   ·exact (Sub.cons rfl (Sub.cons rfl (Sub.cons rfl (Sub.cons rfl (Sub.cons rfl (Sub.cons rfl (Sub.cons rfl (Sub.cons rfl (Sub.nil _)))))))))
   ·(try dsimp only)
    first | done | exact H2
theorem Cj {w : World} {v rv : Value} {us : List Value} {ls : List (List Int)} {p : List Int} {place at_ : Int} (hT : rZ w) (g1 : Rd w 1 v ls.length us) (g2 : ∀ k, k < ls.length → jc w .i32 (us.getD k undef) (ls.getD k [])) (g3 : jc w .i32 rv p)
  (hb8 : ls.length ≤ 4611686018427387904) (RH : ∀ k, k < ls.length → (ls.getD k []).length ≤ 4611686018427387904) :
  gG prog 4 #[v, .int .i64 place, .int .i64 at_, rv, .bool false] w fun v w' => v = .bool true ∧ Below w.heap.size w w' := by
 obtain ⟨F, H⟩ : ∃ F, aB w w F := ⟨_, aB.start w⟩
 have hv : EL w F 1 v ls.length us := EL.qY g1 F
 have he : ∀ k, k < ls.length → iG w F .i32 (us.getD k undef) (ls.getD k []) := fun k hk => iG.qY (g2 k hk) F
 have hp : iG w F .i32 rv p := iG.qY g3 F
 obtain ⟨r, hr⟩ : ∃ r, fH ls place at_ p false = r := ⟨_, rfl⟩
 have hf := fun h => IQ (ls := ls) (place := place) (at_ := at_) (p := p) (back := false) h
 rw [hr] at hf
 refine iF func4 ntmps4 ?_
 dsimp only [bg, Nat.reduceAdd]
 refine ay (ah (aW rfl (aA (aj (ay (ay (ah (dH rfl func9 (F8 H hT) ?_))))))))
 rintro _ w1 ⟨rfl, H1⟩
 refine aU (gQ rfl) (aA (aj (nY (aO (aj (ay (ah (aI rfl (aI rfl (aI rfl (aI rfl (aI rfl (dH rfl func7 (wQ H1 hv he hp hb8 RH) ?_)))))))))))))
 rintro _ w2 ⟨rfl, H2⟩
 rw [hr]
 refine aI rfl (wU rfl rfl (wU rfl rfl (wU rfl rfl (aW rfl (aW rfl (aW rfl (aA (aj ?_))))))))
 refine lT [(0, _), (1, _), (2, _), (3, _), (4, _), (11, _), (12, _), (13, _)] (fun (_ : Unit) => []) (fun (_ : Unit) W => aB w W F) (Sub.cons rfl (Sub.cons rfl (Sub.cons rfl (Sub.cons rfl (Sub.cons rfl (Sub.cons rfl (Sub.cons rfl (Sub.cons rfl (Sub.nil _))))))))) ?_ ?_
 ·rintro _ w3 HQ
  dsimp only [List.cons_append, List.nil_append]
  refine ay (ay (ah (aI rfl (aU (dB rfl rfl) (iM rfl (fun h1 => ?_) (fun h1 => ?_))))))
  ·(try simp only [aG] at h1)
   refine aZ (aZ (aZ (aZ (fK rfl rfl (aI rfl (aZ (aZ (aZ (fK rfl rfl (aA (aj (zM (ay (ah (aI rfl (aU (gQ rfl) (aW rfl (aA (aj (aK (aN (aQ (.inl rfl) results4 rfl ?_))))))))))))))))))))))
   have h9 : r.2.2 = false := by rw [← hr]; exact rF (by omega)
   exact ⟨by rw [h9]; rfl, HQ.base⟩
  ·(try simp only [aG] at h1)
   refine aY (aI rfl (aY (aI rfl (aY (aU (eX (hv _ (HQ)) underlying22 rfl) (aY (aU (o8 rfl rfl) (fC rfl rfl (iM rfl (fun h2 => ?_) (fun h2 => ?_))))))))))
   ·(try simp only [aG] at h2)
    refine aZ (aZ (aZ (fK rfl rfl (aA (aj (zM (ay (ah (aI rfl (aU (gQ rfl) (aW rfl (aA (aj (aK (aN (aQ (.inl rfl) results4 rfl ?_))))))))))))))))
    have h9 : r.2.2 = false := by rw [← hr]; exact rF (by omega)
    exact ⟨by rw [h9]; rfl, HQ.base⟩
   ·(try simp only [aG] at h2)
    refine aY (aI rfl (aY (aU (eG (hp _ (HQ)) underlying23 rfl) (aY (aU (gU rfl rfl) (fC rfl rfl (aA (aj (aP rfl (fun h3 => ?_) (fun h3 => ?_))))))))))
    ·(try simp only [aG] at h3)
     refine ay (ah (aI rfl (aU (gQ rfl) (aW rfl (aA (aj (aK (aN (aQ (.inl rfl) results4 rfl ?_)))))))))
     have h9 : r.2.2 = false := by rw [← hr]; exact rF (by omega)
     exact ⟨by rw [h9]; rfl, HQ.base⟩
    ·(try simp only [aG] at h3)
     have h99 := h3
     have z0 : ¬ place < 0 := by omega
     have z1 : ¬ (ls.length : Int) ≤ place := by omega
     have z2 : ¬ p.length = 0 := by omega
     refine aO (aj (ay (ay (ah (aI rfl (aU (eX (hv _ (HQ)) underlying22 rfl) (aI rfl (aA (aj (bf ?_))))))))))
     refine eP [(0, _), (1, _), (2, _), (3, _), (4, _), (11, _), (12, _), (13, _), (104, _)] (fun (n : Nat) => [(105, .int .i64 (n : Int))]) (fun (n : Nat) W => n ≤ ls.length ∧ aB w W F) (fun (n : Nat) => ls.length - n) (0) (Sub.cons rfl (Sub.cons rfl (Sub.cons rfl (Sub.cons rfl (Sub.cons rfl (Sub.cons rfl (Sub.cons rfl (Sub.cons rfl (Sub.cons rfl (Sub.nil _)))))))))) (Sub.cons rfl (Sub.nil _)) ⟨by omega, HQ⟩ ?_
     rintro n w4 ⟨hn9, HL⟩
     dsimp only [List.cons_append, List.nil_append]
     refine ay (ah (aU (dB rfl rfl) (aA (aj (ay (aP rfl (fun h4 => ?_) (fun h4 => ?_)))))))
     ·(try simp only [aG] at h4)
      refine aO (aj (ay (bf (ay (ah (aI rfl (aW rfl (aA (aj (ay ?_))))))))))
      have hnl : n < ls.length := by omega
      have hbn := RH n hnl
      refine ah (aI rfl (aI rfl ?_))
      obtain ⟨bv, ov, cv, ev⟩ := Rd.kV (hv _ (HL)) (by omega)
      cases ev
      refine aU (bY underlying22 sizeOf23 rfl rfl (by omega)) ?_
      refine aU (dZ (bU underlying23 rfl) rfl (by first | exact Rd.nZ (hv _ (HL)) (by omega) | exact Rd.AV (hv _ (HL)) (by omega) | exact Rd.zX (hv _ (HL)) (by omega))) ?_
      refine jQ (fun Wn Ic => ?_)
      refine aU (eG ((by rw [Ic]; exact he _ (by omega) _ (HL))) underlying23 rfl) ?_
      refine aU (dG rfl rfl (by omega)) (aI rfl (aA (aj (bf ?_))))
      refine eP [(0, _), (1, _), (2, _), (3, _), (4, _), (11, _), (12, _), (13, _), (14, _), (104, _), (105, _), (113, _)] (fun (m : Nat) => [(114, .int .i64 (m : Int))]) (fun (m : Nat) W => m ≤ (ls.getD n []).length + 1 ∧ aB w W F) (fun (m : Nat) => (ls.getD n []).length + 1 - m) (0) (Sub.cons rfl (Sub.cons rfl (Sub.cons rfl (Sub.cons rfl (Sub.cons rfl (Sub.cons rfl (Sub.cons rfl (Sub.cons rfl (Sub.cons rfl (Sub.cons rfl (Sub.cons rfl (Sub.cons rfl (Sub.nil _))))))))))))) (Sub.cons rfl (Sub.nil _)) ⟨by omega, HL⟩ ?_
      rintro m w6 ⟨hm9, HM⟩
      dsimp only [List.cons_append, List.nil_append]
      refine ay (ah (aU (dB rfl rfl) (aA (aj (ay (aP rfl (fun h5 => ?_) (fun h5 => ?_)))))))
      ·(try simp only [aG] at h5)
       refine aO (aj (ay (bf (ay (ah (aI rfl (aW rfl (aA (aj (ay (ah (aI rfl (aI rfl (aZ (aZ (aZ (aZ (bT (bT (bT (bT (bT (bT (bT (bT (aZ (fC rfl rfl (aI rfl (aZ (aZ (aZ (bT (bT (bT (aZ (aZ (bT (bT (bT ?_)))))))))))))))))))))))))))))))))))))))
       refine bT (bT (bT (bT (bT (aZ (fC rfl rfl (aW rfl (aA (aj ?_)))))))))
       refine lT [(0, _), (1, _), (2, _), (3, _), (4, _), (11, _), (12, _), (13, _), (14, _), (15, _), (16, _), (104, _), (105, _), (113, _), (114, _), (119, _), (120, _), (121, _), (122, _), (123, _), (124, _), (125, _), (126, _), (127, _), (128, _), (129, _), (130, _), (131, _), (134, _), (135, _), (136, _), (137, _), (138, _), (139, _), (140, _), (141, _), (142, _), (143, _), (144, _), (145, _), (146, _), (147, _), (148, _), (149, _), (150, _)] (fun (_ : Unit) => [(17, .bool (MH false n m place at_ r.2.2 r.1 r.2.1))]) (fun (_ : Unit) W => W = w6) (Sub.cons rfl (Sub.cons rfl (Sub.cons rfl (Sub.cons rfl (Sub.cons rfl (Sub.cons rfl (Sub.cons rfl (Sub.cons rfl (Sub.cons rfl (Sub.cons rfl (Sub.cons rfl (Sub.cons rfl (Sub.cons rfl (Sub.cons rfl (Sub.cons rfl (Sub.cons rfl (Sub.cons rfl (Sub.cons rfl (Sub.cons rfl (Sub.cons rfl (Sub.cons rfl (Sub.cons rfl (Sub.cons rfl (Sub.cons rfl (Sub.cons rfl (Sub.cons rfl (Sub.cons rfl (Sub.cons rfl (Sub.cons rfl (Sub.cons rfl (Sub.cons rfl (Sub.cons rfl (Sub.cons rfl (Sub.cons rfl (Sub.cons rfl (Sub.cons rfl (Sub.cons rfl (Sub.cons rfl (Sub.cons rfl (Sub.cons rfl (Sub.cons rfl (Sub.cons rfl (Sub.cons rfl (Sub.cons rfl (Sub.cons rfl (Sub.nil _)))))))))))))))))))))))))))))))))))))))))))))) ?_ ?_
       ·rintro _ w7 rfl
        dsimp only [List.cons_append, List.nil_append]
        refine ay (ah (aI rfl (aI rfl (aY (aI rfl (fC rfl rfl (iM rfl (fun h6 => ?_) (fun h6 => ?_))))))))
        ·(try simp only [aG] at h6)
         have hah := h6
         refine aY (aI rfl (aY (aI rfl (aY (aU (bY underlying22 sizeOf23 rfl rfl (by omega)) (aY ?_))))))
         refine aU (dZ (bU underlying23 rfl) rfl (by first | exact Rd.nZ (hv _ (HM)) (by omega) | exact Rd.AV (hv _ (HM)) (by omega) | exact Rd.zX (hv _ (HM)) (by omega))) ?_
         refine jQ (fun Wp Ie => ?_)
         refine aY (aI rfl (aY (aI rfl (aY (dH rfl func15 (nX HM (fun W HW => (by rw [Ie]; exact he _ (by omega) _ (HW))) (fun W HW => hp _ (HW))) ?_)))))
         rintro _ w9 ⟨rfl, H9⟩
         refine fK rfl rfl (aA (aj (aP rfl (fun h => by exfalso; (try simp only [aG] at h); have h9 := (Fp (at_ := at_) (back := false) z0 z1 z2 hnl (J5 h)).2; rw [hr] at h9; rw [h9] at hah; cases hah) (fun h7 => ?_))))
         (try simp only [aG] at h7)
         refine aO (aH (aj (ah (aU (dG rfl rfl (by omega)) (aI rfl (aA ?_))))))
         refine cO (m + 1) ?_ ?_ ?_ ?_
         ·exact (Sub.cons rfl (Sub.nil _))
         ·exact (Sub.cons rfl (Sub.cons rfl (Sub.cons rfl (Sub.cons rfl (Sub.cons rfl (Sub.cons rfl (Sub.cons rfl (Sub.cons rfl (Sub.cons rfl (Sub.cons rfl (Sub.cons rfl (Sub.cons rfl (Sub.nil _)))))))))))))
         ·(try dsimp only)
          first | done | exact ⟨by omega, H9⟩
         ·(try dsimp only); omega
        ·(try simp only [aG] at h6)
         refine aZ (aZ (aZ (aZ (aZ (aZ (aZ (fC rfl rfl (aA (aj (nY (aO (aH (aj (ah (aU (dG rfl rfl (by omega)) (aI rfl (aA ?_)))))))))))))))))
         refine cO (m + 1) ?_ ?_ ?_ ?_
         ·exact (Sub.cons rfl (Sub.nil _))
         ·exact (Sub.cons rfl (Sub.cons rfl (Sub.cons rfl (Sub.cons rfl (Sub.cons rfl (Sub.cons rfl (Sub.cons rfl (Sub.cons rfl (Sub.cons rfl (Sub.cons rfl (Sub.cons rfl (Sub.cons rfl (Sub.nil _)))))))))))))
         ·(try dsimp only)
          first | done | exact ⟨by omega, HM⟩
         ·(try dsimp only); omega
       ·skip
        refine ah (aI rfl (aU (gQ rfl) (aI rfl (aY (aI rfl (aY (aI rfl (aY (aU (fB rfl rfl) (aY (iM rfl (fun h8 => ?_) (fun h8 => ?_))))))))))))
        ·(try simp only [aG] at h8)
         refine aZ (aZ (aZ (aZ (bT (bT (bT (aZ (aY (fK rfl rfl (fK rfl rfl (aI rfl (aY (aI rfl (aY (aU (gQ rfl) (aY (iM rfl (fun h9 => ?_) (fun h9 => ?_))))))))))))))))))
         ·(try simp only [aG] at h9)
          refine aZ (aZ (aZ (aY (fK rfl rfl (aY (aI rfl (aZ (aZ (aZ (aZ (bT (bT (bT (aZ (aY (fK rfl rfl (fK rfl rfl (aW rfl (aA ?_)))))))))))))))))))
          refine bF (()) ?_ ?_ ?_
          ·exact (Sub.dQ rfl (by unfold MH; first | (simp [*]; done) | (simp [*]; omega) | (simp_all; done) | (simp_all; omega)) (Sub.nil _))
          ·exact (Sub.cons rfl (Sub.cons rfl (Sub.cons rfl (Sub.cons rfl (Sub.cons rfl (Sub.cons rfl (Sub.cons rfl (Sub.cons rfl (Sub.cons rfl (Sub.cons rfl (Sub.cons rfl (Sub.cons rfl (Sub.cons rfl (Sub.cons rfl (Sub.cons rfl (Sub.cons rfl (Sub.cons rfl (Sub.cons rfl (Sub.cons rfl (Sub.cons rfl (Sub.cons rfl (Sub.cons rfl (Sub.cons rfl (Sub.cons rfl (Sub.cons rfl (Sub.cons rfl (Sub.cons rfl (Sub.cons rfl (Sub.cons rfl (Sub.cons rfl (Sub.cons rfl (Sub.cons rfl (Sub.cons rfl (Sub.cons rfl (Sub.cons rfl (Sub.cons rfl (Sub.cons rfl (Sub.cons rfl (Sub.cons rfl (Sub.cons rfl (Sub.cons rfl (Sub.cons rfl (Sub.cons rfl (Sub.cons rfl (Sub.cons rfl (Sub.nil _))))))))))))))))))))))))))))))))))))))))))))))
          ·(try dsimp only)
           first | done | exact rfl
         ·(try simp only [aG] at h9)
          refine aY (aI rfl (aY (aI rfl (aY (aU (dB rfl rfl) (aY (fC rfl rfl (aY (iM rfl (fun h10 => ?_) (fun h10 => ?_))))))))))
          ·(try simp only [aG] at h10)
           refine aZ (aZ (aZ (aZ (bT (bT (bT (aZ (aY (fK rfl rfl (fK rfl rfl (aW rfl (aA ?_))))))))))))
           refine bF (()) ?_ ?_ ?_
           ·exact (Sub.dQ rfl (by unfold MH; first | (simp [*]; done) | (simp [*]; omega) | (simp_all; done) | (simp_all; omega)) (Sub.nil _))
           ·exact (Sub.cons rfl (Sub.cons rfl (Sub.cons rfl (Sub.cons rfl (Sub.cons rfl (Sub.cons rfl (Sub.cons rfl (Sub.cons rfl (Sub.cons rfl (Sub.cons rfl (Sub.cons rfl (Sub.cons rfl (Sub.cons rfl (Sub.cons rfl (Sub.cons rfl (Sub.cons rfl (Sub.cons rfl (Sub.cons rfl (Sub.cons rfl (Sub.cons rfl (Sub.cons rfl (Sub.cons rfl (Sub.cons rfl (Sub.cons rfl (Sub.cons rfl (Sub.cons rfl (Sub.cons rfl (Sub.cons rfl (Sub.cons rfl (Sub.cons rfl (Sub.cons rfl (Sub.cons rfl (Sub.cons rfl (Sub.cons rfl (Sub.cons rfl (Sub.cons rfl (Sub.cons rfl (Sub.cons rfl (Sub.cons rfl (Sub.cons rfl (Sub.cons rfl (Sub.cons rfl (Sub.cons rfl (Sub.cons rfl (Sub.cons rfl (Sub.nil _))))))))))))))))))))))))))))))))))))))))))))))
           ·(try dsimp only)
            first | done | exact rfl
          ·(try simp only [aG] at h10)
           refine aY (aI rfl (aY (aI rfl (aY (aU (gU rfl rfl) (aY (iM rfl (fun h11 => ?_) (fun h11 => ?_))))))))
           ·(try simp only [aG] at h11)
            refine aY (aI rfl (aY (aI rfl (aY (aU (dB rfl rfl) (aY (fK rfl rfl (aY (fC rfl rfl (fK rfl rfl (aW rfl (aA ?_))))))))))))
            refine bF (()) ?_ ?_ ?_
            ·exact (Sub.dQ rfl (by unfold MH; first | (simp [*]; done) | (simp [*]; omega) | (simp_all; done) | (simp_all; omega)) (Sub.nil _))
            ·exact (Sub.cons rfl (Sub.cons rfl (Sub.cons rfl (Sub.cons rfl (Sub.cons rfl (Sub.cons rfl (Sub.cons rfl (Sub.cons rfl (Sub.cons rfl (Sub.cons rfl (Sub.cons rfl (Sub.cons rfl (Sub.cons rfl (Sub.cons rfl (Sub.cons rfl (Sub.cons rfl (Sub.cons rfl (Sub.cons rfl (Sub.cons rfl (Sub.cons rfl (Sub.cons rfl (Sub.cons rfl (Sub.cons rfl (Sub.cons rfl (Sub.cons rfl (Sub.cons rfl (Sub.cons rfl (Sub.cons rfl (Sub.cons rfl (Sub.cons rfl (Sub.cons rfl (Sub.cons rfl (Sub.cons rfl (Sub.cons rfl (Sub.cons rfl (Sub.cons rfl (Sub.cons rfl (Sub.cons rfl (Sub.cons rfl (Sub.cons rfl (Sub.cons rfl (Sub.cons rfl (Sub.cons rfl (Sub.cons rfl (Sub.cons rfl (Sub.nil _))))))))))))))))))))))))))))))))))))))))))))))
            ·(try dsimp only)
             first | done | exact rfl
           ·(try simp only [aG] at h11)
            refine aZ (aZ (aZ (aY (fC rfl rfl (aY (fC rfl rfl (fK rfl rfl (aW rfl (aA ?_)))))))))
            refine bF (()) ?_ ?_ ?_
            ·exact (Sub.dQ rfl (by unfold MH; first | (simp [*]; done) | (simp [*]; omega) | (simp_all; done) | (simp_all; omega)) (Sub.nil _))
            ·exact (Sub.cons rfl (Sub.cons rfl (Sub.cons rfl (Sub.cons rfl (Sub.cons rfl (Sub.cons rfl (Sub.cons rfl (Sub.cons rfl (Sub.cons rfl (Sub.cons rfl (Sub.cons rfl (Sub.cons rfl (Sub.cons rfl (Sub.cons rfl (Sub.cons rfl (Sub.cons rfl (Sub.cons rfl (Sub.cons rfl (Sub.cons rfl (Sub.cons rfl (Sub.cons rfl (Sub.cons rfl (Sub.cons rfl (Sub.cons rfl (Sub.cons rfl (Sub.cons rfl (Sub.cons rfl (Sub.cons rfl (Sub.cons rfl (Sub.cons rfl (Sub.cons rfl (Sub.cons rfl (Sub.cons rfl (Sub.cons rfl (Sub.cons rfl (Sub.cons rfl (Sub.cons rfl (Sub.cons rfl (Sub.cons rfl (Sub.cons rfl (Sub.cons rfl (Sub.cons rfl (Sub.cons rfl (Sub.cons rfl (Sub.cons rfl (Sub.nil _))))))))))))))))))))))))))))))))))))))))))))))
            ·(try dsimp only)
             first | done | exact rfl
        ·(try simp only [aG] at h8)
         refine aY (aI rfl (aY (aI rfl (aY (aU (gU rfl rfl) (aY (iM rfl (fun h12 => ?_) (fun h12 => ?_))))))))
         ·(try simp only [aG] at h12)
          refine aY (aI rfl (aY (aI rfl (aY (aU (o8 rfl rfl) (aY (fK rfl rfl (aY (fC rfl rfl (fK rfl rfl (iM rfl (fun h13 => ?_) (fun h13 => ?_))))))))))))
          ·(try simp only [aG] at h13)
           refine aY (aI rfl (aY (aU (gQ rfl) (aY (iM rfl (fun h14 => ?_) (fun h14 => ?_))))))
           ·(try simp only [aG] at h14)
            refine aZ (aZ (aZ (aY (fK rfl rfl (aY (aI rfl (aZ (aZ (aZ (aZ (bT (bT (bT (aZ (aY (fK rfl rfl (fK rfl rfl (aW rfl (aA ?_)))))))))))))))))))
            refine bF (()) ?_ ?_ ?_
            ·exact (Sub.dQ rfl (by unfold MH; first | (simp [*]; done) | (simp [*]; omega) | (simp_all; done) | (simp_all; omega)) (Sub.nil _))
            ·exact (Sub.cons rfl (Sub.cons rfl (Sub.cons rfl (Sub.cons rfl (Sub.cons rfl (Sub.cons rfl (Sub.cons rfl (Sub.cons rfl (Sub.cons rfl (Sub.cons rfl (Sub.cons rfl (Sub.cons rfl (Sub.cons rfl (Sub.cons rfl (Sub.cons rfl (Sub.cons rfl (Sub.cons rfl (Sub.cons rfl (Sub.cons rfl (Sub.cons rfl (Sub.cons rfl (Sub.cons rfl (Sub.cons rfl (Sub.cons rfl (Sub.cons rfl (Sub.cons rfl (Sub.cons rfl (Sub.cons rfl (Sub.cons rfl (Sub.cons rfl (Sub.cons rfl (Sub.cons rfl (Sub.cons rfl (Sub.cons rfl (Sub.cons rfl (Sub.cons rfl (Sub.cons rfl (Sub.cons rfl (Sub.cons rfl (Sub.cons rfl (Sub.cons rfl (Sub.cons rfl (Sub.cons rfl (Sub.cons rfl (Sub.cons rfl (Sub.nil _))))))))))))))))))))))))))))))))))))))))))))))
            ·(try dsimp only)
             first | done | exact rfl
           ·(try simp only [aG] at h14)
            refine aY (aI rfl (aY (aI rfl (aY (aU (dB rfl rfl) (aY (fC rfl rfl (aY (iM rfl (fun h15 => ?_) (fun h15 => ?_))))))))))
            ·(try simp only [aG] at h15)
             refine aZ (aZ (aZ (aZ (bT (bT (bT (aZ (aY (fK rfl rfl (fK rfl rfl (aW rfl (aA ?_))))))))))))
             refine bF (()) ?_ ?_ ?_
             ·exact (Sub.dQ rfl (by unfold MH; first | (simp [*]; done) | (simp [*]; omega) | (simp_all; done) | (simp_all; omega)) (Sub.nil _))
             ·exact (Sub.cons rfl (Sub.cons rfl (Sub.cons rfl (Sub.cons rfl (Sub.cons rfl (Sub.cons rfl (Sub.cons rfl (Sub.cons rfl (Sub.cons rfl (Sub.cons rfl (Sub.cons rfl (Sub.cons rfl (Sub.cons rfl (Sub.cons rfl (Sub.cons rfl (Sub.cons rfl (Sub.cons rfl (Sub.cons rfl (Sub.cons rfl (Sub.cons rfl (Sub.cons rfl (Sub.cons rfl (Sub.cons rfl (Sub.cons rfl (Sub.cons rfl (Sub.cons rfl (Sub.cons rfl (Sub.cons rfl (Sub.cons rfl (Sub.cons rfl (Sub.cons rfl (Sub.cons rfl (Sub.cons rfl (Sub.cons rfl (Sub.cons rfl (Sub.cons rfl (Sub.cons rfl (Sub.cons rfl (Sub.cons rfl (Sub.cons rfl (Sub.cons rfl (Sub.cons rfl (Sub.cons rfl (Sub.cons rfl (Sub.cons rfl (Sub.nil _))))))))))))))))))))))))))))))))))))))))))))))
             ·(try dsimp only)
              first | done | exact rfl
            ·(try simp only [aG] at h15)
             refine aY (aI rfl (aY (aI rfl (aY (aU (gU rfl rfl) (aY (iM rfl (fun h16 => ?_) (fun h16 => ?_))))))))
             ·(try simp only [aG] at h16)
              refine aY (aI rfl (aY (aI rfl (aY (aU (dB rfl rfl) (aY (fK rfl rfl (aY (fC rfl rfl (fK rfl rfl (aW rfl (aA ?_))))))))))))
              refine bF (()) ?_ ?_ ?_
              ·exact (Sub.dQ rfl (by unfold MH; first | (simp [*]; done) | (simp [*]; omega) | (simp_all; done) | (simp_all; omega)) (Sub.nil _))
              ·exact (Sub.cons rfl (Sub.cons rfl (Sub.cons rfl (Sub.cons rfl (Sub.cons rfl (Sub.cons rfl (Sub.cons rfl (Sub.cons rfl (Sub.cons rfl (Sub.cons rfl (Sub.cons rfl (Sub.cons rfl (Sub.cons rfl (Sub.cons rfl (Sub.cons rfl (Sub.cons rfl (Sub.cons rfl (Sub.cons rfl (Sub.cons rfl (Sub.cons rfl (Sub.cons rfl (Sub.cons rfl (Sub.cons rfl (Sub.cons rfl (Sub.cons rfl (Sub.cons rfl (Sub.cons rfl (Sub.cons rfl (Sub.cons rfl (Sub.cons rfl (Sub.cons rfl (Sub.cons rfl (Sub.cons rfl (Sub.cons rfl (Sub.cons rfl (Sub.cons rfl (Sub.cons rfl (Sub.cons rfl (Sub.cons rfl (Sub.cons rfl (Sub.cons rfl (Sub.cons rfl (Sub.cons rfl (Sub.cons rfl (Sub.cons rfl (Sub.nil _))))))))))))))))))))))))))))))))))))))))))))))
              ·(try dsimp only)
               first | done | exact rfl
             ·(try simp only [aG] at h16)
              refine aZ (aZ (aZ (aY (fC rfl rfl (aY (fC rfl rfl (fK rfl rfl (aW rfl (aA ?_)))))))))
              refine bF (()) ?_ ?_ ?_
              ·exact (Sub.dQ rfl (by unfold MH; first | (simp [*]; done) | (simp [*]; omega) | (simp_all; done) | (simp_all; omega)) (Sub.nil _))
              ·exact (Sub.cons rfl (Sub.cons rfl (Sub.cons rfl (Sub.cons rfl (Sub.cons rfl (Sub.cons rfl (Sub.cons rfl (Sub.cons rfl (Sub.cons rfl (Sub.cons rfl (Sub.cons rfl (Sub.cons rfl (Sub.cons rfl (Sub.cons rfl (Sub.cons rfl (Sub.cons rfl (Sub.cons rfl (Sub.cons rfl (Sub.cons rfl (Sub.cons rfl (Sub.cons rfl (Sub.cons rfl (Sub.cons rfl (Sub.cons rfl (Sub.cons rfl (Sub.cons rfl (Sub.cons rfl (Sub.cons rfl (Sub.cons rfl (Sub.cons rfl (Sub.cons rfl (Sub.cons rfl (Sub.cons rfl (Sub.cons rfl (Sub.cons rfl (Sub.cons rfl (Sub.cons rfl (Sub.cons rfl (Sub.cons rfl (Sub.cons rfl (Sub.cons rfl (Sub.cons rfl (Sub.cons rfl (Sub.cons rfl (Sub.cons rfl (Sub.nil _))))))))))))))))))))))))))))))))))))))))))))))
              ·(try dsimp only)
               first | done | exact rfl
          ·(try simp only [aG] at h13)
           refine aZ (aZ (aZ (bT (bT (bT (aZ (aZ (bT (bT (bT (bT (bT (bT (bT (bT (aZ (fC rfl rfl (aW rfl (aA ?_)))))))))))))))))))
           refine bF (()) ?_ ?_ ?_
           ·exact (Sub.dQ rfl (by unfold MH; first | (simp [*]; done) | (simp [*]; omega) | (simp_all; done) | (simp_all; omega)) (Sub.nil _))
           ·exact (Sub.cons rfl (Sub.cons rfl (Sub.cons rfl (Sub.cons rfl (Sub.cons rfl (Sub.cons rfl (Sub.cons rfl (Sub.cons rfl (Sub.cons rfl (Sub.cons rfl (Sub.cons rfl (Sub.cons rfl (Sub.cons rfl (Sub.cons rfl (Sub.cons rfl (Sub.cons rfl (Sub.cons rfl (Sub.cons rfl (Sub.cons rfl (Sub.cons rfl (Sub.cons rfl (Sub.cons rfl (Sub.cons rfl (Sub.cons rfl (Sub.cons rfl (Sub.cons rfl (Sub.cons rfl (Sub.cons rfl (Sub.cons rfl (Sub.cons rfl (Sub.cons rfl (Sub.cons rfl (Sub.cons rfl (Sub.cons rfl (Sub.cons rfl (Sub.cons rfl (Sub.cons rfl (Sub.cons rfl (Sub.cons rfl (Sub.cons rfl (Sub.cons rfl (Sub.cons rfl (Sub.cons rfl (Sub.cons rfl (Sub.cons rfl (Sub.nil _))))))))))))))))))))))))))))))))))))))))))))))
           ·(try dsimp only)
            first | done | exact rfl
         ·(try simp only [aG] at h12)
          refine aZ (aZ (aZ (aY (fC rfl rfl (aY (fC rfl rfl (fK rfl rfl (aI rfl (aZ (aZ (aZ (bT (bT (bT (aZ (aZ (bT (bT (bT (bT (bT (bT (bT (bT (aZ (fC rfl rfl (aW rfl (aA ?_))))))))))))))))))))))))))))
          refine bF (()) ?_ ?_ ?_
          ·exact (Sub.dQ rfl (by unfold MH; first | (simp [*]; done) | (simp [*]; omega) | (simp_all; done) | (simp_all; omega)) (Sub.nil _))
          ·exact (Sub.cons rfl (Sub.cons rfl (Sub.cons rfl (Sub.cons rfl (Sub.cons rfl (Sub.cons rfl (Sub.cons rfl (Sub.cons rfl (Sub.cons rfl (Sub.cons rfl (Sub.cons rfl (Sub.cons rfl (Sub.cons rfl (Sub.cons rfl (Sub.cons rfl (Sub.cons rfl (Sub.cons rfl (Sub.cons rfl (Sub.cons rfl (Sub.cons rfl (Sub.cons rfl (Sub.cons rfl (Sub.cons rfl (Sub.cons rfl (Sub.cons rfl (Sub.cons rfl (Sub.cons rfl (Sub.cons rfl (Sub.cons rfl (Sub.cons rfl (Sub.cons rfl (Sub.cons rfl (Sub.cons rfl (Sub.cons rfl (Sub.cons rfl (Sub.cons rfl (Sub.cons rfl (Sub.cons rfl (Sub.cons rfl (Sub.cons rfl (Sub.cons rfl (Sub.cons rfl (Sub.cons rfl (Sub.cons rfl (Sub.cons rfl (Sub.nil _))))))))))))))))))))))))))))))))))))))))))))))
          ·(try dsimp only)
           first | done | exact rfl
      ·(try simp only [aG] at h5)
       refine dK (aV (aV (bD (aH (aj (ah (aU (dG rfl rfl (by omega)) (aI rfl (aA ?_)))))))))
       refine cO (n + 1) ?_ ?_ ?_ ?_
       ·exact (Sub.cons rfl (Sub.nil _))
       ·exact (Sub.cons rfl (Sub.cons rfl (Sub.cons rfl (Sub.cons rfl (Sub.cons rfl (Sub.cons rfl (Sub.cons rfl (Sub.cons rfl (Sub.cons rfl (Sub.nil _))))))))))
       ·(try dsimp only)
        first | done | exact ⟨by omega, HM⟩
       ·(try dsimp only); omega
     ·(try simp only [aG] at h4)
      refine dK (aV (aV (bD (aj (ay (ah (aW rfl (aA (aj (aK (aQ (.inl rfl) results4 rfl ?_)))))))))))
      exact ⟨rfl, HL.base⟩
 ·skip
  refine ay (ah (aI rfl (iM rfl (fun h17 => ?_) (fun h17 => ?_))))
  ·(try simp only [aG] at h17)
   refine aY (aI rfl (aY (aU (dB rfl rfl) (aY (iM rfl (fun h => by exfalso; (try simp only [aG] at h); have h9 := (hf (by assumption)).1; omega) (fun h18 => ?_))))))
   (try simp only [aG] at h18)
   refine aY (aI rfl (aY (aI rfl (aY (aU (eX (hv _ (H2)) underlying22 rfl) (aY (aU (o8 rfl rfl) (aY (fC rfl rfl (aY (iM rfl (fun h => by exfalso; (try simp only [aG] at h); have h9 := (hf (by assumption)).1; omega) (fun h19 => ?_))))))))))))
   (try simp only [aG] at h19)
   refine aY (aI rfl (aY (aI rfl (aY ?_))))
   obtain ⟨bv, ov, cv, ev⟩ := Rd.kV (hv _ (H2)) (by omega)
   cases ev
   refine aU (bY underlying22 sizeOf23 rfl rfl (by omega)) (aY ?_)
   refine aU (dZ (bU underlying23 rfl) rfl (by first | exact Rd.nZ (hv _ (H2)) (by omega) | exact Rd.AV (hv _ (H2)) (by omega) | exact Rd.zX (hv _ (H2)) (by omega))) ?_
   refine jQ (fun Wq Ig => ?_)
   refine aY (aI rfl (aY (aI rfl (aY (dH rfl func15 (nX H2 (fun W HW => (by rw [Ig]; exact he _ (by omega) _ (HW))) (fun W HW => hp _ (HW))) ?_)))))
   rintro _ Gq ⟨rfl, sD⟩
   refine aY (aU (gQ rfl) (aY (fC rfl rfl (aY (iM rfl (fun h => by exfalso; (try simp only [aG] at h); have h9 := (hf (by assumption)).2.1; simp_all) (fun h20 => ?_))))))
   (try simp only [aG] at h20)
   refine aY (aI rfl (aY (aI rfl (aZ (aZ (aZ (aZ (bT (bT (bT (bT (bT (bT (bT (bT (aZ (aY (fC rfl rfl (aY (fC rfl rfl (aY (aI rfl (aY (aI rfl (aY (aU (gQ rfl) (aY (aI rfl (aY (aI rfl (aY (aI rfl (aY (aU (dB rfl rfl) (aY (iM rfl (fun h => by exfalso; (try simp only [aG] at h); have h9 := (hf (by assumption)).2.2.2 rfl; omega) (fun h21 => ?_)))))))))))))))))))))))))))))))))))))
   (try simp only [aG] at h21)
   refine aY (aI rfl (aY (aI rfl (aY (aU (gU rfl rfl) (aY (iM rfl (fun h22 => ?_) (fun h22 => ?_))))))))
   ·(try simp only [aG] at h22)
    refine aY (aI rfl (aY (aI rfl (aY (aU (dB rfl rfl) (aY (fK rfl rfl (aY (fC rfl rfl (aY (fK rfl rfl (aY (fC rfl rfl (fK rfl rfl (aA (aj (aP rfl (fun h => by exfalso; (try simp only [aG] at h); have h9 := (hf (by assumption)).2.2.2 rfl; omega) (fun h23 => ?_))))))))))))))))))
    (try simp only [aG] at h23)
    refine aO ?_
    refine bF (()) ?_ ?_ ?_
    ·exact (Sub.nil _)
    ·exact (Sub.cons rfl (Sub.cons rfl (Sub.cons rfl (Sub.cons rfl (Sub.cons rfl (Sub.cons rfl (Sub.cons rfl (Sub.cons rfl (Sub.nil _)))))))))
    ·(try dsimp only)
     first | done | exact sD
   ·(try simp only [aG] at h22)
    refine aZ (aZ (aZ (aY (fC rfl rfl (aY (fC rfl rfl (aY (fK rfl rfl (aY (fC rfl rfl (fK rfl rfl (aA (aj (nY (aO ?_)))))))))))))))
    refine bF (()) ?_ ?_ ?_
    ·exact (Sub.nil _)
    ·exact (Sub.cons rfl (Sub.cons rfl (Sub.cons rfl (Sub.cons rfl (Sub.cons rfl (Sub.cons rfl (Sub.cons rfl (Sub.cons rfl (Sub.nil _)))))))))
    ·(try dsimp only)
     first | done | exact sD
  ·(try simp only [aG] at h17)
   refine aZ (aZ (aZ (bT (bT (bT (bT (aZ (aZ (bT (bT (bT (bT (bT (bT (bT (bT (aZ (aZ (bT (bT (bT (bT (bT (bT (bT (bT (bT (bT (bT (bT (bT (bT (bT (bT (aZ (aZ (bT (bT (bT ?_)))))))))))))))))))))))))))))))))))))))
   refine bT (bT (bT (bT (bT (bT (bT (bT (bT (bT (bT (bT (bT (bT (aZ (fC rfl rfl (aA (aj (nY (aO ?_)))))))))))))))))))
   refine bF (()) ?_ ?_ ?_
   ·exact (Sub.nil _)
   ·exact (Sub.cons rfl (Sub.cons rfl (Sub.cons rfl (Sub.cons rfl (Sub.cons rfl (Sub.cons rfl (Sub.cons rfl (Sub.cons rfl (Sub.nil _)))))))))
   ·(try dsimp only)
    first | done | exact H2
end Go.Proofs.YtddekefihgejoaaGreatDoor
end
section
namespace Go.Proofs.YtddekefihgejoaaGreatDoor
open Go.ChangeShapes Go.WideShapes Go.ChangeAt Go.RowKit
set_option maxRecDepth 100000 in
theorem xK (os : Os) (started : os.Started) (H : Type) (enc : TypeId × Value → H) :
    ReturnsInHanded {} Tryz.checked os 4 .any (fun w args => (Rows.isearchThereSpec.pre enc Tryz.prog Tryz.f4 Rows.isearchThereRow.domain false w args ∧ laidMetH Tryz.prog Dn w) ∧ sizedMet enc Tryz.prog Tryz.f4 (OpenSpec.ofChange Rows.isearchThereSpec) false w args) (Rows.isearchThereSpec.post enc Tryz.prog Tryz.f4 false true false false) := by
  refine EM (C := Tryz.checked) (tb := 4) _ own laid started (by kernel_rfl) Tryz.func4 (congrArg Array.toList Tryz.params4) rfl Tryz.underlying4 rfl (by kernel_rfl) (fun ds hd => ?_)
    (ChangeSpec.witness_shaped (enc := enc) (C := Tryz.checked) (os := os) (X := fun w _ => laidMetH Tryz.prog Dn w) false (World.laidAll Tryz.prog os Dn) #[.slice none 0 0, .int .i64 0, .int .i64 0, .slice none 0 0, .bool false] 8 (World.laidAll_os _ _ _) (World.shaped_of_ZipB (by kernel_rfl) (by kernel_rfl)) (by kernel_rfl) (by kernel_rfl) (by kernel_rfl) (PD os _)) ?_
  · obtain ⟨a0, a1, a2, a3, a4, rfl⟩ := PW hd
    rfl
  intro W args hL hin
  have hT := Tf hL
  obtain ⟨v1, v2, v3, v4, v5, rfl, ⟨⟨_, o1⟩, i1⟩, ⟨⟨_, o2⟩, i2⟩, ⟨⟨_, o3⟩, i3⟩, ⟨⟨_, o4⟩, i4⟩, ⟨⟨_, o5⟩, i5⟩⟩ := hin.five
  obtain ⟨a1, n1, c1, rfl⟩ := okWide_slice Tryz.underlying22 o1
  obtain ⟨p1, rfl⟩ := okWide_int Tryz.underlying3 o2
  obtain ⟨p2, rfl⟩ := okWide_int Tryz.underlying3 o3
  obtain ⟨a4, n4, c4, rfl⟩ := okWide_slice Tryz.underlying23 o4
  obtain ⟨bk, rfl⟩ := okWide_bool Tryz.underlying4 o5
  obtain ⟨_, vs, ls, e1, g2, hb2, g3⟩ := i1.row Tryz.underlying22 Tryz.underlying23 Tryz.underlying21 (by kernel_rfl) (by kernel_rfl)
  obtain rfl := List.singleton_inj.1 e1
  obtain ⟨v, x, e, g, b, wf⟩ := i4.ints Tryz.underlying23 Tryz.underlying21 (by kernel_rfl)
  obtain rfl := List.singleton_inj.1 e
  rw [show Tryz.prog.bytesOf 23 = 24 from by kernel_rfl] at hb2
  have RH : ∀ k, k < ls.length → (ls.getD k []).length ≤ 4611686018427387904 := fun k hk => by
    have h9 := (g3 k hk).2.1
    rw [show Tryz.prog.bytesOf 21 = 4 from by kernel_rfl] at h9
    unfold reachBytes at h9; omega
  have hb8 : ls.length ≤ 4611686018427387904 := by unfold reachBytes at hb2; omega
  cases bk with
  | true => exact Ci (IJ hL) g2 (fun k hk => (g3 k hk).1) g hb8 RH
  | false => exact Cj (IJ hL) g2 (fun k hk => (g3 k hk).1) g hb8 RH
theorem xM : Rows.IsearchThereSaid :=
  OpenClaim.holds_of_wide 4 Tryz.f4 rfl rfl rfl rfl rfl rfl rfl ⟨rfl, rfl, rfl, rfl, rfl⟩ rfl rfl rfl rfl rfl (by kernel_rfl) Tryz.func4 (by kernel_rfl)
    (of_decide_eq_true (by kernel_rfl)) (by unfold Func.isWrapper; first | (rw [if_pos (by decide +kernel)]; kernel_rfl) | (rw [if_neg (by decide +kernel)]; exact ⟨rfl, rfl⟩))
    (fun os started H enc _ => xK os started H enc)
theorem isearchThere_card : Rows.IsearchThereCardSaid :=
  Claim7.holds_tied_plain_at .later [] [.data, .pinned] true (true, "cdeeef36a54030791fe74ba94e7a0c048174d326e7653f97b5eda55c2ff4757f") false
    xM (fun _ h => by cases h) (by kernel_rfl) (fun _ h => by cases h) isearchThere_row_tie rfl ⟨rfl, rfl⟩ (by kernel_rfl) rfl
    (fun f fn hf hfn => by
      obtain rfl : f = 4 := Option.some.inj ((show Tryz.prog.funcNamed "lanyard/lanyardlaw20.IsearchThere" = some 4 by kernel_rfl).symm.trans hf) |>.symm
      obtain rfl : fn = Tryz.f4 := (Option.some.inj (Tryz.func4.symm.trans hfn)).symm
      exact ⟨by kernel_rfl, fun j t ht => by
        rw [Tryz.params4] at ht
        have hm : t ∈ [22, 3, 3, 23, 4] := by simpa using Array.mem_of_getElem? ht
        have hall : ([22, 3, 3, 23, 4].all fun u => !Tryz.prog.wantsStandIn u) = true := by kernel_rfl
        exact (show Tryz.prog.wantsStandIn t = false by simpa using List.all_eq_true.1 hall t hm)⟩)
    (by kernel_rfl)
end Go.Proofs.YtddekefihgejoaaGreatDoor
end
