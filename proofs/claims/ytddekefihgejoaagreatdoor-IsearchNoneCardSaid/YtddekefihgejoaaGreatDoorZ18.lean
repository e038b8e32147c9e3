import Derived.Test.YtddekefihgejoaaGreatDoorZ2
import Derived.Test.YtddekefihgejoaaGreatDoorZ17
import Derived.Test.YtddekefihgejoaaGreatDoorZ5
import Derived.Test.YtddekefihgejoaaGreatDoorZ7
set_option linter.unusedSimpArgs false
set_option linter.unusedVariables false
/- Texts of mine, joined, their names in short: Is1. -/
section
namespace Go.Proofs.YtddekefihgejoaaGreatDoor
open Go.RowKit
open _root_.Go.Proofs.Tryz
theorem Cb {l p : List Int} {i : Int} (h0 : 0 ≤ i) (hm : i ≤ lK l p) : ((l.drop i.toNat).take ((i + p.length).toNat - i.toNat) = p) ↔ Ae l p i.toNat = true := by
  unfold lK at hm
  rw [BZ, show (i + p.length).toNat - i.toNat = p.length from by omega]
  constructor
  · intro h; exact ⟨by omega, h⟩
  · intro h; exact h.2
section
variable {w0 w : World} {F : HP} {v1 v2 : Value} {l p : List Int} {i : Int} {back : Bool}
theorem EJ (H : aB w0 w F) (hv1 : iT w0 F .i32 v1 l) (hv2 : iT w0 F .i32 v2 p) (hb9 : l.length ≤ 4611686018427387904) : fE prog 30 #[v1, v2, .int .i64 i, .bool back] w fun v w' => v = .int .i64 (jC l p i back) ∧ aB w0 w' F := by
 have hl9 : l.length ≤ 9223372036854775807 := by have := (hv1 _ H).open; obtain ⟨a, c, e, h3, h4, _⟩ := this; omega
 have hp9 : p.length ≤ 9223372036854775807 := by have := (hv2 _ H).open; obtain ⟨a, c, e, h3, h4, _⟩ := this; omega
 refine gy func30 ntmps30 ?_
 dsimp only [aY, Nat.reduceAdd]
 refine ay (ah (aV rfl (aA (aj (ay (ah (aN rfl (aU (gG (hv1 _ (H)) underlying23 rfl) (aN rfl (aU (gG (hv2 _ (H)) underlying23 rfl) (aU (iW rfl rfl (by omega)) (aV rfl (aA (aj (ay (ay (ah (aN rfl (aA (aj (aP rfl (fun h1 => ?_) (fun h1 => ?_))))))))))))))))))))))
 ·(try simp only [aI] at h1)
  have hb : back = true := h1
  have e0 : jC l p i back = kP l p ((min i (lK l p)) + 1).toNat := by unfold jC; rw [if_pos hb]
  refine ay (ay (ah (aN rfl (aN rfl (aU (Pj rfl rfl) (aV rfl (aA (aj (bf ?_)))))))))
  refine fH [(0, _), (1, _)] (fun (k : Int) => [(10, .int .i64 k)]) (fun (k : Int) W => (k ≤ lK l p ∧ jC l p i back = kP l p (k + 1).toNat) ∧ aB w0 W F) (fun (k : Int) => (k + 1).toNat) (min i (lK l p)) (Sub.cons rfl (Sub.cons rfl (Sub.nil _))) (Sub.cons rfl (Sub.nil _)) ⟨⟨by omega, e0⟩, H⟩ ?_
  rintro k w1 ⟨⟨hk, e1⟩, HL⟩
  dsimp only [List.cons_append, List.nil_append]
  refine ay (ay (ah (aN rfl (aU (vY rfl rfl) (aA (aj (aP rfl (fun h2 => ?_) (fun h2 => ?_))))))))
  ·(try simp only [aI] at h2)
   refine aT (aj (ay (bf (ay ?_))))
   have hk0 : 0 ≤ k := by omega
   have hmm : k ≤ (l.length : Int) - p.length := hk
   refine ah (aN rfl (aN rfl (aN rfl (aN rfl (aU (gG (hv2 _ (HL)) underlying23 rfl) (aU (dS rfl rfl (by omega)) (aU (wz (hv1 _ (HL)) underlying23 sizeOf21 rfl rfl rfl (by omega)) (aN rfl (dw rfl func70 (zK _ _ _ _ _ (iV.cut (hv1 _ (HL)) (by omega) (by omega)) (hv2 _ (HL))) ?_)))))))))
   rintro _ w2 ⟨rfl, hD2⟩
   have HD2 := HL.Aj hD2
   refine aA (aj (aP rfl (fun h3 => ?_) (fun h3 => ?_)))
   ·(try simp only [aI] at h3)
    have hat := (Cb hk0 hk).1 h3
    refine ay (ah (aN rfl (aV rfl (aA (aj (aJ (aX (aK (aK (aX (aK (aK (aQ (.inl rfl) results30 rfl ?_)))))))))))))
    exact ⟨by rw [e1, Ll hk0 hat], HD2⟩
   ·(try simp only [aI] at h3)
    have hat : ¬ Ae l p k.toNat = true := fun c => absurd ((Cb hk0 hk).2 c) (by have h9 := h3; simpa using h9)
    refine aT (aH (aj (ah (aN rfl (aU (iW rfl rfl (by omega)) (aV rfl (aA ?_)))))))
    refine dA (k - 1) ?_ ?_ ?_ ?_
    ·exact (Sub.cons rfl (Sub.nil _))
    ·exact (Sub.cons rfl (Sub.cons rfl (Sub.nil _)))
    ·(try dsimp only)
     first | done | exact ⟨⟨by omega, by rw [e1, OL hk0 hat]⟩, HD2⟩
    ·(try dsimp only); omega
  ·(try simp only [aI] at h2)
   refine dL (aW (aW (bD (aj (ay (ah (aV rfl (aA (aj (aJ (aK (aQ (.inl rfl) results30 rfl ?_))))))))))))
   exact ⟨by rw [e1, Lm (by omega)], HL⟩
 ·(try simp only [aI] at h1)
  have hb : ¬ back = true := by have h9 := h1; rw [h9]; decide
  have e0 : jC l p i back = jr l p (lK l p - max i 0 + 1).toNat (max i 0).toNat := by unfold jC; rw [if_neg hb]
  refine aT (aj (ay (ay (ah (aN rfl (aU (WX rfl rfl) (aV rfl (aA (aj (bf ?_))))))))))
  refine fH [(0, _), (1, _), (9, _)] (fun (k : Int) => [(11, .int .i64 k)]) (fun (k : Int) W => (0 ≤ k ∧ jC l p i back = jr l p (lK l p - k + 1).toNat k.toNat) ∧ aB w0 W F) (fun (k : Int) => (lK l p - k + 1).toNat) (max i 0) (Sub.cons rfl (Sub.cons rfl (Sub.cons rfl (Sub.nil _)))) (Sub.cons rfl (Sub.nil _)) ⟨⟨by omega, e0⟩, H⟩ ?_
  rintro k w3 ⟨⟨hk0, e1⟩, HL⟩
  dsimp only [List.cons_append, List.nil_append]
  refine ay (ay (ah (aN rfl (aN rfl (aU (vO rfl rfl) (aA (aj (aP rfl (fun h4 => ?_) (fun h4 => ?_)))))))))
  ·(try simp only [aI] at h4)
   refine aT (aj (ay (bf (ay ?_))))
   have hk : k ≤ lK l p := by unfold lK; omega
   have hmm : k ≤ (l.length : Int) - p.length := hk
   refine ah (aN rfl (aN rfl (aN rfl (aN rfl (aU (gG (hv2 _ (HL)) underlying23 rfl) (aU (dS rfl rfl (by omega)) (aU (wz (hv1 _ (HL)) underlying23 sizeOf21 rfl rfl rfl (by omega)) (aN rfl (dw rfl func70 (zK _ _ _ _ _ (iV.cut (hv1 _ (HL)) (by omega) (by omega)) (hv2 _ (HL))) ?_)))))))))
   rintro _ w4 ⟨rfl, hD4⟩
   have HD4 := HL.Aj hD4
   refine aA (aj (aP rfl (fun h5 => ?_) (fun h5 => ?_)))
   ·(try simp only [aI] at h5)
    have hat := (Cb hk0 hk).1 h5
    refine ay (ah (aN rfl (aV rfl (aA (aj (aJ (aX (aK (aK (aX (aK (aQ (.inl rfl) results30 rfl ?_))))))))))))
    exact ⟨by rw [e1, Jz hk0 hk hat], HD4⟩
   ·(try simp only [aI] at h5)
    have hat : ¬ Ae l p k.toNat = true := fun c => absurd ((Cb hk0 hk).2 c) (by have h9 := h5; simpa using h9)
    refine aT (aH (aj (ah (aN rfl (aU (dS rfl rfl (by omega)) (aV rfl (aA ?_)))))))
    refine dA (k + 1) ?_ ?_ ?_ ?_
    ·exact (Sub.cons rfl (Sub.nil _))
    ·exact (Sub.cons rfl (Sub.cons rfl (Sub.cons rfl (Sub.nil _))))
    ·(try dsimp only)
     first | done | exact ⟨⟨by omega, by rw [e1, Lp hk0 hk hat]⟩, HD4⟩
    ·(try dsimp only); omega
  ·(try simp only [aI] at h4)
   refine dL (aW (aW (bD (aj (ay (ah (aV rfl (aA (aj (aJ (aQ (.inl rfl) results30 rfl ?_)))))))))))
   exact ⟨by rw [e1, JA (by unfold lK; omega)], HL⟩
end
section
variable {w0 w : World} {F : HP} {v v2 : Value} {us : List Value} {ls : List (List Int)} {p : List Int} {place at_ : Int} {back : Bool}
theorem JB (H : aB w0 w F) (hv : Ie w0 F 1 v ls.length us) (he : ∀ k, k < ls.length → iT w0 F .i32 (us.getD k undef) (ls.getD k [])) (hv2 : iT w0 F .i32 v2 p) (hb8 : ls.length ≤ 4611686018427387904) (hb9 : ∀ k, k < ls.length → (ls.getD k []).length ≤ 4611686018427387904) :
    fE prog 7 #[v, .int .i64 place, .int .i64 at_, v2, .bool back] w fun v w' => v = .tuple #[.int .i64 (nS ls place at_ p back).1, .int .i64 (nS ls place at_ p back).2.1, .bool (nS ls place at_ p back).2.2] ∧ aB w0 w' F := by
  refine gy func7 ntmps7 ?_
  dsimp only [aY, Nat.reduceAdd]
  refine ay (ah (aV rfl (aV rfl (aV rfl (aA (aj ?_))))))
  refine RG ?_
  refine ay (ay (ah (aN rfl (aU (eu rfl rfl) (jy rfl (fun h1 => ?_) (fun h1 => ?_))))))
  · (try simp only [aI] at h1)
    try (exfalso; first | contradiction | omega)
    all_goals
      refine bF (bF (bF (bF (jw rfl rfl (aN rfl (bF (bF (bF (jw rfl rfl (aA (aj (xg (ay (ah (aV rfl (aV rfl (aV rfl (aA (aj (aJ (aK ?_)))))))))))))))))))))
      refine kY ?_
      refine wO (.inl rfl) results7 rfl rfl rfl ?_
      have hbad : nS ls place at_ p back = (0, 0, false) := by unfold nS; rw [if_pos (by omega)]
      exact ⟨by rw [hbad], H⟩
  · (try simp only [aI] at h1)
    try (exfalso; first | contradiction | omega)
    all_goals
      refine bC (aN rfl (bC (aN rfl (bC (aU (fM (hv _ (H)) underlying22 rfl) (bC (aU (vY rfl rfl) (iU rfl rfl (jy rfl (fun h2 => ?_) (fun h2 => ?_))))))))))
      · (try simp only [aI] at h2)
        try (exfalso; first | contradiction | omega)
        all_goals
          refine bF (bF (bF (jw rfl rfl (aA (aj (xg (ay (ah (aV rfl (aV rfl (aV rfl (aA (aj (aJ (aK ?_)))))))))))))))
          refine kY ?_
          refine wO (.inl rfl) results7 rfl rfl rfl ?_
          have hbad : nS ls place at_ p back = (0, 0, false) := by unfold nS; rw [if_pos (by omega)]
          exact ⟨by rw [hbad], H⟩
      · (try simp only [aI] at h2)
        try (exfalso; first | contradiction | omega)
        all_goals
          refine bC (aN rfl (bC (aU (gG (hv2 _ (H)) underlying23 rfl) (bC (aU (iY rfl rfl) (iU rfl rfl (aA (aj (aP rfl (fun h3 => ?_) (fun h3 => ?_))))))))))
          · (try simp only [aI] at h3)
            try (exfalso; first | contradiction | omega)
            all_goals
              refine ay (ah (aV rfl (aV rfl (aV rfl (aA (aj (aJ (aK ?_))))))))
              refine kY ?_
              refine wO (.inl rfl) results7 rfl rfl rfl ?_
              have hbad : nS ls place at_ p back = (0, 0, false) := by unfold nS; rw [if_pos (by omega)]
              exact ⟨by rw [hbad], H⟩
          · (try simp only [aI] at h3)
            try (exfalso; first | contradiction | omega)
            all_goals
              have h09 := h3
              have hgood : nS ls place at_ p back = findAt ls place at_ p back place := by unfold nS findAt; rw [if_neg (by omega)]
              refine aT (aj (ay (ah (aV rfl (aA (aj ?_))))))
              refine rO [(0, _), (1, _), (2, _), (3, _), (4, _)] (fun (_ : Unit) => [(13, .int .i64 (if back then -1 else 1))]) (fun (_ : Unit) W => W = w) (Sub.cons rfl (Sub.cons rfl (Sub.cons rfl (Sub.cons rfl (Sub.cons rfl (Sub.nil _)))))) ?_ ?_
              · rintro _ w1 rfl
                dsimp only [List.cons_append, List.nil_append]
                refine rO [(0, _), (1, _), (2, _), (3, _), (4, _)] (fun (_ : Unit) => [(13, .int .i64 (if back then -1 else 1))]) (fun (_ : Unit) W => W = w1) (Sub.cons rfl (Sub.cons rfl (Sub.cons rfl (Sub.cons rfl (Sub.cons rfl (Sub.nil _)))))) ?_ ?_
                · rintro _ w2 rfl
                  dsimp only [List.cons_append, List.nil_append]
                  refine ay (ay (ah (aN rfl (aV rfl (aA (aj (bf ?_)))))))
                  refine fH [(0, _), (1, _), (2, _), (3, _), (4, _), (13, _)] (fun (i : Int) => [(14, .int .i64 i)]) (fun (i : Int) W => ((-1 ≤ i ∧ i ≤ ls.length) ∧ (back = true → i < ls.length) ∧ (¬ back = true → 0 ≤ i) ∧ nS ls place at_ p back = findAt ls place at_ p back i) ∧ aB w0 W F) (fun (i : Int) => if back then (i + 1).toNat else ((ls.length : Int) - i).toNat) (place) (Sub.cons rfl (Sub.cons rfl (Sub.cons rfl (Sub.cons rfl (Sub.cons rfl (Sub.cons rfl (Sub.nil _))))))) (Sub.cons rfl (Sub.nil _)) ⟨⟨by omega, by omega, by omega, hgood⟩, H⟩ ?_
                  rintro i w3 ⟨⟨hi, hbk, hfw, e1⟩, HL⟩
                  dsimp only [List.cons_append, List.nil_append]
                  refine ay (ay (ah (aN rfl (aU (vY rfl rfl) (jy rfl (fun h4 => ?_) (fun h4 => ?_))))))
                  · (try simp only [aI] at h4)
                    try (exfalso; first | contradiction | omega)
                    all_goals
                      refine bC (aN rfl (bC (aN rfl (bC (aU (fM (hv _ (HL)) underlying22 rfl) (bC (aU (eu rfl rfl) (jw rfl rfl (aA (aj (aP rfl (fun h5 => ?_) (fun h5 => ?_))))))))))))
                      · (try simp only [aI] at h5)
                        try (exfalso; first | contradiction | omega)
                        all_goals
                          refine aT (aj (ay (bf (ay ?_))))
                          have hi0 : 0 ≤ i := by omega
                          have hil : i < ls.length := by omega
                          have acn := hb9 i.toNat (by omega)
                          have hia : i.toNat < ls.length := by omega
                          refine ah (aV rfl (aA (aj ?_)))
                          refine rO [(0, _), (1, _), (2, _), (3, _), (4, _), (13, _), (14, _), (35, _), (36, _), (37, _), (38, _)] (fun (_ : Unit) => [(15, .int .i64 (if i = place then at_ else if back then ((ls.getD i.toNat []).length : Int) else 0))]) (fun (_ : Unit) W => W = w3) (Sub.cons rfl (Sub.cons rfl (Sub.cons rfl (Sub.cons rfl (Sub.cons rfl (Sub.cons rfl (Sub.cons rfl (Sub.cons rfl (Sub.cons rfl (Sub.cons rfl (Sub.cons rfl (Sub.nil _)))))))))))) ?_ ?_
                          · rintro _ w4 rfl
                            dsimp only [List.cons_append, List.nil_append]
                            refine ay (ah (aN rfl (aN rfl ?_)))
                            obtain ⟨bv, ov, cv, ev⟩ := Rd.lD (hv _ (HL)) (by omega)
                            cases ev
                            refine aU (cZ underlying22 sizeOf23 rfl rfl (by omega)) ?_
                            refine aU (fJ (bW underlying23 rfl) rfl (by first | exact Rd.pX (hv _ (HL)) (by omega) | exact Rd.Es (hv _ (HL)) (by omega) | exact Rd.CY (hv _ (HL)) (by omega))) ?_
                            refine oh (fun abB V6 => ?_)
                            refine aN rfl (aN rfl (aN rfl (dw rfl func30 (EJ HL (fun W HW => (by rw [V6]; exact he _ (by omega) _ (HW))) (fun W HW => hv2 _ (HW)) (by omega)) ?_)))
                            rintro _ w6 ⟨rfl, H6⟩
                            refine aV rfl (aA (aj (ay (ah (aN rfl (aU (vY rfl rfl) (aA (aj (aP rfl (fun h6 => ?_) (fun h6 => ?_))))))))))
                            · (try simp only [aI] at h6)
                              try (exfalso; first | contradiction | omega)
                              all_goals
                                have hyes : 0 ≤ pW ls place at_ p back i.toNat := by unfold pW; rw [show ((i.toNat : Nat) : Int) = i from by omega]; exact h6
                                refine ay (ah (aN rfl (aN rfl (aV rfl (aV rfl (aV rfl (aA (aj (aJ (aX (aK (aK (aX (aK ?_))))))))))))))
                                refine kY ?_
                                refine wO (.inl rfl) results7 rfl rfl rfl ?_
                                exact ⟨by rw [e1, Lr hi0 hil hyes]; unfold pW; rw [show ((i.toNat : Nat) : Int) = i from by omega], H6⟩
                            · (try simp only [aI] at h6)
                              try (exfalso; first | contradiction | omega)
                              all_goals
                                have hno : ¬ 0 ≤ pW ls place at_ p back i.toNat := by unfold pW; rw [show ((i.toNat : Nat) : Int) = i from by omega]; have h9 := h6; omega
                                refine aT (aH (aj (ah (aN rfl (aN rfl (aU (dS rfl rfl (by omega)) (aV rfl (aA ?_))))))))
                                refine dA (i + if back then -1 else 1) ?_ ?_ ?_ ?_
                                · exact (Sub.cons rfl (Sub.nil _))
                                · exact (Sub.cons rfl (Sub.cons rfl (Sub.cons rfl (Sub.cons rfl (Sub.cons rfl (Sub.cons rfl (Sub.nil _)))))))
                                · (try dsimp only)
                                  first | done | exact ⟨⟨by cases back <;> simp at * <;> omega, by cases back <;> simp at * <;> omega, by cases back <;> simp at * <;> omega, e1.trans (uO hi0 hil (by first | exact hno | exact wK (by simpa using ‹back = true›) (by omega) (by omega) | exact wL (by simp_all) (by omega) (by omega)))⟩, H6⟩
                                · cases back <;> simp <;> omega
                          · skip
                            refine bf (ay (ah (aN rfl (aN rfl (aU (iY rfl rfl) (jy rfl (fun h7 => ?_) (fun h7 => ?_)))))))
                            · (try simp only [aI] at h7)
                              try (exfalso; first | contradiction | omega)
                              all_goals
                                refine bC (aN rfl (jw rfl rfl (jy rfl (fun h8 => ?_) (fun h8 => ?_))))
                                · (try simp only [aI] at h8)
                                  try (exfalso; first | contradiction | omega)
                                  all_goals
                                    refine bC (aN rfl (bC (aU (eu rfl rfl) (jw rfl rfl (jy rfl (fun h9 => ?_) (fun h9 => ?_))))))
                                    · (try simp only [aI] at h9)
                                      try (exfalso; first | contradiction | omega)
                                      all_goals
                                        refine bF (bF (bF (bF (nU (nU (bF (bF (nU (nU (nU (nU (nU (nU (nU (bF (jw rfl rfl (aV rfl (aA (aj (xg (dL ?_)))))))))))))))))))))
                                        refine jW (by decide) ?_
                                        refine aW (bD (aj (ah (aN rfl (aN rfl (aU (dS rfl rfl (by omega)) (aV rfl (aA ?_))))))))
                                        refine dA (i + if back then -1 else 1) ?_ ?_ ?_ ?_
                                        · exact (Sub.cons rfl (Sub.nil _))
                                        · exact (Sub.cons rfl (Sub.cons rfl (Sub.cons rfl (Sub.cons rfl (Sub.cons rfl (Sub.cons rfl (Sub.nil _)))))))
                                        · (try dsimp only)
                                          first | done | exact ⟨⟨by cases back <;> simp at * <;> omega, by cases back <;> simp at * <;> omega, by cases back <;> simp at * <;> omega, e1.trans (uO hi0 hil (by first | exact hno | exact wK (by simpa using ‹back = true›) (by omega) (by omega) | exact wL (by simp_all) (by omega) (by omega)))⟩, HL⟩
                                        · cases back <;> simp <;> omega
                                    · (try simp only [aI] at h9)
                                      try (exfalso; first | contradiction | omega)
                                      all_goals
                                        refine bC (aN rfl (bC (aN rfl (bC (aU (iY rfl rfl) (bC (jy rfl (fun h10 => ?_) (fun h10 => ?_))))))))
                                        · (try simp only [aI] at h10)
                                          try (exfalso; first | contradiction | omega)
                                          all_goals
                                            refine bC (aN rfl (bC (aU (kJ rfl) (bC (jw rfl rfl (bC (jy rfl (fun h11 => ?_) (fun h11 => ?_))))))))
                                            · (try simp only [aI] at h11)
                                              try (exfalso; first | contradiction | omega)
                                              all_goals
                                                refine bC (aN rfl (bC (aN rfl (bC (aN rfl (bC ?_))))))
                                                obtain ⟨bv, ov, cv, ev⟩ := Rd.lD (hv _ (HL)) (by omega)
                                                cases ev
                                                refine aU (cZ underlying22 sizeOf23 rfl rfl (by omega)) (bC ?_)
                                                refine aU (fJ (bW underlying23 rfl) rfl (by first | exact Rd.pX (hv _ (HL)) (by omega) | exact Rd.Es (hv _ (HL)) (by omega) | exact Rd.CY (hv _ (HL)) (by omega))) ?_
                                                refine oh (fun abC V7 => ?_)
                                                refine bC ?_
                                                refine aU (gG ((by rw [V7]; exact he _ (by omega) _ (HL))) underlying23 rfl) ?_
                                                refine bC (aU (fZ rfl rfl) (bC (jw rfl rfl (iU rfl rfl (aV rfl (aA (aj (aP rfl (fun h12 => ?_) (fun h12 => ?_)))))))))
                                                · (try simp only [aI] at h12)
                                                  try (exfalso; first | contradiction | omega)
                                                  all_goals
                                                    refine dL ?_
                                                    refine jW (by decide) ?_
                                                    refine aW (bD (aj (ah (aN rfl (aN rfl (aU (dS rfl rfl (by omega)) (aV rfl (aA ?_))))))))
                                                    refine dA (i + if back then -1 else 1) ?_ ?_ ?_ ?_
                                                    · exact (Sub.cons rfl (Sub.nil _))
                                                    · exact (Sub.cons rfl (Sub.cons rfl (Sub.cons rfl (Sub.cons rfl (Sub.cons rfl (Sub.cons rfl (Sub.nil _)))))))
                                                    · (try dsimp only)
                                                      first | done | exact ⟨⟨by cases back <;> simp at * <;> omega, by cases back <;> simp at * <;> omega, by cases back <;> simp at * <;> omega, e1.trans (uO hi0 hil (by first | exact hno | exact wK (by simpa using ‹back = true›) (by omega) (by omega) | exact wL (by simp_all) (by omega) (by omega)))⟩, HL⟩
                                                    · cases back <;> simp <;> omega
                                                · (try simp only [aI] at h12)
                                                  try (exfalso; first | contradiction | omega)
                                                  all_goals
                                                    refine ay (ah (aN rfl (aN rfl (aU (iY rfl rfl) (aV rfl (aA (aj (aP rfl (fun h13 => ?_) (fun h13 => ?_)))))))))
                                                    · (try simp only [aI] at h13)
                                                      try (exfalso; first | contradiction | omega)
                                                      all_goals
                                                        refine ah (aN rfl (aV rfl (aA (aH ?_))))
                                                        refine bZ (()) ?_ ?_ ?_
                                                        · exact (Sub.iG rfl (by simp_all) (Sub.nil _))
                                                        · exact (Sub.cons rfl (Sub.cons rfl (Sub.cons rfl (Sub.cons rfl (Sub.cons rfl (Sub.cons rfl (Sub.cons rfl (Sub.cons rfl (Sub.cons rfl (Sub.cons rfl (Sub.cons rfl (Sub.nil _))))))))))))
                                                        · (try dsimp only)
                                                          first | done | exact rfl
                                                    · (try simp only [aI] at h13)
                                                      try (exfalso; first | contradiction | omega)
                                                      all_goals
                                                        refine ay (ah (aN rfl (aV rfl (aA (aj (aP rfl (fun h14 => ?_) (fun h14 => ?_)))))))
                                                        · (try simp only [aI] at h14)
                                                          try (exfalso; first | contradiction | omega)
                                                          all_goals
                                                            refine ah (aN rfl (aN rfl (aU (cZ underlying22 sizeOf23 rfl rfl (by omega)) ?_)))
                                                            refine aU (fJ (bW underlying23 rfl) rfl (by first | exact Rd.pX (hv _ (HL)) (by omega) | exact Rd.Es (hv _ (HL)) (by omega) | exact Rd.CY (hv _ (HL)) (by omega))) ?_
                                                            refine oh (fun abD V8 => ?_)
                                                            refine aU (gG ((by rw [V8]; exact he _ (by omega) _ (HL))) underlying23 rfl) ?_
                                                            refine aV rfl (aA (aH ?_))
                                                            refine bZ (()) ?_ ?_ ?_
                                                            · exact (Sub.iG rfl (by simp_all) (Sub.nil _))
                                                            · exact (Sub.cons rfl (Sub.cons rfl (Sub.cons rfl (Sub.cons rfl (Sub.cons rfl (Sub.cons rfl (Sub.cons rfl (Sub.cons rfl (Sub.cons rfl (Sub.cons rfl (Sub.cons rfl (Sub.nil _))))))))))))
                                                            · (try dsimp only)
                                                              first | done | exact rfl
                                                        · (try simp only [aI] at h14)
                                                          try (exfalso; first | contradiction | omega)
                                                          all_goals
                                                            refine aT (aH ?_)
                                                            refine bZ (()) ?_ ?_ ?_
                                                            · exact (Sub.iG rfl (by simp_all) (Sub.nil _))
                                                            · exact (Sub.cons rfl (Sub.cons rfl (Sub.cons rfl (Sub.cons rfl (Sub.cons rfl (Sub.cons rfl (Sub.cons rfl (Sub.cons rfl (Sub.cons rfl (Sub.cons rfl (Sub.cons rfl (Sub.nil _))))))))))))
                                                            · (try dsimp only)
                                                              first | done | exact rfl
                                            · (try simp only [aI] at h11)
                                              try (exfalso; first | contradiction | omega)
                                              all_goals
                                                refine bF (bF (bF (bF (bF (bF (bF (bC (iU rfl rfl (iU rfl rfl (aV rfl (aA (aj (pJ (ay (ah (aN rfl (aN rfl (aU (iY rfl rfl) (aV rfl (aA (aj (aP rfl (fun h15 => ?_) (fun h15 => ?_)))))))))))))))))))))))
                                                · (try simp only [aI] at h15)
                                                  try (exfalso; first | contradiction | omega)
                                                  all_goals
                                                    refine ah (aN rfl (aV rfl (aA (aH ?_))))
                                                    refine bZ (()) ?_ ?_ ?_
                                                    · exact (Sub.iG rfl (by simp_all) (Sub.nil _))
                                                    · exact (Sub.cons rfl (Sub.cons rfl (Sub.cons rfl (Sub.cons rfl (Sub.cons rfl (Sub.cons rfl (Sub.cons rfl (Sub.cons rfl (Sub.cons rfl (Sub.cons rfl (Sub.cons rfl (Sub.nil _))))))))))))
                                                    · (try dsimp only)
                                                      first | done | exact rfl
                                                · (try simp only [aI] at h15)
                                                  try (exfalso; first | contradiction | omega)
                                                  all_goals
                                                    refine ay (ah (aN rfl (aV rfl (aA (aj (aP rfl (fun h16 => ?_) (fun h16 => ?_)))))))
                                                    · (try simp only [aI] at h16)
                                                      try (exfalso; first | contradiction | omega)
                                                      all_goals
                                                        refine ah (aN rfl (aN rfl ?_))
                                                        obtain ⟨bv, ov, cv, ev⟩ := Rd.lD (hv _ (HL)) (by omega)
                                                        cases ev
                                                        refine aU (cZ underlying22 sizeOf23 rfl rfl (by omega)) ?_
                                                        refine aU (fJ (bW underlying23 rfl) rfl (by first | exact Rd.pX (hv _ (HL)) (by omega) | exact Rd.Es (hv _ (HL)) (by omega) | exact Rd.CY (hv _ (HL)) (by omega))) ?_
                                                        refine oh (fun abE V9 => ?_)
                                                        refine aU (gG ((by rw [V9]; exact he _ (by omega) _ (HL))) underlying23 rfl) ?_
                                                        refine aV rfl (aA (aH ?_))
                                                        refine bZ (()) ?_ ?_ ?_
                                                        · exact (Sub.iG rfl (by simp_all) (Sub.nil _))
                                                        · exact (Sub.cons rfl (Sub.cons rfl (Sub.cons rfl (Sub.cons rfl (Sub.cons rfl (Sub.cons rfl (Sub.cons rfl (Sub.cons rfl (Sub.cons rfl (Sub.cons rfl (Sub.cons rfl (Sub.nil _))))))))))))
                                                        · (try dsimp only)
                                                          first | done | exact rfl
                                                    · (try simp only [aI] at h16)
                                                      try (exfalso; first | contradiction | omega)
                                                      all_goals
                                                        refine aT (aH ?_)
                                                        refine bZ (()) ?_ ?_ ?_
                                                        · exact (Sub.iG rfl (by simp_all) (Sub.nil _))
                                                        · exact (Sub.cons rfl (Sub.cons rfl (Sub.cons rfl (Sub.cons rfl (Sub.cons rfl (Sub.cons rfl (Sub.cons rfl (Sub.cons rfl (Sub.cons rfl (Sub.cons rfl (Sub.cons rfl (Sub.nil _))))))))))))
                                                        · (try dsimp only)
                                                          first | done | exact rfl
                                        · (try simp only [aI] at h10)
                                          try (exfalso; first | contradiction | omega)
                                          all_goals
                                            refine bF (bF (bC (iU rfl rfl (bC (aN rfl (bF (bF (bF (bF (bF (bF (bF (bC (iU rfl rfl (iU rfl rfl (aV rfl (aA (aj (pJ (ay (ah (aN rfl (aN rfl (aU (iY rfl rfl) (aV rfl (aA (aj (aP rfl (fun h17 => ?_) (fun h17 => ?_)))))))))))))))))))))))))))))
                                            · (try simp only [aI] at h17)
                                              try (exfalso; first | contradiction | omega)
                                              all_goals
                                                refine ah (aN rfl (aV rfl (aA (aH ?_))))
                                                refine bZ (()) ?_ ?_ ?_
                                                · exact (Sub.iG rfl (by simp_all) (Sub.nil _))
                                                · exact (Sub.cons rfl (Sub.cons rfl (Sub.cons rfl (Sub.cons rfl (Sub.cons rfl (Sub.cons rfl (Sub.cons rfl (Sub.cons rfl (Sub.cons rfl (Sub.cons rfl (Sub.cons rfl (Sub.nil _))))))))))))
                                                · (try dsimp only)
                                                  first | done | exact rfl
                                            · (try simp only [aI] at h17)
                                              try (exfalso; first | contradiction | omega)
                                              all_goals
                                                refine ay (ah (aN rfl (aV rfl (aA (aj (aP rfl (fun h18 => ?_) (fun h18 => ?_)))))))
                                                · (try simp only [aI] at h18)
                                                  try (exfalso; first | contradiction | omega)
                                                  all_goals
                                                    refine ah (aN rfl (aN rfl ?_))
                                                    obtain ⟨bv, ov, cv, ev⟩ := Rd.lD (hv _ (HL)) (by omega)
                                                    cases ev
                                                    refine aU (cZ underlying22 sizeOf23 rfl rfl (by omega)) ?_
                                                    refine aU (fJ (bW underlying23 rfl) rfl (by first | exact Rd.pX (hv _ (HL)) (by omega) | exact Rd.Es (hv _ (HL)) (by omega) | exact Rd.CY (hv _ (HL)) (by omega))) ?_
                                                    refine oh (fun aaP Ud => ?_)
                                                    refine aU (gG ((by rw [Ud]; exact he _ (by omega) _ (HL))) underlying23 rfl) ?_
                                                    refine aV rfl (aA (aH ?_))
                                                    refine bZ (()) ?_ ?_ ?_
                                                    · exact (Sub.iG rfl (by simp_all) (Sub.nil _))
                                                    · exact (Sub.cons rfl (Sub.cons rfl (Sub.cons rfl (Sub.cons rfl (Sub.cons rfl (Sub.cons rfl (Sub.cons rfl (Sub.cons rfl (Sub.cons rfl (Sub.cons rfl (Sub.cons rfl (Sub.nil _))))))))))))
                                                    · (try dsimp only)
                                                      first | done | exact rfl
                                                · (try simp only [aI] at h18)
                                                  try (exfalso; first | contradiction | omega)
                                                  all_goals
                                                    refine aT (aH ?_)
                                                    refine bZ (()) ?_ ?_ ?_
                                                    · exact (Sub.iG rfl (by simp_all) (Sub.nil _))
                                                    · exact (Sub.cons rfl (Sub.cons rfl (Sub.cons rfl (Sub.cons rfl (Sub.cons rfl (Sub.cons rfl (Sub.cons rfl (Sub.cons rfl (Sub.cons rfl (Sub.cons rfl (Sub.cons rfl (Sub.nil _))))))))))))
                                                    · (try dsimp only)
                                                      first | done | exact rfl
                                · (try simp only [aI] at h8)
                                  try (exfalso; first | contradiction | omega)
                                  all_goals
                                    refine bF (bF (iU rfl rfl (aN rfl (bC (aN rfl (bC (aN rfl (bC (aU (iY rfl rfl) (bC (jy rfl (fun h19 => ?_) (fun h19 => ?_))))))))))))
                                    · (try simp only [aI] at h19)
                                      try (exfalso; first | contradiction | omega)
                                      all_goals
                                        refine bC (aN rfl (bC (aU (kJ rfl) (bC (jw rfl rfl (bC (jy rfl (fun h20 => ?_) (fun h20 => ?_))))))))
                                        · (try simp only [aI] at h20)
                                          try (exfalso; first | contradiction | omega)
                                          all_goals
                                            refine bC (aN rfl (bC (aN rfl (bC (aN rfl (bC ?_))))))
                                            obtain ⟨bv, ov, cv, ev⟩ := Rd.lD (hv _ (HL)) (by omega)
                                            cases ev
                                            refine aU (cZ underlying22 sizeOf23 rfl rfl (by omega)) (bC ?_)
                                            refine aU (fJ (bW underlying23 rfl) rfl (by first | exact Rd.pX (hv _ (HL)) (by omega) | exact Rd.Es (hv _ (HL)) (by omega) | exact Rd.CY (hv _ (HL)) (by omega))) ?_
                                            refine oh (fun aaQ Ue => ?_)
                                            refine bC ?_
                                            refine aU (gG ((by rw [Ue]; exact he _ (by omega) _ (HL))) underlying23 rfl) ?_
                                            refine bC (aU (fZ rfl rfl) (bC (jw rfl rfl (iU rfl rfl (aV rfl (aA (aj (aP rfl (fun h21 => ?_) (fun h21 => ?_)))))))))
                                            · (try simp only [aI] at h21)
                                              try (exfalso; first | contradiction | omega)
                                              all_goals
                                                refine dL ?_
                                                refine jW (by decide) ?_
                                                refine aW (bD (aj (ah (aN rfl (aN rfl (aU (dS rfl rfl (by omega)) (aV rfl (aA ?_))))))))
                                                refine dA (i + if back then -1 else 1) ?_ ?_ ?_ ?_
                                                · exact (Sub.cons rfl (Sub.nil _))
                                                · exact (Sub.cons rfl (Sub.cons rfl (Sub.cons rfl (Sub.cons rfl (Sub.cons rfl (Sub.cons rfl (Sub.nil _)))))))
                                                · (try dsimp only)
                                                  first | done | exact ⟨⟨by cases back <;> simp at * <;> omega, by cases back <;> simp at * <;> omega, by cases back <;> simp at * <;> omega, e1.trans (uO hi0 hil (by first | exact hno | exact wK (by simpa using ‹back = true›) (by omega) (by omega) | exact wL (by simp_all) (by omega) (by omega)))⟩, HL⟩
                                                · cases back <;> simp <;> omega
                                            · (try simp only [aI] at h21)
                                              try (exfalso; first | contradiction | omega)
                                              all_goals
                                                refine ay (ah (aN rfl (aN rfl (aU (iY rfl rfl) (aV rfl (aA (aj (aP rfl (fun h22 => ?_) (fun h22 => ?_)))))))))
                                                · (try simp only [aI] at h22)
                                                  try (exfalso; first | contradiction | omega)
                                                  all_goals
                                                    refine ah (aN rfl (aV rfl (aA (aH ?_))))
                                                    refine bZ (()) ?_ ?_ ?_
                                                    · exact (Sub.iG rfl (by simp_all) (Sub.nil _))
                                                    · exact (Sub.cons rfl (Sub.cons rfl (Sub.cons rfl (Sub.cons rfl (Sub.cons rfl (Sub.cons rfl (Sub.cons rfl (Sub.cons rfl (Sub.cons rfl (Sub.cons rfl (Sub.cons rfl (Sub.nil _))))))))))))
                                                    · (try dsimp only)
                                                      first | done | exact rfl
                                                · (try simp only [aI] at h22)
                                                  try (exfalso; first | contradiction | omega)
                                                  all_goals
                                                    refine ay (ah (aN rfl (aV rfl (aA (aj (aP rfl (fun h23 => ?_) (fun h23 => ?_)))))))
                                                    · (try simp only [aI] at h23)
                                                      try (exfalso; first | contradiction | omega)
                                                      all_goals
                                                        refine ah (aN rfl (aN rfl (aU (cZ underlying22 sizeOf23 rfl rfl (by omega)) ?_)))
                                                        refine aU (fJ (bW underlying23 rfl) rfl (by first | exact Rd.pX (hv _ (HL)) (by omega) | exact Rd.Es (hv _ (HL)) (by omega) | exact Rd.CY (hv _ (HL)) (by omega))) ?_
                                                        refine oh (fun aaR Uf => ?_)
                                                        refine aU (gG ((by rw [Uf]; exact he _ (by omega) _ (HL))) underlying23 rfl) ?_
                                                        refine aV rfl (aA (aH ?_))
                                                        refine bZ (()) ?_ ?_ ?_
                                                        · exact (Sub.iG rfl (by simp_all) (Sub.nil _))
                                                        · exact (Sub.cons rfl (Sub.cons rfl (Sub.cons rfl (Sub.cons rfl (Sub.cons rfl (Sub.cons rfl (Sub.cons rfl (Sub.cons rfl (Sub.cons rfl (Sub.cons rfl (Sub.cons rfl (Sub.nil _))))))))))))
                                                        · (try dsimp only)
                                                          first | done | exact rfl
                                                    · (try simp only [aI] at h23)
                                                      try (exfalso; first | contradiction | omega)
                                                      all_goals
                                                        refine aT (aH ?_)
                                                        refine bZ (()) ?_ ?_ ?_
                                                        · exact (Sub.iG rfl (by simp_all) (Sub.nil _))
                                                        · exact (Sub.cons rfl (Sub.cons rfl (Sub.cons rfl (Sub.cons rfl (Sub.cons rfl (Sub.cons rfl (Sub.cons rfl (Sub.cons rfl (Sub.cons rfl (Sub.cons rfl (Sub.cons rfl (Sub.nil _))))))))))))
                                                        · (try dsimp only)
                                                          first | done | exact rfl
                                        · (try simp only [aI] at h20)
                                          try (exfalso; first | contradiction | omega)
                                          all_goals
                                            refine bF (bF (bF (bF (bF (bF (bF (bC (iU rfl rfl (iU rfl rfl (aV rfl (aA (aj (pJ (ay (ah (aN rfl (aN rfl (aU (iY rfl rfl) (aV rfl (aA (aj (aP rfl (fun h24 => ?_) (fun h24 => ?_)))))))))))))))))))))))
                                            · (try simp only [aI] at h24)
                                              try (exfalso; first | contradiction | omega)
                                              all_goals
                                                refine ah (aN rfl (aV rfl (aA (aH ?_))))
                                                refine bZ (()) ?_ ?_ ?_
                                                · exact (Sub.iG rfl (by simp_all) (Sub.nil _))
                                                · exact (Sub.cons rfl (Sub.cons rfl (Sub.cons rfl (Sub.cons rfl (Sub.cons rfl (Sub.cons rfl (Sub.cons rfl (Sub.cons rfl (Sub.cons rfl (Sub.cons rfl (Sub.cons rfl (Sub.nil _))))))))))))
                                                · (try dsimp only)
                                                  first | done | exact rfl
                                            · (try simp only [aI] at h24)
                                              try (exfalso; first | contradiction | omega)
                                              all_goals
                                                refine ay (ah (aN rfl (aV rfl (aA (aj (aP rfl (fun h25 => ?_) (fun h25 => ?_)))))))
                                                · (try simp only [aI] at h25)
                                                  try (exfalso; first | contradiction | omega)
                                                  all_goals
                                                    refine ah (aN rfl (aN rfl ?_))
                                                    obtain ⟨bv, ov, cv, ev⟩ := Rd.lD (hv _ (HL)) (by omega)
                                                    cases ev
                                                    refine aU (cZ underlying22 sizeOf23 rfl rfl (by omega)) ?_
                                                    refine aU (fJ (bW underlying23 rfl) rfl (by first | exact Rd.pX (hv _ (HL)) (by omega) | exact Rd.Es (hv _ (HL)) (by omega) | exact Rd.CY (hv _ (HL)) (by omega))) ?_
                                                    refine oh (fun aaS Ug => ?_)
                                                    refine aU (gG ((by rw [Ug]; exact he _ (by omega) _ (HL))) underlying23 rfl) ?_
                                                    refine aV rfl (aA (aH ?_))
                                                    refine bZ (()) ?_ ?_ ?_
                                                    · exact (Sub.iG rfl (by simp_all) (Sub.nil _))
                                                    · exact (Sub.cons rfl (Sub.cons rfl (Sub.cons rfl (Sub.cons rfl (Sub.cons rfl (Sub.cons rfl (Sub.cons rfl (Sub.cons rfl (Sub.cons rfl (Sub.cons rfl (Sub.cons rfl (Sub.nil _))))))))))))
                                                    · (try dsimp only)
                                                      first | done | exact rfl
                                                · (try simp only [aI] at h25)
                                                  try (exfalso; first | contradiction | omega)
                                                  all_goals
                                                    refine aT (aH ?_)
                                                    refine bZ (()) ?_ ?_ ?_
                                                    · exact (Sub.iG rfl (by simp_all) (Sub.nil _))
                                                    · exact (Sub.cons rfl (Sub.cons rfl (Sub.cons rfl (Sub.cons rfl (Sub.cons rfl (Sub.cons rfl (Sub.cons rfl (Sub.cons rfl (Sub.cons rfl (Sub.cons rfl (Sub.cons rfl (Sub.nil _))))))))))))
                                                    · (try dsimp only)
                                                      first | done | exact rfl
                                    · (try simp only [aI] at h19)
                                      try (exfalso; first | contradiction | omega)
                                      all_goals
                                        refine bF (bF (bC (iU rfl rfl (bC (aN rfl (bF (bF (bF (bF (bF (bF (bF (bC (iU rfl rfl (iU rfl rfl (aV rfl (aA (aj (pJ (ay (ah (aN rfl (aN rfl (aU (iY rfl rfl) (aV rfl (aA (aj (aP rfl (fun h26 => ?_) (fun h26 => ?_)))))))))))))))))))))))))))))
                                        · (try simp only [aI] at h26)
                                          try (exfalso; first | contradiction | omega)
                                          all_goals
                                            refine ah (aN rfl (aV rfl (aA (aH ?_))))
                                            refine bZ (()) ?_ ?_ ?_
                                            · exact (Sub.iG rfl (by simp_all) (Sub.nil _))
                                            · exact (Sub.cons rfl (Sub.cons rfl (Sub.cons rfl (Sub.cons rfl (Sub.cons rfl (Sub.cons rfl (Sub.cons rfl (Sub.cons rfl (Sub.cons rfl (Sub.cons rfl (Sub.cons rfl (Sub.nil _))))))))))))
                                            · (try dsimp only)
                                              first | done | exact rfl
                                        · (try simp only [aI] at h26)
                                          try (exfalso; first | contradiction | omega)
                                          all_goals
                                            refine ay (ah (aN rfl (aV rfl (aA (aj (aP rfl (fun h27 => ?_) (fun h27 => ?_)))))))
                                            · (try simp only [aI] at h27)
                                              try (exfalso; first | contradiction | omega)
                                              all_goals
                                                refine ah (aN rfl (aN rfl ?_))
                                                obtain ⟨bv, ov, cv, ev⟩ := Rd.lD (hv _ (HL)) (by omega)
                                                cases ev
                                                refine aU (cZ underlying22 sizeOf23 rfl rfl (by omega)) ?_
                                                refine aU (fJ (bW underlying23 rfl) rfl (by first | exact Rd.pX (hv _ (HL)) (by omega) | exact Rd.Es (hv _ (HL)) (by omega) | exact Rd.CY (hv _ (HL)) (by omega))) ?_
                                                refine oh (fun aaT Uh => ?_)
                                                refine aU (gG ((by rw [Uh]; exact he _ (by omega) _ (HL))) underlying23 rfl) ?_
                                                refine aV rfl (aA (aH ?_))
                                                refine bZ (()) ?_ ?_ ?_
                                                · exact (Sub.iG rfl (by simp_all) (Sub.nil _))
                                                · exact (Sub.cons rfl (Sub.cons rfl (Sub.cons rfl (Sub.cons rfl (Sub.cons rfl (Sub.cons rfl (Sub.cons rfl (Sub.cons rfl (Sub.cons rfl (Sub.cons rfl (Sub.cons rfl (Sub.nil _))))))))))))
                                                · (try dsimp only)
                                                  first | done | exact rfl
                                            · (try simp only [aI] at h27)
                                              try (exfalso; first | contradiction | omega)
                                              all_goals
                                                refine aT (aH ?_)
                                                refine bZ (()) ?_ ?_ ?_
                                                · exact (Sub.iG rfl (by simp_all) (Sub.nil _))
                                                · exact (Sub.cons rfl (Sub.cons rfl (Sub.cons rfl (Sub.cons rfl (Sub.cons rfl (Sub.cons rfl (Sub.cons rfl (Sub.cons rfl (Sub.cons rfl (Sub.cons rfl (Sub.cons rfl (Sub.nil _))))))))))))
                                                · (try dsimp only)
                                                  first | done | exact rfl
                            · (try simp only [aI] at h7)
                              try (exfalso; first | contradiction | omega)
                              all_goals
                                refine bF (iU rfl rfl (aN rfl (bF (bF (iU rfl rfl (aN rfl (bC (aN rfl (bC (aN rfl (bC (aU (iY rfl rfl) (bC (jy rfl (fun h28 => ?_) (fun h28 => ?_)))))))))))))))
                                · (try simp only [aI] at h28)
                                  try (exfalso; first | contradiction | omega)
                                  all_goals
                                    refine bC (aN rfl (bC (aU (kJ rfl) (bC (jw rfl rfl (bC (jy rfl (fun h29 => ?_) (fun h29 => ?_))))))))
                                    · (try simp only [aI] at h29)
                                      try (exfalso; first | contradiction | omega)
                                      all_goals
                                        refine bC (aN rfl (bC (aN rfl (bC (aN rfl (bC ?_))))))
                                        obtain ⟨bv, ov, cv, ev⟩ := Rd.lD (hv _ (HL)) (by omega)
                                        cases ev
                                        refine aU (cZ underlying22 sizeOf23 rfl rfl (by omega)) (bC ?_)
                                        refine aU (fJ (bW underlying23 rfl) rfl (by first | exact Rd.pX (hv _ (HL)) (by omega) | exact Rd.Es (hv _ (HL)) (by omega) | exact Rd.CY (hv _ (HL)) (by omega))) ?_
                                        refine oh (fun aaU Ui => ?_)
                                        refine bC ?_
                                        refine aU (gG ((by rw [Ui]; exact he _ (by omega) _ (HL))) underlying23 rfl) ?_
                                        refine bC (aU (fZ rfl rfl) (bC (jw rfl rfl (iU rfl rfl (aV rfl (aA (aj (aP rfl (fun h30 => ?_) (fun h30 => ?_)))))))))
                                        · (try simp only [aI] at h30)
                                          try (exfalso; first | contradiction | omega)
                                          all_goals
                                            refine dL ?_
                                            refine jW (by decide) ?_
                                            refine aW (bD (aj (ah (aN rfl (aN rfl (aU (dS rfl rfl (by omega)) (aV rfl (aA ?_))))))))
                                            refine dA (i + if back then -1 else 1) ?_ ?_ ?_ ?_
                                            · exact (Sub.cons rfl (Sub.nil _))
                                            · exact (Sub.cons rfl (Sub.cons rfl (Sub.cons rfl (Sub.cons rfl (Sub.cons rfl (Sub.cons rfl (Sub.nil _)))))))
                                            · (try dsimp only)
                                              first | done | exact ⟨⟨by cases back <;> simp at * <;> omega, by cases back <;> simp at * <;> omega, by cases back <;> simp at * <;> omega, e1.trans (uO hi0 hil (by first | exact hno | exact wK (by simpa using ‹back = true›) (by omega) (by omega) | exact wL (by simp_all) (by omega) (by omega)))⟩, HL⟩
                                            · cases back <;> simp <;> omega
                                        · (try simp only [aI] at h30)
                                          try (exfalso; first | contradiction | omega)
                                          all_goals
                                            refine ay (ah (aN rfl (aN rfl (aU (iY rfl rfl) (aV rfl (aA (aj (aP rfl (fun h31 => ?_) (fun h31 => ?_)))))))))
                                            · (try simp only [aI] at h31)
                                              try (exfalso; first | contradiction | omega)
                                              all_goals
                                                refine ah (aN rfl (aV rfl (aA (aH ?_))))
                                                refine bZ (()) ?_ ?_ ?_
                                                · exact (Sub.iG rfl (by simp_all) (Sub.nil _))
                                                · exact (Sub.cons rfl (Sub.cons rfl (Sub.cons rfl (Sub.cons rfl (Sub.cons rfl (Sub.cons rfl (Sub.cons rfl (Sub.cons rfl (Sub.cons rfl (Sub.cons rfl (Sub.cons rfl (Sub.nil _))))))))))))
                                                · (try dsimp only)
                                                  first | done | exact rfl
                                            · (try simp only [aI] at h31)
                                              try (exfalso; first | contradiction | omega)
                                              all_goals
                                                refine ay (ah (aN rfl (aV rfl (aA (aj (aP rfl (fun h32 => ?_) (fun h32 => ?_)))))))
                                                · (try simp only [aI] at h32)
                                                  try (exfalso; first | contradiction | omega)
                                                  all_goals
                                                    refine ah (aN rfl (aN rfl (aU (cZ underlying22 sizeOf23 rfl rfl (by omega)) ?_)))
                                                    refine aU (fJ (bW underlying23 rfl) rfl (by first | exact Rd.pX (hv _ (HL)) (by omega) | exact Rd.Es (hv _ (HL)) (by omega) | exact Rd.CY (hv _ (HL)) (by omega))) ?_
                                                    refine oh (fun aaV Uj => ?_)
                                                    refine aU (gG ((by rw [Uj]; exact he _ (by omega) _ (HL))) underlying23 rfl) ?_
                                                    refine aV rfl (aA (aH ?_))
                                                    refine bZ (()) ?_ ?_ ?_
                                                    · exact (Sub.iG rfl (by simp_all) (Sub.nil _))
                                                    · exact (Sub.cons rfl (Sub.cons rfl (Sub.cons rfl (Sub.cons rfl (Sub.cons rfl (Sub.cons rfl (Sub.cons rfl (Sub.cons rfl (Sub.cons rfl (Sub.cons rfl (Sub.cons rfl (Sub.nil _))))))))))))
                                                    · (try dsimp only)
                                                      first | done | exact rfl
                                                · (try simp only [aI] at h32)
                                                  try (exfalso; first | contradiction | omega)
                                                  all_goals
                                                    refine aT (aH ?_)
                                                    refine bZ (()) ?_ ?_ ?_
                                                    · exact (Sub.iG rfl (by simp_all) (Sub.nil _))
                                                    · exact (Sub.cons rfl (Sub.cons rfl (Sub.cons rfl (Sub.cons rfl (Sub.cons rfl (Sub.cons rfl (Sub.cons rfl (Sub.cons rfl (Sub.cons rfl (Sub.cons rfl (Sub.cons rfl (Sub.nil _))))))))))))
                                                    · (try dsimp only)
                                                      first | done | exact rfl
                                    · (try simp only [aI] at h29)
                                      try (exfalso; first | contradiction | omega)
                                      all_goals
                                        refine bF (bF (bF (bF (bF (bF (bF (bC (iU rfl rfl (iU rfl rfl (aV rfl (aA (aj (pJ (ay (ah (aN rfl (aN rfl (aU (iY rfl rfl) (aV rfl (aA (aj (aP rfl (fun h33 => ?_) (fun h33 => ?_)))))))))))))))))))))))
                                        · (try simp only [aI] at h33)
                                          try (exfalso; first | contradiction | omega)
                                          all_goals
                                            refine ah (aN rfl (aV rfl (aA (aH ?_))))
                                            refine bZ (()) ?_ ?_ ?_
                                            · exact (Sub.iG rfl (by simp_all) (Sub.nil _))
                                            · exact (Sub.cons rfl (Sub.cons rfl (Sub.cons rfl (Sub.cons rfl (Sub.cons rfl (Sub.cons rfl (Sub.cons rfl (Sub.cons rfl (Sub.cons rfl (Sub.cons rfl (Sub.cons rfl (Sub.nil _))))))))))))
                                            · (try dsimp only)
                                              first | done | exact rfl
                                        · (try simp only [aI] at h33)
                                          try (exfalso; first | contradiction | omega)
                                          all_goals
                                            refine ay (ah (aN rfl (aV rfl (aA (aj (aP rfl (fun h34 => ?_) (fun h34 => ?_)))))))
                                            · (try simp only [aI] at h34)
                                              try (exfalso; first | contradiction | omega)
                                              all_goals
                                                refine ah (aN rfl (aN rfl ?_))
                                                obtain ⟨bv, ov, cv, ev⟩ := Rd.lD (hv _ (HL)) (by omega)
                                                cases ev
                                                refine aU (cZ underlying22 sizeOf23 rfl rfl (by omega)) ?_
                                                refine aU (fJ (bW underlying23 rfl) rfl (by first | exact Rd.pX (hv _ (HL)) (by omega) | exact Rd.Es (hv _ (HL)) (by omega) | exact Rd.CY (hv _ (HL)) (by omega))) ?_
                                                refine oh (fun aaW Uk => ?_)
                                                refine aU (gG ((by rw [Uk]; exact he _ (by omega) _ (HL))) underlying23 rfl) ?_
                                                refine aV rfl (aA (aH ?_))
                                                refine bZ (()) ?_ ?_ ?_
                                                · exact (Sub.iG rfl (by simp_all) (Sub.nil _))
                                                · exact (Sub.cons rfl (Sub.cons rfl (Sub.cons rfl (Sub.cons rfl (Sub.cons rfl (Sub.cons rfl (Sub.cons rfl (Sub.cons rfl (Sub.cons rfl (Sub.cons rfl (Sub.cons rfl (Sub.nil _))))))))))))
                                                · (try dsimp only)
                                                  first | done | exact rfl
                                            · (try simp only [aI] at h34)
                                              try (exfalso; first | contradiction | omega)
                                              all_goals
                                                refine aT (aH ?_)
                                                refine bZ (()) ?_ ?_ ?_
                                                · exact (Sub.iG rfl (by simp_all) (Sub.nil _))
                                                · exact (Sub.cons rfl (Sub.cons rfl (Sub.cons rfl (Sub.cons rfl (Sub.cons rfl (Sub.cons rfl (Sub.cons rfl (Sub.cons rfl (Sub.cons rfl (Sub.cons rfl (Sub.cons rfl (Sub.nil _))))))))))))
                                                · (try dsimp only)
                                                  first | done | exact rfl
                                · (try simp only [aI] at h28)
                                  try (exfalso; first | contradiction | omega)
                                  all_goals
                                    refine bF (bF (bC (iU rfl rfl (bC (aN rfl (bF (bF (bF (bF (bF (bF (bF (bC (iU rfl rfl (iU rfl rfl (aV rfl (aA (aj (pJ (ay (ah (aN rfl (aN rfl (aU (iY rfl rfl) (aV rfl (aA (aj (aP rfl (fun h35 => ?_) (fun h35 => ?_)))))))))))))))))))))))))))))
                                    · (try simp only [aI] at h35)
                                      try (exfalso; first | contradiction | omega)
                                      all_goals
                                        refine ah (aN rfl (aV rfl (aA (aH ?_))))
                                        refine bZ (()) ?_ ?_ ?_
                                        · exact (Sub.iG rfl (by simp_all) (Sub.nil _))
                                        · exact (Sub.cons rfl (Sub.cons rfl (Sub.cons rfl (Sub.cons rfl (Sub.cons rfl (Sub.cons rfl (Sub.cons rfl (Sub.cons rfl (Sub.cons rfl (Sub.cons rfl (Sub.cons rfl (Sub.nil _))))))))))))
                                        · (try dsimp only)
                                          first | done | exact rfl
                                    · (try simp only [aI] at h35)
                                      try (exfalso; first | contradiction | omega)
                                      all_goals
                                        refine ay (ah (aN rfl (aV rfl (aA (aj (aP rfl (fun h36 => ?_) (fun h36 => ?_)))))))
                                        · (try simp only [aI] at h36)
                                          try (exfalso; first | contradiction | omega)
                                          all_goals
                                            refine ah (aN rfl (aN rfl ?_))
                                            obtain ⟨bv, ov, cv, ev⟩ := Rd.lD (hv _ (HL)) (by omega)
                                            cases ev
                                            refine aU (cZ underlying22 sizeOf23 rfl rfl (by omega)) ?_
                                            refine aU (fJ (bW underlying23 rfl) rfl (by first | exact Rd.pX (hv _ (HL)) (by omega) | exact Rd.Es (hv _ (HL)) (by omega) | exact Rd.CY (hv _ (HL)) (by omega))) ?_
                                            refine oh (fun aaX Ul => ?_)
                                            refine aU (gG ((by rw [Ul]; exact he _ (by omega) _ (HL))) underlying23 rfl) ?_
                                            refine aV rfl (aA (aH ?_))
                                            refine bZ (()) ?_ ?_ ?_
                                            · exact (Sub.iG rfl (by simp_all) (Sub.nil _))
                                            · exact (Sub.cons rfl (Sub.cons rfl (Sub.cons rfl (Sub.cons rfl (Sub.cons rfl (Sub.cons rfl (Sub.cons rfl (Sub.cons rfl (Sub.cons rfl (Sub.cons rfl (Sub.cons rfl (Sub.nil _))))))))))))
                                            · (try dsimp only)
                                              first | done | exact rfl
                                        · (try simp only [aI] at h36)
                                          try (exfalso; first | contradiction | omega)
                                          all_goals
                                            refine aT (aH ?_)
                                            refine bZ (()) ?_ ?_ ?_
                                            · exact (Sub.iG rfl (by simp_all) (Sub.nil _))
                                            · exact (Sub.cons rfl (Sub.cons rfl (Sub.cons rfl (Sub.cons rfl (Sub.cons rfl (Sub.cons rfl (Sub.cons rfl (Sub.cons rfl (Sub.cons rfl (Sub.cons rfl (Sub.cons rfl (Sub.nil _))))))))))))
                                            · (try dsimp only)
                                              first | done | exact rfl
                      · (try simp only [aI] at h5)
                        try (exfalso; first | contradiction | omega)
                        all_goals
                          refine dL (aW (aW (bD (aj (ay (ah (aV rfl (aV rfl (aV rfl (aA (aj (aJ ?_))))))))))))
                          refine kY ?_
                          refine wO (.inl rfl) results7 rfl rfl rfl ?_
                          exact ⟨by rw [e1, Ed (by omega) hbk hfw], HL⟩
                  · (try simp only [aI] at h4)
                    try (exfalso; first | contradiction | omega)
                    all_goals
                      refine bF (bF (bF (bF (iU rfl rfl (aA (aj (pJ (dL (aW (aW (bD (aj (ay (ah (aV rfl (aV rfl (aV rfl (aA (aj (aJ ?_))))))))))))))))))))
                      refine kY ?_
                      refine wO (.inl rfl) results7 rfl rfl rfl ?_
                      exact ⟨by rw [e1, Ed (by omega) hbk hfw], HL⟩
                · skip
                  refine RH ?_
                  refine bZ (()) ?_ ?_ ?_
                  · exact (Sub.iG rfl (by simp_all) (Sub.nil _))
                  · exact (Sub.cons rfl (Sub.cons rfl (Sub.cons rfl (Sub.cons rfl (Sub.cons rfl (Sub.nil _))))))
                  · (try dsimp only)
                    first | done | exact rfl
              · skip
                refine ay (ah (aN rfl (aA (aj (aP rfl (fun h37 => ?_) (fun h37 => ?_))))))
                · (try simp only [aI] at h37)
                  try (exfalso; first | contradiction | omega)
                  all_goals
                    refine ah (aV rfl (aA ?_))
                    refine bZ (()) ?_ ?_ ?_
                    · exact (Sub.iG rfl (by simp_all) (Sub.nil _))
                    · exact (Sub.cons rfl (Sub.cons rfl (Sub.cons rfl (Sub.cons rfl (Sub.cons rfl (Sub.nil _))))))
                    · (try dsimp only)
                      first | done | exact rfl
                · (try simp only [aI] at h37)
                  try (exfalso; first | contradiction | omega)
                  all_goals
                    refine aT ?_
                    refine bZ (()) ?_ ?_ ?_
                    · exact (Sub.iG rfl (by simp_all) (Sub.nil _))
                    · exact (Sub.cons rfl (Sub.cons rfl (Sub.cons rfl (Sub.cons rfl (Sub.cons rfl (Sub.nil _))))))
                    · (try dsimp only)
                      first | done | exact rfl
end
end Go.Proofs.YtddekefihgejoaaGreatDoor
end
